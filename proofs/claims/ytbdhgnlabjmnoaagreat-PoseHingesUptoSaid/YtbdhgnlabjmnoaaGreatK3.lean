/- PoseHinges: a part of its proof. No condition. -/
import Derived.Test.YtbdhgnlabjmnoaaGreatK2
import Derived.MapKept
import Derived.RangeFuncIn
import Derived.RangeFuncLeaves
import Derived.RangeFuncRecord
import Derived.OrdersIn
set_option linter.all false
set_option maxRecDepth 100000
set_option autoImplicit true
set_option relaxedAutoImplicit true
namespace Go.Av
open Go.Proofs Go.RowKit
def byteAt (s : ByteArray) (i : Nat) : Int := (((s.data.toList.getD i 0).toNat : Nat) : Int)
def nameChar (c : Int) : Prop := c = 95 \/ (48 <= c /\ c <= 57) \/ (97 <= c /\ c <= 122) \/ (65 <= c /\ c <= 90)
instance (c : Int) : Decidable (nameChar c) := by unfold nameChar; infer_instance
def isNameB (s : ByteArray) : Bool := decide (1 <= s.size /\ s.size <= 32 /\ ¬ (48 <= byteAt s 0 /\ byteAt s 0 <= 57) /\ ∀ i, i < s.size -> nameChar (byteAt s i))
def k187 : KF
 | [.str s] => some (.bool (isNameB s), [])
 | _ => none
section
variable {S : Nat -> Prop} {w0 : World}
theorem ret187 {s : ByteArray} {todo : List Item} {σ : List AV} {h : List (Option ABlk)} {b : Bool} (e : b = isNameB s) (hσ : σ.getD 2 .any = .bool b) : GF 187 S w0 (.bool (isNameB s)) (.code .ret :: todo) ⟨σ, h⟩ :=
 good_ret1 TT0_ok (fn := Tryz.f187) (by kernel_rfl) 2 (by kernel_rfl) rfl (by rw [hσ]; rfl) (by rw [hσ, e]; exact rr)
noncomputable abbrev T187 : List Item := [.code (nav [1, 1, 0, 1, 0, 0] (bodyOf Tryz.f187)), .inLoop (nav [1, 1, 0, 1, 0, 0] (bodyOf Tryz.f187)), .inBlock 0, .code (nav [1, 1, 1] (bodyOf Tryz.f187))]
theorem loop187 {s : ByteArray} (h1 : 1 <= s.size /\ s.size <= 32 /\ ¬ (48 <= byteAt s 0 /\ byteAt s 0 <= 57)) :
   GF 187 S w0 (.bool (isNameB s)) T187 ⟨slots 61 [(0, .str s), (24, .i6 ((s.size : Nat) : Int)), (25, .i6 ((0 : Nat) : Int))], []⟩ := by
 refine down (G := fun i => (∀ j, j < i -> nameChar (byteAt s j)) -> GF 187 S w0 (.bool (isNameB s)) T187 ⟨slots 61 [(0, .str s), (24, .i6 ((s.size : Nat) : Int)), (25, .i6 ((i : Nat) : Int))], []⟩) s.size ?_ ?_ (fun j hj => absurd hj (Nat.not_lt_zero j))
 · intro hj
   exact rF KT187_ok [(26, ff)] (.a1 (iF (om (¬ ((s.size : Int) < (s.size : Int)))))) (V := .bool true) (Ref.bool (decide_eq_true ⟨h1.1, h1.2.1, h1.2.2, hj⟩).symm)
 · intro i hlt ih hj
   have c1 : ((i : Nat) : Int) < ((s.size : Nat) : Int) := by omega
   generalize hc : byteAt s i = c at *; have bad : ¬ nameChar c -> false = isNameB s := fun h => (decide_eq_false fun k => h (hc ▸ k.2.2.2 i hlt)).symm
   have good : nameChar c -> ∀ j, j < i + 1 -> nameChar (byteAt s j) := fun h j hj' => by
     by_cases e : j = i
     · subst e; rw [hc]; exact h
     · exact hj j (by omega)
   have v0 : Ref (.int .u8 ((s.data.toList.getD i 0).toNat : Int)) (.int .u8 c) := Ref.int hc
   by_cases c2 : c = (95 : Int)
   · exact gN KT187_ok [0, 2, 24, 25] [(26, tt), (30, .int .u8 c), (33, ff), (60, .i6 ((i + 1 : Nat) : Int))] (.a6 (iT c1) v0 (nn i) c1 (jF c2) (wI ((i : Int) + (1 : Int)) ((i + 1 : Nat) : Int))) (ih (good (by unfold nameChar; omega)))
   · by_cases c3 : (48 : Int) <= c
     · by_cases c4 : c <= (57 : Int)
       · exact gN KT187_ok [0, 2, 24, 25] [(26, tt), (30, .int .u8 c), (33, tt), (36, tt), (42, ff), (60, .i6 ((i + 1 : Nat) : Int))] (.c6 (iT c1) v0 (nn i) c1 (jT c2) (iT c3) (.a2 (jF c4) (wI ((i : Int) + (1 : Int)) ((i + 1 : Nat) : Int)))) (ih (good (by unfold nameChar; omega)))
       · by_cases c5 : (97 : Int) <= c
         · by_cases c6 : c <= (122 : Int)
           · exact gN KT187_ok [0, 2, 24, 25] [(26, tt), (30, .int .u8 c), (33, tt), (36, tt), (42, tt), (45, tt), (51, ff), (60, .i6 ((i + 1 : Nat) : Int))] (.c6 (iT c1) v0 (nn i) c1 (jT c2) (iT c3) (.a4 (jT c4) (iT c5) (jF c6) (wI ((i : Int) + (1 : Int)) ((i + 1 : Nat) : Int)))) (ih (good (by unfold nameChar; omega)))
           · by_cases c7 : (65 : Int) <= c
             · by_cases c8 : c <= (90 : Int)
               · exact gN KT187_ok [0, 2, 24, 25] [(26, tt), (30, .int .u8 c), (33, tt), (36, tt), (42, tt), (45, tt), (51, tt), (54, tt), (59, ff), (60, .i6 ((i + 1 : Nat) : Int))] (.c6 (iT c1) v0 (nn i) c1 (jT c2) (iT c3) (.a6 (jT c4) (iT c5) (jT c6) (iT c7) (jF c8) (wI ((i : Int) + (1 : Int)) ((i + 1 : Nat) : Int)))) (ih (good (by unfold nameChar; omega)))
               · exact rF KT187_ok [(26, tt), (30, .int .u8 c), (33, tt), (36, tt), (42, tt), (45, tt), (51, tt), (54, tt), (59, tt)] (.c6 (iT c1) v0 (nn i) c1 (jT c2) (iT c3) (.a5 (jT c4) (iT c5) (jT c6) (iT c7) (jT c8))) (V := .bool false) (Ref.bool (bad (by unfold nameChar; omega)))
             · exact rF KT187_ok [(26, tt), (30, .int .u8 c), (33, tt), (36, tt), (42, tt), (45, tt), (51, tt), (54, ff)] (.c6 (iT c1) v0 (nn i) c1 (jT c2) (iT c3) (.a4 (jT c4) (iT c5) (jT c6) (iF c7))) (V := .bool false) (Ref.bool (bad (by unfold nameChar; omega)))
         · by_cases c6 : (65 : Int) <= c
           · by_cases c7 : c <= (90 : Int)
             · exact gN KT187_ok [0, 2, 24, 25] [(26, tt), (30, .int .u8 c), (33, tt), (36, tt), (42, tt), (45, ff), (54, tt), (59, ff), (60, .i6 ((i + 1 : Nat) : Int))] (.c6 (iT c1) v0 (nn i) c1 (jT c2) (iT c3) (.a5 (jT c4) (iF c5) (iT c6) (jF c7) (wI ((i : Int) + (1 : Int)) ((i + 1 : Nat) : Int)))) (ih (good (by unfold nameChar; omega)))
             · exact rF KT187_ok [(26, tt), (30, .int .u8 c), (33, tt), (36, tt), (42, tt), (45, ff), (54, tt), (59, tt)] (.c6 (iT c1) v0 (nn i) c1 (jT c2) (iT c3) (.a4 (jT c4) (iF c5) (iT c6) (jT c7))) (V := .bool false) (Ref.bool (bad (by unfold nameChar; omega)))
           · exact rF KT187_ok [(26, tt), (30, .int .u8 c), (33, tt), (36, tt), (42, tt), (45, ff), (54, ff)] (.c6 (iT c1) v0 (nn i) c1 (jT c2) (iT c3) (.a3 (jT c4) (iF c5) (iF c6))) (V := .bool false) (Ref.bool (bad (by unfold nameChar; omega)))
     · by_cases c4 : (97 : Int) <= c
       · by_cases c5 : c <= (122 : Int)
         · exact gN KT187_ok [0, 2, 24, 25] [(26, tt), (30, .int .u8 c), (33, tt), (36, ff), (45, tt), (51, ff), (60, .i6 ((i + 1 : Nat) : Int))] (.c6 (iT c1) v0 (nn i) c1 (jT c2) (iF c3) (.a3 (iT c4) (jF c5) (wI ((i : Int) + (1 : Int)) ((i + 1 : Nat) : Int)))) (ih (good (by unfold nameChar; omega)))
         · by_cases c6 : (65 : Int) <= c
           · by_cases c7 : c <= (90 : Int)
             · exact gN KT187_ok [0, 2, 24, 25] [(26, tt), (30, .int .u8 c), (33, tt), (36, ff), (45, tt), (51, tt), (54, tt), (59, ff), (60, .i6 ((i + 1 : Nat) : Int))] (.c6 (iT c1) v0 (nn i) c1 (jT c2) (iF c3) (.a5 (iT c4) (jT c5) (iT c6) (jF c7) (wI ((i : Int) + (1 : Int)) ((i + 1 : Nat) : Int)))) (ih (good (by unfold nameChar; omega)))
             · exact rF KT187_ok [(26, tt), (30, .int .u8 c), (33, tt), (36, ff), (45, tt), (51, tt), (54, tt), (59, tt)] (.c6 (iT c1) v0 (nn i) c1 (jT c2) (iF c3) (.a4 (iT c4) (jT c5) (iT c6) (jT c7))) (V := .bool false) (Ref.bool (bad (by unfold nameChar; omega)))
           · exact rF KT187_ok [(26, tt), (30, .int .u8 c), (33, tt), (36, ff), (45, tt), (51, tt), (54, ff)] (.c6 (iT c1) v0 (nn i) c1 (jT c2) (iF c3) (.a3 (iT c4) (jT c5) (iF c6))) (V := .bool false) (Ref.bool (bad (by unfold nameChar; omega)))
       · by_cases c5 : (65 : Int) <= c
         · by_cases c6 : c <= (90 : Int)
           · exact gN KT187_ok [0, 2, 24, 25] [(26, tt), (30, .int .u8 c), (33, tt), (36, ff), (45, ff), (54, tt), (59, ff), (60, .i6 ((i + 1 : Nat) : Int))] (.c6 (iT c1) v0 (nn i) c1 (jT c2) (iF c3) (.a4 (iF c4) (iT c5) (jF c6) (wI ((i : Int) + (1 : Int)) ((i + 1 : Nat) : Int)))) (ih (good (by unfold nameChar; omega)))
           · exact rF KT187_ok [(26, tt), (30, .int .u8 c), (33, tt), (36, ff), (45, ff), (54, tt), (59, tt)] (.c6 (iT c1) v0 (nn i) c1 (jT c2) (iF c3) (.a3 (iF c4) (iT c5) (jT c6))) (V := .bool false) (Ref.bool (bad (by unfold nameChar; omega)))
         · exact rF KT187_ok [(26, tt), (30, .int .u8 c), (33, tt), (36, ff), (45, ff), (54, ff)] (.c6 (iT c1) v0 (nn i) c1 (jT c2) (iF c3) (.a2 (iF c4) (iF c5))) (V := .bool false) (Ref.bool (bad (by unfold nameChar; omega)))
end
theorem a187 : Ctr 187 k187 := by
 refine ctr Tryz.f187 fun _ _ _ S w0 h ho => ?_
 unfold k187 at h; split at h <;> cases h; rename_i s; have b0 : byteAt s 0 = (((s.data.toList.getD 0 0).toNat : Nat) : Int) := rfl
 by_cases c1 : ((s.size : Nat) : Int) < (1 : Int)
 · exact rF KT187_ok [(8, tt)] (.a1 (iT c1)) (V := .bool false) (Ref.bool (decide_eq_false fun k => by have := k.1; have := k.2.1; have := k.2.2.1; omega).symm)
 · by_cases c2 : (32 : Int) < ((s.size : Nat) : Int)
   · exact rF KT187_ok [(8, ff), (13, tt)] (.a2 (iF c1) (iT c2)) (V := .bool false) (Ref.bool (decide_eq_false fun k => by have := k.1; have := k.2.1; have := k.2.2.1; omega).symm)
   · by_cases c3 : (48 : Int) <= (((s.data.toList.getD 0 0).toNat : Nat) : Int)
     · by_cases c4 : (((s.data.toList.getD 0 0).toNat : Nat) : Int) <= (57 : Int)
       · exact rF KT187_ok [(8, ff), (13, ff), (17, tt), (22, tt)] (.c6 (iF c1) (iF c2) (dc (0 <= (0 : Int))) (om ((0 : Int) < (s.size : Int))) (iT c3) (dc (0 <= (0 : Int))) (.a2 (om ((0 : Int) < (s.size : Int))) (iT c4))) (V := .bool false) (Ref.bool (decide_eq_false fun k => by have := k.1; have := k.2.1; have := k.2.2.1; omega).symm)
       · refine p187_0_3 s c1 c2 c3 c4 (by omega) ?_
         exact Good.weak 61 [(0, _), (24, _), (25, _)] (by kernel_rfl) (.r (.r (.r .nil))) (loop187 ⟨by omega, by omega, by omega⟩)
     · refine p187_0_4 s c1 c2 c3 (by omega) ?_
       exact Good.weak 61 [(0, _), (24, _), (25, _)] (by kernel_rfl) (.r (.r (.r .nil))) (loop187 ⟨by omega, by omega, by omega⟩)
def k113 : KF
 | [.agg [.z n B], .nat m C] => some (.agg [.z (n * (m : Int)) (B + C)], [B + C + 128 <= LIM])
 | _ => none
theorem a113 : Ctr 113 k113 := by
 refine ctr Tryz.f113 fun _ _ _ S w0 h ho => ?_
 unfold k113 at h; split at h <;> cases h; rename_i n B m C; have o1 := ho.one; have K := (kn.cons a115).cons a109; exact rF K [] (.a1 o1) (V := .agg [.z (sgn (decide (n < 0)) (n.natAbs * m)) (B + C)]) (Ref.z1 (sgn_mul n m) (rl _))
theorem add_same {n m : Int} (h : ((decide (n < 0)) == (decide (m < 0))) = true) : sgn (decide (n < 0)) (n.natAbs + m.natAbs) = n + m := by
 by_cases a : n < 0 <;> by_cases b : m < 0 <;> simp [a, b, sgn] at h ⊢ <;> omega
theorem add_diff {n m : Int} (h : ((decide (n < 0)) == (decide (m < 0))) = false) (k : m.natAbs <= n.natAbs) : sgn (decide (n < 0)) (n.natAbs - m.natAbs) = n + m := by
 by_cases a : n < 0 <;> by_cases b : m < 0 <;> simp [a, b, sgn] at h ⊢ <;> omega
def k114 : KF
 | [.agg [.z n B], .agg [.z m C]] => some (.agg [.z (n + m) (max B C + 1)], [max B C + 1 <= LIM])
 | _ => none
theorem a114 : Ctr 114 k114 := by
 refine ctr Tryz.f114 fun _ _ _ S w0 h ho => ?_
 unfold k114 at h; split at h <;> cases h; rename_i n B m C; have o1 := ho.one; have L := limE; have K := (((kn.cons a207).cons a206).cons a203).cons a109; rcases Bool.eq_false_or_eq_true ((decide (n < 0)) == (decide (m < 0))) with h1 | h1
 · refine rF K [(5, tt)] (.a2 (show Ref (.bool ((decide (n < 0)) == (decide (m < 0)))) (.bool true) from Ref.bool h1) o1) (V := .agg [.z (sgn (decide (n < 0)) (n.natAbs + m.natAbs)) (max B C + 1)]) ?_
   refine Ref.z1 ?_ (by omega); exact add_same h1
 · have v0 : Ref (.bool ((decide (n < 0)) == (decide (m < 0)))) (.bool false) := Ref.bool h1
   by_cases h2 : (0 : Int) <= (cmpN n.natAbs m.natAbs)
   · refine rF K [(5, ff), (19, tt)] (.a4 v0 (iT h2) (cmpN_nonneg.1 h2) (om (B <= LIM))) (V := .agg [.z (sgn (decide (n < 0)) (n.natAbs - m.natAbs)) B]) ?_
     refine Ref.z1 ?_ (by omega); exact add_diff h1 (cmpN_nonneg.1 h2)
   · refine rF K [(5, ff), (19, ff)] (.a4 v0 (iF h2) (Nat.le_of_lt (Nat.lt_of_not_le fun h => h2 (cmpN_nonneg.2 h))) (om (C <= LIM))) (V := .agg [.z (sgn (decide (m < 0)) (m.natAbs - n.natAbs)) C]) ?_
     refine Ref.z1 ?_ (by omega); rw [Int.add_comm]; exact add_diff (by rw [<- h1]; exact BEq.comm) (Nat.le_of_lt (Nat.lt_of_not_le fun h => h2 (cmpN_nonneg.2 h)))
def k26 : KF
 | [.agg [.q x B], .agg [.q y C]] => some (.agg [.q (x + y) (B + C + 2)], [B + C + 200 <= LIM])
 | _ => none
theorem a26 : Ctr 26 k26 := by
 refine ctr Tryz.f26 fun _ _ _ S w0 h ho => ?_
 unfold k26 at h; split at h <;> cases h; rename_i x B y C; have o1 := ho.one; have L := limE; have K := ((((kn.cons a115).cons a114).cons a113).cons a112).cons a111; exact rF K [] (.c6 (om (max B 64 + 1 <= LIM)) (om (max C 64 + 1 <= LIM)) (om (B + (C + 1) + 128 <= LIM)) (om (C + (B + 1) + 128 <= LIM)) (om (max (B + (C + 1)) (C + (B + 1)) + 1 <= LIM)) (om ((B + 1) + (C + 1) + 128 <= LIM)) (.a2 (show 0 < (x.den * y.den) by exact Nat.mul_pos x.den_pos y.den_pos) (om (max (max (B + (C + 1)) (C + (B + 1)) + 1) ((B + 1) + (C + 1)) + 128 <= LIM)))) (V := .agg [.q (mkRat ((x.num * (y.den : Int)) + (y.num * (x.den : Int))) (x.den * y.den)) (max (max (B + (C + 1)) (C + (B + 1)) + 1) ((B + 1) + (C + 1)))]) (Ref.q1 (add_mk x y) (by omega))
def k28 : KF
 | [.agg [.q x B], .agg [.q y C]] => some (.agg [.q (x - y) (B + C + 2)], [B + C + 200 <= LIM])
 | _ => none
theorem a28 : Ctr 28 k28 := by
 refine ctr Tryz.f28 fun _ _ _ S w0 h ho => ?_
 unfold k28 at h; split at h <;> cases h; rename_i x B y C; have o1 := ho.one; have K := (kn.cons a59).cons a26; exact rF K [] (.a1 o1) (V := .agg [.q (x + (-y)) (B + C + 2)]) (Ref.q1 (Rat.sub_eq_add_neg x y).symm (rl _))
def k212 : KF
 | [.agg [.q px B, .q pz D], .agg [.q qx C, .q qz E]] => some (.agg [.q (px * qz - pz * qx) (B + D + C + E + 6)], [B + D + C + E + 300 <= LIM])
 | _ => none
theorem a212 : Ctr 212 k212 := by
 refine ctr Tryz.f212 fun _ _ _ S w0 h ho => ?_
 unfold k212 at h; split at h <;> cases h; rename_i px B pz D qx C qz E; have o1 := ho.one; have L := limE; have K := (kn.cons a29).cons a28; exact rF K [] (.a3 (om (B + E + 200 <= LIM)) (om (D + C + 200 <= LIM)) (om ((B + E + 2) + (D + C + 2) + 200 <= LIM))) (V := .agg [.q ((px * qz) - (pz * qx)) ((B + E + 2) + (D + C + 2) + 2)]) (Ref.q1 rfl (by omega))
def k32 : KF
 | [.agg [.q px B, .q pz D], .agg [.q qx C, .q qz E]] => some (.agg [.q (px - qx) (B + C + 2), .q (pz - qz) (D + E + 2)], [B + D + C + E + 300 <= LIM])
 | _ => none
theorem a32 : Ctr 32 k32 := by
 refine ctr Tryz.f32 fun _ _ _ S w0 h ho => ?_
 unfold k32 at h; split at h <;> cases h; rename_i px B pz D qx C qz E; have o1 := ho.one; have L := limE; have K := kn.cons a28; exact rR K [] (.a2 (om (B + C + 200 <= LIM)) (om (D + E + 200 <= LIM)))
def k156 : KF
 | [.agg [.z n B]] => some (.int .i64 (Int.sign n), [])
 | _ => none
theorem a156 : Ctr 156 k156 := by
 refine ctr Tryz.f156 fun _ _ _ S w0 h ho => ?_
 unfold k156 at h; split at h <;> cases h; rename_i n B; refine Good.weak 11 [(0, .agg [.bool (decide (n < 0)), .list 1 (d32 (digits b32 n.natAbs))])] (by kernel_rfl) (.cons (Ref.agg (RefC.zopn.trans (RefC.tl RefC.opn))) .nil) ?_; have hl := digits_pos (b := b32) (n := n.natAbs) (by decide); generalize digits b32 n.natAbs = xs at *; rw [<- @d32_length xs] at hl; rcases Bool.eq_false_or_eq_true (decide (n < 0)) with h1 | h1
 · exact rF .nil [(3, tt)] (.a1 (show Ref (.bool (decide (n < 0))) (.bool true) from Ref.bool h1)) (V := .i6 (-1 : Int)) (Ref.int (Int.sign_eq_neg_one_of_neg (of_decide_eq_true h1)).symm)
 · have v0 : Ref (.bool (decide (n < 0))) (.bool false) := Ref.bool h1
   by_cases h2 : (((d32 xs).length : Nat) : Int) = (0 : Int)
   · refine rF .nil [(3, ff), (6, tt)] (.a2 v0 (iT h2)) (V := .i6 (0 : Int)) ?_
     have h1 := of_decide_eq_false h1; exact Ref.int (by rw [show n = 0 by omega]; rfl)
   · refine rF .nil [(3, ff), (6, ff)] (.a2 v0 (iF h2)) (V := .i6 (1 : Int)) ?_
     have h1 := of_decide_eq_false h1; exact Ref.int (Int.sign_eq_one_of_pos (by omega)).symm
def k60 : KF
 | [.agg [.q x B]] => some (.int .i64 (Int.sign x.num), [])
 | _ => none
theorem a60 : Ctr 60 k60 := by
 refine ctr Tryz.f60 fun _ _ _ S w0 h ho => ?_
 unfold k60 at h; split at h <;> cases h; rename_i x B; have K := kn.cons a156; exact rR K [] .nil
def KT254_ok := ((kn.cons a212).cons a60).cons a32
section
variable {S0 C0 : Nat -> Prop} {w0 : World} {Post : Value -> World -> Prop}
theorem p254_2_2 (l : List PtD) (i n k : Nat) (a b c : PtD) (h1 : ¬ ((k : Int) < (n : Int))) (o : (-9223372036854775808 <= (i : Int) + (1 : Int) /\ (i : Int) + (1 : Int) <= 9223372036854775807))
   (hg : Good Tryz.prog 254 S0 C0 w0 Post [.code (nav [1, 1, 1, 0, 1, 0, 0] (bodyOf Tryz.f254)), .inLoop (nav [1, 1, 1, 0, 1, 0, 0] (bodyOf Tryz.f254)), .inBlock 0, .code (nav [1, 1, 1, 1] (bodyOf Tryz.f254))] ⟨slots 56 [(0, .list 6 (l.map (unP 300))), (3, .i6 (n : Int)), (4, .i6 (i : Int)), (5, .ptr 0 6 0 0), (6, .ptr 1 6 0 0), (7, .i6 (k : Int)), (20, .list 6 (l.map (unP 300))), (21, .i6 (n : Int)), (22, .i6 ((i + 1 : Nat) : Int))], [some ⟨58, 6, false, [[.q a.x 300, .q a.z 300]], none⟩, some ⟨58, 6, false, [[.q b.x 300, .q b.z 300]], none⟩]⟩) :
   Good Tryz.prog 254 S0 C0 w0 Post [.code (nav [1, 1, 1, 0, 1, 0, 0, 1, 1, 0, 0, 1, 1, 1, 0, 0] (bodyOf Tryz.f254)), .inLoop (nav [1, 1, 1, 0, 1, 0, 0, 1, 1, 0, 0, 1, 1, 1, 0, 0] (bodyOf Tryz.f254)), .inBlock 2, .inBlock 1, .code (nav [1, 1, 1, 0, 1, 0, 0, 1, 1, 1] (bodyOf Tryz.f254)), .inLoop (nav [1, 1, 1, 0, 1, 0, 0] (bodyOf Tryz.f254)), .inBlock 0, .code (nav [1, 1, 1, 1] (bodyOf Tryz.f254))] ⟨slots 56 [(0, .list 6 (l.map (unP 300))), (3, .i6 (n : Int)), (4, .i6 (i : Int)), (5, .ptr 0 6 0 0), (6, .ptr 1 6 0 0), (7, .i6 (k : Int)), (20, .list 6 (l.map (unP 300))), (21, .i6 (n : Int)), (22, .i6 (i : Int))], [some ⟨58, 6, false, [[.q a.x 300, .q a.z 300]], none⟩, some ⟨58, 6, false, [[.q b.x 300, .q b.z 300]], none⟩]⟩ :=
 go mixed TT0_ok KT254_ok 13 none [0, 2, 3, 4, 5, 6, 7, 20, 21, 22] [(36, (.bool false)), (55, (.i6 ((i + 1 : Nat) : Int)))] (ob := [Ref (.bool (decide ((k : Int) < (n : Int)))) (.bool false), Ref (.i6 (IntKind.i64.wrap ((i : Int) + (1 : Int)))) (.i6 ((i + 1 : Nat) : Int))]) (by kernel_rfl)
   (.cons (Ref.bool (decide_eq_false h1)) (.cons ((Ref.wr o).trans (Ref.int (by rfl))) (AllP.nil))) hg
end
def turnS (l : List PtD) (i k : Nat) : Int :=
 Int.sign (((l.getD ((i + 1) % l.length) default).x - (l.getD i default).x) * ((l.getD ((i + k) % l.length) default).z - (l.getD i default).z) - ((l.getD ((i + 1) % l.length) default).z - (l.getD i default).z) * ((l.getD ((i + k) % l.length) default).x - (l.getD i default).x)).num
def convexB (l : List PtD) : Bool := decide ((l.length = 0 \/ 3 <= l.length /\ l.length <= 12) /\ ∀ i, i < l.length -> ∀ k, k < l.length -> 2 <= k -> 0 < turnS l i k)
def k254 : KF
 | [.list 6 X] => some (.bool (convexB (X.map rePt)), [X = (X.map rePt).map (unP 300)])
 | _ => none
section
variable {S : Nat -> Prop} {w0 : World}
noncomputable abbrev T254 : List Item := [.code (nav [1, 1, 1, 0, 1, 0, 0] (bodyOf Tryz.f254)), .inLoop (nav [1, 1, 1, 0, 1, 0, 0] (bodyOf Tryz.f254)), .inBlock 0, .code (nav [1, 1, 1, 1] (bodyOf Tryz.f254))]
noncomputable abbrev T254i : List Item := [.code (nav [1, 1, 1, 0, 1, 0, 0, 1, 1, 0, 0, 1, 1, 1, 0, 0] (bodyOf Tryz.f254)), .inLoop (nav [1, 1, 1, 0, 1, 0, 0, 1, 1, 0, 0, 1, 1, 1, 0, 0] (bodyOf Tryz.f254)), .inBlock 2, .inBlock 1, .code (nav [1, 1, 1, 0, 1, 0, 0, 1, 1, 1] (bodyOf Tryz.f254)), .inLoop (nav [1, 1, 1, 0, 1, 0, 0] (bodyOf Tryz.f254)), .inBlock 0, .code (nav [1, 1, 1, 1] (bodyOf Tryz.f254))]
theorem ret254 {l : List PtD} {todo : List Item} {σ : List AV} {h : List (Option ABlk)} {b : Bool} (e : b = convexB l) (hσ : σ.getD 2 .any = .bool b) : GF 254 S w0 (.bool (convexB l)) (.code .ret :: todo) ⟨σ, h⟩ :=
 good_ret1 TT0_ok (fn := Tryz.f254) (by kernel_rfl) 2 (by kernel_rfl) rfl (by rw [hσ]; rfl) (by rw [hσ, e]; exact rr)
theorem getPt {l : List PtD} {i : Nat} (h : i < l.length) : Ref (.cptr ((l.map (unP 300)).getD i []) 0) (.cptr [.q (l.getD i default).x 300, .q (l.getD i default).z 300] 0) := Ref.cmap (f := unP 300) h
theorem inner254 {l : List PtD} {i : Nat} (hi : i < l.length) (h3 : 3 <= l.length /\ l.length <= 12)
   (next : (∀ k, k < l.length -> 2 <= k -> 0 < turnS l i k) -> GF 254 S w0 (.bool (convexB l)) T254 ⟨slots 56 [(0, .list 6 (l.map (unP 300))), (3, .i6 ((l.length : Nat) : Int)), (20, .list 6 (l.map (unP 300))), (21, .i6 ((l.length : Nat) : Int)), (22, .i6 ((i + 1 : Nat) : Int))], []⟩) :
   GF 254 S w0 (.bool (convexB l)) T254i ⟨slots 56 [(0, .list 6 (l.map (unP 300))), (3, .i6 ((l.length : Nat) : Int)), (4, .i6 ((i : Nat) : Int)), (5, .ptr 0 6 0 0), (6, .ptr 1 6 0 0), (7, .i6 ((2 : Nat) : Int)), (20, .list 6 (l.map (unP 300))), (21, .i6 ((l.length : Nat) : Int)), (22, .i6 ((i : Nat) : Int))],
     [some ⟨58, 6, false, [unP 300 (l.getD i default)], none⟩, some ⟨58, 6, false, [unP 300 (l.getD ((i + 1) % l.length) default)], none⟩]⟩ := by
 refine down (G := fun f => (∀ k, k < 2 + f -> 2 <= k -> 0 < turnS l i k) -> GF 254 S w0 (.bool (convexB l)) T254i ⟨slots 56 [(0, .list 6 (l.map (unP 300))), (3, .i6 ((l.length : Nat) : Int)), (4, .i6 ((i : Nat) : Int)), (5, .ptr 0 6 0 0), (6, .ptr 1 6 0 0), (7, .i6 ((2 + f : Nat) : Int)), (20, .list 6 (l.map (unP 300))), (21, .i6 ((l.length : Nat) : Int)), (22, .i6 ((i : Nat) : Int))],
     [some ⟨58, 6, false, [unP 300 (l.getD i default)], none⟩, some ⟨58, 6, false, [unP 300 (l.getD ((i + 1) % l.length) default)], none⟩]⟩) (l.length - 2) ?_ ?_ (fun k hk h2 => absurd hk (by omega))
 · intro hk
   refine p254_2_2 l i l.length (2 + (l.length - 2)) (l.getD i default) (l.getD ((i + 1) % l.length) default) default (by omega) (by omega) ?_; exact Good.weak 56 [(0, _), (3, _), (20, _), (21, _), (22, _)] (by kernel_rfl) (.r (.r (.r (.r (.r .nil))))) (Good.tidy [] (by decide) (by kernel_rfl) (by kernel_rfl) (next fun k hk' h2 => hk k (by omega) h2))
 · intro f hf ih hk
   have hm : (i + (2 + f)) % l.length < l.length := Nat.mod_lt _ (by omega); have v0 : Ref (.cptr ((l.map (unP 300)).getD ((i + (2 + f)) % l.length) []) 0) (.cptr [.q (l.getD ((i + (2 + f)) % l.length) default).x 300, .q (l.getD ((i + (2 + f)) % l.length) default).z 300] 0) := getPt hm; have v1 : Ref (.i6 (((i + (2 + f) : Nat) : Int).tmod (l.length : Int))) (.i6 (((i + (2 + f)) % l.length : Nat) : Int)) := Ref.rem (a := i + (2 + f)) (b := l.length) rfl rfl; have v2 : 300 + 300 + 300 + 300 + 300 <= LIM := by decide
   have v3 : (((i + (2 + f)) % l.length : Nat) : Int) < ((l.map (unP 300)).length : Int) := by first | omega | (rw [lmE]; omega)
   have v4 : (300 + 300 + 2) + (300 + 300 + 2) + (300 + 300 + 2) + (300 + 300 + 2) + 300 <= LIM := by decide
   have v5 : (((2 + f) : Nat) : Int) < (l.length : Int) := by omega
   by_cases c : turnS l i (2 + f) <= 0
   · exact rF KT254_ok [(36, tt), (45, .i6 ((i + (2 + f) : Nat) : Int)), (47, .i6 (((i + (2 + f)) % l.length : Nat) : Int)), (48, .cptr [.q (l.getD ((i + (2 + f)) % l.length) default).x 300, .q (l.getD ((i + (2 + f)) % l.length) default).z 300] 0), (54, tt)] (.c6 (iT v5) v2 (wI ((i : Int) + (((2 + f) : Nat) : Int)) ((i + (2 + f) : Nat) : Int) (by first | omega | (rw [lmE]; omega))) v1 (om ((l.length : Int) ≠ 0)) v0 (.a5 (nn ((i + (2 + f)) % l.length)) v3 v2 v4 (iT c))) (V := .bool false) (Ref.bool (decide_eq_false fun h => by have := h.2 i hi (2 + f) (by omega) (by omega); omega).symm)
   · refine gR KT254_ok none [0, 2, 3, 4, 5, 6, 7, 20, 21, 22] [0, 1] [(36, tt), (45, .i6 ((i + (2 + f) : Nat) : Int)), (47, .i6 (((i + (2 + f)) % l.length : Nat) : Int)), (48, .cptr [.q (l.getD ((i + (2 + f)) % l.length) default).x 300, .q (l.getD ((i + (2 + f)) % l.length) default).z 300] 0), (54, ff), (38, .i6 (((2 + f) + 1 : Nat) : Int))] (.c6 (iT v5) v2 (wI ((i : Int) + (((2 + f) : Nat) : Int)) ((i + (2 + f) : Nat) : Int) (by first | omega | (rw [lmE]; omega))) v1 (om ((l.length : Int) ≠ 0)) v0 (.a6 (nn ((i + (2 + f)) % l.length)) v3 v2 v4 (iF c) (wI ((((2 + f) : Nat) : Int) + (1 : Int)) (((2 + f) + 1 : Nat) : Int) (by first | omega | (rw [lmE]; omega))))) (t := T254i) (σ := slots 56 [(0, .list 6 (l.map (unP 300))), (3, .i6 (l.length : Int)), (4, .i6 (i : Int)), (5, .ptr 0 6 0 0), (6, .ptr 1 6 0 0), (7, (.i6 (((2 + f) + 1 : Nat) : Int))), (20, .list 6 (l.map (unP 300))), (21, .i6 (l.length : Int)), (22, .i6 (i : Int))]) (h := [some ⟨58, 6, false, [[.q (l.getD i default).x 300, .q (l.getD i default).z 300]], none⟩, some ⟨58, 6, false, [[.q (l.getD ((i + 1) % l.length) default).x 300, .q (l.getD ((i + 1) % l.length) default).z 300]], none⟩]) ?_
     exact Good.weak 56 [(0, _), (3, _), (4, _), (5, _), (6, _), (7, _), (20, _), (21, _), (22, _)] (by kernel_rfl) (.r (.r (.r (.r (.r (.r (.r (.r (.r .nil))))))))) (ih fun k hk' h2 => by
       by_cases e : k = 2 + f
       · subst e; omega
       · exact hk k (by omega) h2)
theorem loop254 {l : List PtD} (h3 : l.length = 0 \/ 3 <= l.length /\ l.length <= 12) :
   GF 254 S w0 (.bool (convexB l)) T254 ⟨slots 56 [(0, .list 6 (l.map (unP 300))), (3, .i6 ((l.length : Nat) : Int)), (20, .list 6 (l.map (unP 300))), (21, .i6 ((l.length : Nat) : Int)), (22, .i6 ((0 : Nat) : Int))], []⟩ := by
 refine down (G := fun i => (∀ j, j < i -> ∀ k, k < l.length -> 2 <= k -> 0 < turnS l j k) -> GF 254 S w0 (.bool (convexB l)) T254 ⟨slots 56 [(0, .list 6 (l.map (unP 300))), (3, .i6 ((l.length : Nat) : Int)), (20, .list 6 (l.map (unP 300))), (21, .i6 ((l.length : Nat) : Int)), (22, .i6 ((i : Nat) : Int))], []⟩) l.length ?_ ?_ (fun k hk => absurd hk (Nat.not_lt_zero k))
 · intro hj
   exact rF KT254_ok [(23, ff)] (.a1 (iF (om (¬ ((l.length : Int) < (l.length : Int)))))) (V := .bool true) (Ref.bool (decide_eq_true ⟨h3, hj⟩).symm)
 · intro i hlt ih hj
   have hm : (i + 1) % l.length < l.length := Nat.mod_lt _ (by omega); refine gN KT254_ok [0, 2, 3, 4, 5, 6, 7, 20, 21, 22] [(23, tt), (25, .cptr [.q (l.getD i default).x 300, .q (l.getD i default).z 300] 0), (29, .i6 ((i + 1 : Nat) : Int)), (31, .i6 (((i + 1) % l.length : Nat) : Int)), (32, .cptr [.q (l.getD ((i + 1) % l.length) default).x 300, .q (l.getD ((i + 1) % l.length) default).z 300] 0)] (.c6 (iT (om ((i : Int) < (l.length : Int)))) (show Ref (.cptr ((l.map (unP 300)).getD i []) 0) (.cptr [.q (l.getD i default).x 300, .q (l.getD i default).z 300] 0) from getPt hlt) (nn i) (show (i : Int) < ((l.map (unP 300)).length : Int) by first | omega | (rw [lmE]; omega)) (wI ((i : Int) + (1 : Int)) ((i + 1 : Nat) : Int) (by first | omega | (rw [lmE]; omega))) (show Ref (.i6 (((i + 1 : Nat) : Int).tmod (l.length : Int))) (.i6 (((i + 1) % l.length : Nat) : Int)) from Ref.rem (a := i + 1) (b := l.length) rfl rfl) (.a4 (om ((l.length : Int) ≠ 0)) (show Ref (.cptr ((l.map (unP 300)).getD ((i + 1) % l.length) []) 0) (.cptr [.q (l.getD ((i + 1) % l.length) default).x 300, .q (l.getD ((i + 1) % l.length) default).z 300] 0) from getPt hm) (nn ((i + 1) % l.length)) (show (((i + 1) % l.length : Nat) : Int) < ((l.map (unP 300)).length : Int) by first | omega | (rw [lmE]; omega)))) (t := T254i) (σ := slots 56 [(0, .list 6 (l.map (unP 300))), (3, .i6 (l.length : Int)), (4, .i6 (i : Int)), (5, .ptr 0 6 0 0), (6, .ptr 1 6 0 0), (7, .i6 (2 : Int)), (20, .list 6 (l.map (unP 300))), (21, .i6 (l.length : Int)), (22, .i6 (i : Int))]) (h := [some ⟨58, 6, false, [[.q (l.getD i default).x 300, .q (l.getD i default).z 300]], none⟩, some ⟨58, 6, false, [[.q (l.getD ((i + 1) % l.length) default).x 300, .q (l.getD ((i + 1) % l.length) default).z 300]], none⟩]) ?_
   refine Good.weak 56 [(0, _), (3, _), (4, _), (5, _), (6, _), (7, .i6 ((2 : Nat) : Int)), (20, _), (21, _), (22, _)] (by kernel_rfl) (.r (.r (.r (.r (.r (.r (.r (.r (.r .nil))))))))) (inner254 hlt (by omega) fun hk => ih fun j hj' => by
     by_cases e : j = i
     · subst e; exact hk
     · exact hj j (by omega))
end
theorem a254 : Ctr 254 k254 := by
 refine ctr Tryz.f254 fun _ _ _ S w0 h ho => ?_
 unfold k254 at h; split at h <;> cases h; rename_i X; have o1 := ho.one; clear ho; generalize X.map rePt = l at *; subst o1; have hl : (l.map (unP 300)).length = l.length := lmE ..
 by_cases c1 : (((l.map (unP 300)).length : Nat) : Int) = (0 : Int)
 · refine gN KT254_ok [0, 2, 3, 20, 21, 22] [(12, ff)] (.a1 (jF c1)) (t := T254) (σ := slots 56 [(0, .list 6 (l.map (unP 300))), (2, .bool false), (3, (.i6 ((l.map (unP 300)).length : Int))), (20, .list 6 (l.map (unP 300))), (21, (.i6 ((l.map (unP 300)).length : Int))), (22, .i6 (0 : Int))]) (h := []) ?_
   rw [hl]; exact Good.weak 56 [(0, _), (3, _), (20, _), (21, _), (22, _)] (by kernel_rfl) (.r (.r (.r (.r (.r .nil))))) (loop254 (by omega))
 · by_cases c2 : (((l.map (unP 300)).length : Nat) : Int) < (3 : Int)
   · exact rF KT254_ok [(12, tt), (15, tt)] (.a2 (jT c1) (iT c2)) (V := .bool false) (Ref.bool (decide_eq_false fun h => by have := h.1; omega).symm)
   · by_cases c3 : (12 : Int) < (((l.map (unP 300)).length : Nat) : Int)
     · exact rF KT254_ok [(12, tt), (15, ff), (19, tt)] (.a3 (jT c1) (iF c2) (iT c3)) (V := .bool false) (Ref.bool (decide_eq_false fun h => by have := h.1; omega).symm)
     · refine gN KT254_ok [0, 2, 3, 20, 21, 22] [(12, tt), (15, ff), (19, ff)] (.a3 (jT c1) (iF c2) (iF c3)) (t := T254) (σ := slots 56 [(0, .list 6 (l.map (unP 300))), (2, .bool false), (3, (.i6 ((l.map (unP 300)).length : Int))), (20, .list 6 (l.map (unP 300))), (21, (.i6 ((l.map (unP 300)).length : Int))), (22, .i6 (0 : Int))]) (h := []) ?_
       rw [hl]; exact Good.weak 56 [(0, _), (3, _), (20, _), (21, _), (22, _)] (by kernel_rfl) (.r (.r (.r (.r (.r .nil))))) (loop254 (by omega))
def k252 : KF
 | [.agg [.str n, .int .i64 p, .q ax 300, .q az 300, .q ma 300, .q ir 300, .q cx 300, .q cz 300, .q lo 300, .q hi 300, .list 6 H], .cptr [.str n', .int .i64 p', .q ax' 300, .q az' 300, .q ma' 300, .q ir' 300, .q cx' 300, .q cz' 300, .q lo' 300, .q hi' 300, .list 6 H'] 0] => some (.bool (n.toList == n'.toList), [])
 | _ => none
theorem a252 : Ctr 252 k252 := by
 refine ctr Tryz.f252 fun _ _ _ S w0 h ho => ?_
 unfold k252 at h; split at h <;> cases h; rename_i n p ax az ma ir cx cz lo hi H n' p' ax' az' ma' ir' cx' cz' lo' hi' H'; exact rR .nil [] .nil
def KT294_ok := kn.cons a252
def idxP (p : Nat -> Bool) : Nat -> Nat -> Int
 | _, 0 => -1
 | i, k + 1 => if p i then (i : Int) else idxP p (i + 1) k
def k294 : KF
 | [.list 27 X, .fn 252 [.cptr [.str n0, .int .i64 p0, .q ax0 300, .q az0 300, .q ma0 300, .q ir0 300, .q cx0 300, .q cz0 300, .q lo0 300, .q hi0 300, .list 6 H0] 0]] => some (.int .i64 (idxP (fun j => (((X.map reBody).getD j default).name.toList == n0.toList)) 0 X.length), [X = (X.map reBody).map (unBody 300), X.length <= 4611686018427387904])
 | _ => none
section
variable {S : Nat -> Prop} {w0 : World}
noncomputable abbrev T294 : List Item := [.code (nav [1, 0, 1, 0, 0] (bodyOf Tryz.f294)), .inLoop (nav [1, 0, 1, 0, 0] (bodyOf Tryz.f294)), .inBlock 0, .code (nav [1, 1] (bodyOf Tryz.f294))]
theorem loop294 {es : List BodyD} (n0 : ByteArray) (p0 : Int) (ax0 az0 ma0 ir0 cx0 cz0 lo0 hi0 : Rat) (H0 : List (List AV)) (hL : es.length <= 4611686018427387904) :
   GF 294 S w0 (.i6 (idxP (fun j => ((es.getD j default).name.toList == n0.toList)) 0 es.length)) T294 ⟨slots 19 [(0, .list 27 (es.map (unBody 300))), (1, .fn 252 [.cptr [.str n0, .i6 p0, .q ax0 300, .q az0 300, .q ma0 300, .q ir0 300, .q cx0 300, .q cz0 300, .q lo0 300, .q hi0 300, .list 6 H0] 0]), (6, .list 27 (es.map (unBody 300))), (7, .i6 ((es.length : Nat) : Int)), (8, .i6 ((0 : Nat) : Int))], []⟩ := by
 have ret : ∀ {todo : List Item} {σ : List AV} {h : List (Option ABlk)} {b : Int}, b = idxP (fun j => ((es.getD j default).name.toList == n0.toList)) 0 es.length -> σ.getD 4 .any = .i6 b -> GF 294 S w0 (.i6 (idxP (fun j => ((es.getD j default).name.toList == n0.toList)) 0 es.length)) (.code .ret :: todo) ⟨σ, h⟩ := fun e hσ =>
   good_ret1 TT0_ok (fn := Tryz.f294) (by kernel_rfl) 4 (by kernel_rfl) rfl (by rw [hσ]; rfl) (by rw [hσ, e]; exact rr)
 refine down (G := fun i => idxP (fun j => ((es.getD j default).name.toList == n0.toList)) i (es.length - i) = idxP (fun j => ((es.getD j default).name.toList == n0.toList)) 0 es.length -> GF 294 S w0 (.i6 (idxP (fun j => ((es.getD j default).name.toList == n0.toList)) 0 es.length)) T294 ⟨slots 19 [(0, .list 27 (es.map (unBody 300))), (1, .fn 252 [.cptr [.str n0, .i6 p0, .q ax0 300, .q az0 300, .q ma0 300, .q ir0 300, .q cx0 300, .q cz0 300, .q lo0 300, .q hi0 300, .list 6 H0] 0]), (6, .list 27 (es.map (unBody 300))), (7, .i6 ((es.length : Nat) : Int)), (8, .i6 ((i : Nat) : Int))], []⟩) es.length ?_ ?_ rfl
 · intro he
   rw [Nat.sub_self] at he; exact rF KT294_ok [(9, ff)] (.a1 (iF (om (¬ ((es.length : Int) < (es.length : Int)))))) (V := .i6 (-1 : Int)) (Ref.int he)
 · intro i hlt ih he
   rw [show es.length - i = (es.length - (i + 1)) + 1 by omega, idxP] at he; have v0 : Ref (.cptr ((es.map (unBody 300)).getD i []) 0) (.cptr (unBody 300 (es.getD i default)) 0) := Ref.cmap hlt; have v1 : (i : Int) < ((es.map (unBody 300)).length : Int) := by rw [lmE]; omega
   have v2 : (i : Int) < (es.length : Int) := by omega
   by_cases c : ((es.getD i default).name.toList == n0.toList) = true
   · rw [if_pos c] at he
     exact rF KT294_ok [(9, tt), (14, .cptr (unBody 300 (es.getD i default)) 0), (16, tt)] (.a5 (iT v2) v0 (nn i) v1 (show Ref (.bool ((es.getD i default).name.toList == n0.toList)) (.bool true) from Ref.bool c)) (V := .i6 (i : Int)) (Ref.int he)
   · rw [if_neg c] at he
     exact gR KT294_ok none [0, 1, 4, 6, 7, 8] [] [(9, tt), (14, .cptr (unBody 300 (es.getD i default)) 0), (16, ff), (18, .i6 ((i + 1 : Nat) : Int))] (.a6 (iT v2) v0 (nn i) v1 (show Ref (.bool ((es.getD i default).name.toList == n0.toList)) (.bool false) from Ref.bool (show ((es.getD i default).name.toList == n0.toList) = false by simpa using c)) (wI ((i : Int) + (1 : Int)) ((i + 1 : Nat) : Int))) (ih he)
end
theorem a294 : Ctr 294 k294 := by
 refine ctr Tryz.f294 fun _ _ _ S w0 h ho => ?_
 unfold k294 at h; split at h <;> cases h; rename_i X n0 p0 ax0 az0 ma0 ir0 cx0 cz0 lo0 hi0 H0; obtain ⟨o1, -⟩ := ho.e2; have o2 : (X.map reBody).length <= 4611686018427387904 := by rw [lmE]; exact ho _ (by simp)
 clear ho; rw [show X.length = (X.map reBody).length by rw [lmE]]; generalize (X.map reBody) = es at *; subst o1; refine gN KT294_ok [0, 1, 6, 7, 8] [] .nil (t := T294) (σ := slots 19 [(0, .list 27 (es.map (unBody 300))), (1, .fn 252 [.cptr [.str n0, .i6 p0, .q ax0 300, .q az0 300, .q ma0 300, .q ir0 300, .q cx0 300, .q cz0 300, .q lo0 300, .q hi0 300, .list 6 H0] 0]), (6, .list 27 (es.map (unBody 300))), (7, (.i6 ((es.map (unBody 300)).length : Int))), (8, .i6 (0 : Int))]) (h := []) ?_
 rw [lmE]; exact loop294 n0 p0 ax0 az0 ma0 ir0 cx0 cz0 lo0 hi0 H0 o2
def k251 : KF
 | [.list 27 X, .fn 252 [.cptr [.str n0, .int .i64 p0, .q ax0 300, .q az0 300, .q ma0 300, .q ir0 300, .q cx0 300, .q cz0 300, .q lo0 300, .q hi0 300, .list 6 H0] 0]] => some (.bool (decide (0 <= idxP (fun j => (((X.map reBody).getD j default).name.toList == n0.toList)) 0 X.length)), [X = (X.map reBody).map (unBody 300), X.length <= 4611686018427387904])
 | _ => none
theorem a251 : Ctr 251 k251 := by
 refine ctr Tryz.f251 fun _ _ _ S w0 h ho => ?_
 unfold k251 at h; split at h <;> cases h; rename_i X n0 p0 ax0 az0 ma0 ir0 cx0 cz0 lo0 hi0 H0; obtain ⟨o1, o2⟩ := ho.e2; have K := kn.cons a294; exact rR K [] (.a2 o1 o2)
theorem cmp_a {n m : Int} (h : (!((decide (n < 0)) == (decide (m < 0)))) = true) (k : n < 0) : (-1 : Int) = cmpZ n m := by
 by_cases b : m < 0 <;> simp [k, b] at h
 unfold cmpZ; rw [if_pos (by omega)]
theorem cmp_b {n m : Int} (h : (!((decide (n < 0)) == (decide (m < 0)))) = true) (k : ¬ n < 0) : (1 : Int) = cmpZ n m := by
 by_cases b : m < 0 <;> simp [k, b] at h
 unfold cmpZ; rw [if_neg (by omega), if_pos (by omega)]
theorem cmp_c {n m : Int} (h : (!((decide (n < 0)) == (decide (m < 0)))) = false) (k : n < 0) : cmpN m.natAbs n.natAbs = cmpZ n m := by
 by_cases b : m < 0 <;> simp [k, b] at h
 unfold cmpZ cmpN
 by_cases c : n < m
 · rw [if_pos (by omega), if_pos c]
 · by_cases d : m < n
   · rw [if_neg (by omega), if_pos (by omega), if_neg c, if_pos d]
   · rw [if_neg (by omega), if_neg (by omega), if_neg c, if_neg d]
theorem cmp_d {n m : Int} (h : (!((decide (n < 0)) == (decide (m < 0)))) = false) (k : ¬ n < 0) : cmpN n.natAbs m.natAbs = cmpZ n m := by
 by_cases b : m < 0 <;> simp [k, b] at h
 unfold cmpZ cmpN
 by_cases c : n < m
 · rw [if_pos (by omega), if_pos c]
 · by_cases d : m < n
   · rw [if_neg (by omega), if_pos (by omega), if_neg c, if_pos d]
   · rw [if_neg (by omega), if_neg (by omega), if_neg c, if_neg d]
def k199 : KF
 | [.agg [.z n B], .agg [.z m C]] => some (.int .i64 (cmpZ n m), [])
 | _ => none
theorem a199 : Ctr 199 k199 := by
 refine ctr Tryz.f199 fun _ _ _ S w0 h ho => ?_
 unfold k199 at h; split at h <;> cases h; rename_i n B m C; have K := kn.cons a207; rcases Bool.eq_false_or_eq_true (!((decide (n < 0)) == (decide (m < 0)))) with h1 | h1
 · have v1 : Ref (.bool (!((decide (n < 0)) == (decide (m < 0))))) (.bool true) := Ref.bool h1
   by_cases h2 : n < 0
   · exact rF K [(11, tt), (5, tt)] (.a2 v1 (iT h2)) (V := .i6 (-1 : Int)) (Ref.int (cmp_a h1 h2))
   · exact rF K [(11, tt), (5, ff), (15, tt)] (.a3 v1 (iF h2) v1) (V := .i6 (1 : Int)) (Ref.int (cmp_b h1 h2))
 · have v0 : Ref (.bool (!((decide (n < 0)) == (decide (m < 0))))) (.bool false) := Ref.bool h1
   by_cases h2 : n < 0
   · exact rF K [(11, ff), (15, ff), (21, tt)] (.a3 v0 v0 (iT h2)) (V := .i6 (cmpN m.natAbs n.natAbs)) (Ref.int (cmp_c h1 h2))
   · exact rF K [(11, ff), (15, ff), (21, ff)] (.a3 v0 v0 (iF h2)) (V := .i6 (cmpN n.natAbs m.natAbs)) (Ref.int (cmp_d h1 h2))
def k104 : KF
 | [.agg [.q x B], .agg [.q y C]] => some (.int .i64 (cmpQ x y), [B + C + 200 <= LIM])
 | _ => none
theorem a104 : Ctr 104 k104 := by
 refine ctr Tryz.f104 fun _ _ _ S w0 h ho => ?_
 unfold k104 at h; split at h <;> cases h; rename_i x B y C; have o1 := ho.one; have L := limE; have K := ((kn.cons a199).cons a113).cons a111; exact rF K [] (.a4 (om (max C 64 + 1 <= LIM)) (om (B + (C + 1) + 128 <= LIM)) (om (max B 64 + 1 <= LIM)) (om (C + (B + 1) + 128 <= LIM))) (V := .i6 (cmpZ (x.num * (y.den : Int)) (y.num * (x.den : Int)))) (Ref.int (cmpQ_eq x y))
def k253 : KF
 | [.agg [.q x B, .q y C], .agg [.q z D, .q w E]] => some (.bool (decide (x = z /\ y = w)), [B + D + 200 <= LIM, C + E + 200 <= LIM])
 | _ => none
theorem a253 : Ctr 253 k253 := by
 refine ctr Tryz.f253 fun _ _ _ S w0 h ho => ?_
 unfold k253 at h; split at h <;> cases h; rename_i x B y C z D w E; obtain ⟨o1, o2⟩ := ho.e2; have K := kn.cons a104
 by_cases h1 : (cmpQ x z) = (0 : Int)
 · exact rF K [(11, tt)] (.a3 o1 (iT h1) o2) (V := .bool (decide ((cmpQ y w) = (0 : Int)))) (Ref.bool (by rw [cmpQ_zero] at h1; simp [cmpQ_zero, h1]))
 · exact rF K [(11, ff)] (.a2 o1 (iF h1)) (V := .bool false) (Ref.bool (by rw [cmpQ_zero] at h1; simp [h1]))
def KT190_ok := (((((kn.cons a254).cons a253).cons a251).cons a187).cons a104).cons a60
noncomputable abbrev c190T0 : List Item := [.code (nav [1, 1, 1, 1, 0] (bodyOf Tryz.f190)), .code (nav [1, 1, 1, 1, 1] (bodyOf Tryz.f190))]
noncomputable abbrev c190T1 : List Item := [.code (nav [1, 1, 1, 1, 1, 0, 0] (bodyOf Tryz.f190)), .code (nav [1, 1, 1, 1, 1, 0, 1] (bodyOf Tryz.f190)), .code (nav [1, 1, 1, 1, 1, 1] (bodyOf Tryz.f190))]
noncomputable abbrev c190T2 : List Item := [.code (nav [1, 1, 1, 0] (bodyOf Tryz.f190)), .code (nav [1, 1, 1, 1] (bodyOf Tryz.f190))]
noncomputable abbrev c190T3 : List Item := [.code (nav [1, 1, 0, 0, 1, 1, 0] (bodyOf Tryz.f190)), .code (nav [1, 1, 0, 0, 1, 1, 1] (bodyOf Tryz.f190)), .inBlock 0, .code (nav [1, 1, 1] (bodyOf Tryz.f190))]
noncomputable abbrev c190T4 : List Item := [.code .ret, .inBlock 0, .code (nav [1, 1, 1] (bodyOf Tryz.f190))]
def trunkB (v : BodyD) : Bool := decide (v.par = -1 /\ (v.at_.x = 0 /\ v.at_.z = 0) /\ Int.sign v.low.num = 0 /\ Int.sign v.high.num = 0)
def limbB (v : BodyD) (i : Nat) : Bool := decide (0 <= v.par /\ v.par < ((i : Nat) : Int) /\ cmpQ v.low v.high <= 0)
def bodyF (i : Nat) (v : BodyD) (tr lb : Bool) : Int := if (i = 0 /\ tr = false) \/ (0 < i /\ lb = false) \/ Int.sign v.ma.num <= 0 \/ Int.sign v.inr.num <= 0 \/ convexB v.shape = false then 2 else 0
def twiceB (bs : List BodyD) (i : Nat) (v : BodyD) : Prop := 0 <= idxP (fun j => (((bs.take i).getD j default).name.toList == v.name.toList)) 0 i
instance (bs : List BodyD) (i : Nat) (v : BodyD) : Decidable (twiceB bs i v) := by unfold twiceB; infer_instance
def bodyV (bs : List BodyD) (i : Nat) (v : BodyD) : Int := if isNameB v.name = false then 6 else if twiceB bs i v then 7 else bodyF i v (trunkB v) (limbB v i)
def bodyE (bs : List BodyD) (i : Nat) : Int := bodyV bs i (bs.getD i default)
def k190 : KF
 | [.agg M, .int .i64 i] => some (.int .i64 (bodyE (reMach M).bodies i.toNat), [0 <= i, M = unMach 300 (reMach M), i.toNat < (reMach M).bodies.length, (reMach M).bodies.length <= 4611686018427387904])
 | _ => none
section
variable {S : Nat -> Prop} {w0 : World}
theorem ret190 {R : Int} {todo : List Item} {σ : List AV} {h : List (Option ABlk)} {b : Int} (e : b = R) (hσ : σ.getD 4 .any = .i6 b) : GF 190 S w0 (.i6 R) (.code .ret :: todo) ⟨σ, h⟩ :=
 good_ret1 TT0_ok (fn := Tryz.f190) (by kernel_rfl) 4 (by kernel_rfl) rfl (by rw [hσ]; rfl) (by rw [hσ, e]; exact rr)
theorem s190_4 (i : Nat) (v : BodyD) (tr lb : Bool) : GF 190 S w0 (.i6 (bodyF i v tr lb)) c190T1 ⟨slots 95 [(1, .i6 ((i : Nat) : Int)), (5, .cptr (unBody 300 v) 0), (6, .bool tr), (7, .bool lb)], []⟩ := by
 have hL : True := trivial; have v0 : (v.shape.map (unP 300)) = ((v.shape.map (unP 300)).map rePt).map (unP 300) := (congrArg (fun l => l.map (unP 300)) (rePt_un _)).symm; have v1 : Ref (.bool (convexB ((v.shape.map (unP 300)).map rePt))) (.bool (convexB v.shape)) := Ref.bool (congrArg convexB (rePt_un _))
 by_cases c1 : ((i : Nat) : Int) = (0 : Int)
 · rcases Bool.eq_false_or_eq_true (!tr) with c2 | c2
   · exact rF KT190_ok [(65, tt), (69, tt)] (.a2 (iT c1) (show Ref (.bool (!tr)) (.bool true) from Ref.bool c2)) (V := .i6 (2 : Int)) (Ref.int (by clear hL; unfold bodyF; simp_all))
   · by_cases c3 : (0 : Int) < ((i : Nat) : Int)
     · exfalso; omega
     · have v2 : Ref (.bool (!tr)) (.bool false) := Ref.bool c2
       by_cases c4 : (Int.sign v.ma.num) <= (0 : Int)
       · exact rF KT190_ok [(65, tt), (69, ff), (72, ff), (83, tt)] (.a4 (iT c1) v2 (iF c3) (iT c4)) (V := .i6 (2 : Int)) (Ref.int (by clear hL; unfold bodyF; simp_all))
       · by_cases c5 : (Int.sign v.inr.num) <= (0 : Int)
         · exact rF KT190_ok [(65, tt), (69, ff), (72, ff), (83, ff), (89, tt)] (.a5 (iT c1) v2 (iF c3) (iF c4) (iT c5)) (V := .i6 (2 : Int)) (Ref.int (by clear hL; unfold bodyF; simp_all))
         · rcases Bool.eq_false_or_eq_true (!(convexB v.shape)) with c6 | c6
           · exact rF KT190_ok [(65, tt), (69, ff), (72, ff), (83, ff), (89, ff), (92, .bool (convexB v.shape)), (94, tt)] (.c6 (iT c1) v2 (iF c3) (iF c4) (iF c5) v1 (.a2 v0 (show Ref (.bool (!(convexB v.shape))) (.bool true) from Ref.bool c6))) (V := .i6 (2 : Int)) (Ref.int (by clear hL; unfold bodyF; simp_all))
           · exact rF KT190_ok [(65, tt), (69, ff), (72, ff), (83, ff), (89, ff), (92, .bool (convexB v.shape)), (94, ff)] (.c6 (iT c1) v2 (iF c3) (iF c4) (iF c5) v1 (.a2 v0 (show Ref (.bool (!(convexB v.shape))) (.bool false) from Ref.bool c6))) (V := .i6 (0 : Int)) (Ref.int (by clear hL; unfold bodyF; simp_all))
 · by_cases c2 : (0 : Int) < ((i : Nat) : Int)
   · rcases Bool.eq_false_or_eq_true (!lb) with c3 | c3
     · exact rF KT190_ok [(65, ff), (72, tt), (77, tt)] (.a3 (iF c1) (iT c2) (show Ref (.bool (!lb)) (.bool true) from Ref.bool c3)) (V := .i6 (2 : Int)) (Ref.int (by clear hL; unfold bodyF; simp_all))
     · have v3 : Ref (.bool (!lb)) (.bool false) := Ref.bool c3
       by_cases c4 : (Int.sign v.ma.num) <= (0 : Int)
       · exact rF KT190_ok [(65, ff), (72, tt), (77, ff), (83, tt)] (.a4 (iF c1) (iT c2) v3 (iT c4)) (V := .i6 (2 : Int)) (Ref.int (by clear hL; unfold bodyF; simp_all))
       · by_cases c5 : (Int.sign v.inr.num) <= (0 : Int)
         · exact rF KT190_ok [(65, ff), (72, tt), (77, ff), (83, ff), (89, tt)] (.a5 (iF c1) (iT c2) v3 (iF c4) (iT c5)) (V := .i6 (2 : Int)) (Ref.int (by clear hL; unfold bodyF; simp_all))
         · rcases Bool.eq_false_or_eq_true (!(convexB v.shape)) with c6 | c6
           · exact rF KT190_ok [(65, ff), (72, tt), (77, ff), (83, ff), (89, ff), (92, .bool (convexB v.shape)), (94, tt)] (.c6 (iF c1) (iT c2) v3 (iF c4) (iF c5) v1 (.a2 v0 (show Ref (.bool (!(convexB v.shape))) (.bool true) from Ref.bool c6))) (V := .i6 (2 : Int)) (Ref.int (by clear hL; unfold bodyF; simp_all))
           · exact rF KT190_ok [(65, ff), (72, tt), (77, ff), (83, ff), (89, ff), (92, .bool (convexB v.shape)), (94, ff)] (.c6 (iF c1) (iT c2) v3 (iF c4) (iF c5) v1 (.a2 v0 (show Ref (.bool (!(convexB v.shape))) (.bool false) from Ref.bool c6))) (V := .i6 (0 : Int)) (Ref.int (by clear hL; unfold bodyF; simp_all))
   · exfalso; omega
theorem s190_3 (i : Nat) (v : BodyD) (tr : Bool) : GF 190 S w0 (.i6 (bodyF i v tr (limbB v i))) c190T0 ⟨slots 95 [(1, .i6 ((i : Nat) : Int)), (5, .cptr (unBody 300 v) 0), (6, .bool tr)], []⟩ := by
 by_cases c1 : (0 : Int) <= v.par
 · by_cases c2 : v.par < ((i : Nat) : Int)
   · refine gR KT190_ok (some 8) [1, 5, 6, 7] [] [(49, tt), (55, tt)] (.a3 (iT c1) (iT c2) (dc (300 + 300 + 200 <= LIM))) (t := c190T1) (σ := slots 95 [(1, .i6 (i : Int)), (5, .cptr (unBody 300 v) 0), (6, .bool tr), (7, (.bool (decide ((cmpQ v.low v.high) <= (0 : Int)))))]) (h := []) ?_
     have e : limbB v i = decide (cmpQ v.low v.high <= (0 : Int)) := decide_eq_decide.2 ⟨fun h => h.2.2, fun h => ⟨c1, c2, h⟩⟩; rw [e]; exact s190_4 i v tr _
   · refine gR KT190_ok (some 8) [1, 5, 6, 7] [] [(49, tt), (55, ff)] (.a2 (iT c1) (iF c2)) (t := c190T1) (σ := slots 95 [(1, .i6 (i : Int)), (5, .cptr (unBody 300 v) 0), (6, .bool tr), (7, .bool false)]) (h := []) ?_
     have e : limbB v i = false := decide_eq_false (by omega); rw [e]; exact s190_4 i v tr false
 · refine gR KT190_ok (some 8) [1, 5, 6, 7] [] [(49, ff)] (.a1 (iF c1)) (t := c190T1) (σ := slots 95 [(1, .i6 (i : Int)), (5, .cptr (unBody 300 v) 0), (6, .bool tr), (7, .bool false)]) (h := []) ?_
   have e : limbB v i = false := decide_eq_false (by omega); rw [e]; exact s190_4 i v tr false
theorem s190_2 (i : Nat) (v : BodyD) : GF 190 S w0 (.i6 (bodyF i v (trunkB v) (limbB v i))) c190T2 ⟨slots 95 [(1, .i6 ((i : Nat) : Int)), (5, .cptr (unBody 300 v) 0)], []⟩ := by
 by_cases c1 : v.par = (-1 : Int)
 · have v0 : 300 + 0 + 200 <= LIM := by decide
   rcases Bool.eq_false_or_eq_true (decide (v.at_.x = 0 /\ v.at_.z = 0)) with c2 | c2
   · have v1 : Ref (.bool (decide (v.at_.x = 0 /\ v.at_.z = 0))) (.bool true) := Ref.bool c2
     by_cases c3 : (Int.sign v.low.num) = (0 : Int)
     · refine gR KT190_ok (some 7) [1, 5, 6] [] [(28, tt), (34, tt), (40, tt)] (.a5 (iT c1) v0 v0 v1 (iT c3)) (t := c190T0) (σ := slots 95 [(1, .i6 (i : Int)), (5, .cptr (unBody 300 v) 0), (6, (.bool (decide ((Int.sign v.high.num) = (0 : Int)))))]) (h := []) ?_
       have e : trunkB v = decide (Int.sign v.high.num = (0 : Int)) := decide_eq_decide.2 ⟨fun h => h.2.2.2, fun h => ⟨c1, of_decide_eq_true c2, c3, h⟩⟩; rw [e]; exact s190_3 i v _
     · refine gR KT190_ok (some 7) [1, 5, 6] [] [(28, tt), (34, tt), (40, ff)] (.a5 (iT c1) v0 v0 v1 (iF c3)) (t := c190T0) (σ := slots 95 [(1, .i6 (i : Int)), (5, .cptr (unBody 300 v) 0), (6, .bool false)]) (h := []) ?_
       have e : trunkB v = false := decide_eq_false (fun h => c3 h.2.2.1); rw [e]; exact s190_3 i v false
   · refine gR KT190_ok (some 7) [1, 5, 6] [] [(28, tt), (34, ff)] (.a4 (iT c1) v0 v0 (show Ref (.bool (decide (v.at_.x = 0 /\ v.at_.z = 0))) (.bool false) from Ref.bool c2)) (t := c190T0) (σ := slots 95 [(1, .i6 (i : Int)), (5, .cptr (unBody 300 v) 0), (6, .bool false)]) (h := []) ?_
     have e : trunkB v = false := decide_eq_false (fun h => by have := decide_eq_true h.2.1; rw [this] at c2; cases c2); rw [e]; exact s190_3 i v false
 · refine gR KT190_ok (some 7) [1, 5, 6] [] [(28, ff)] (.a1 (iF c1)) (t := c190T0) (σ := slots 95 [(1, .i6 (i : Int)), (5, .cptr (unBody 300 v) 0), (6, .bool false)]) (h := []) ?_
   have e : trunkB v = false := decide_eq_false (fun h => c1 h.1); rw [e]; exact s190_3 i v false
theorem s190_1 (m : MachD) (i : Nat) (v : BodyD) (hi : i <= m.bodies.length) (hL : m.bodies.length <= 4611686018427387904) : GF 190 S w0 (.i6 (if twiceB m.bodies i v then 7 else bodyF i v (trunkB v) (limbB v i))) c190T3 ⟨slots 95 [(1, .i6 ((i : Nat) : Int)), (2, .ptr 0 6 0 0), (5, .cptr (unBody 300 v) 0)], [some ⟨41, 6, false, [unMach 300 m], none⟩]⟩ := by
 have ht : (m.bodies.take i).length = i := by rw [List.length_take]; omega
 have hx : ((m.bodies.take i).map (unBody 300)).length = i := by rw [lmE, ht]
 have v0 : Ref (.bool (decide (0 <= idxP (fun j => (((((m.bodies.take i).map (unBody 300)).map reBody).getD j default).name.toList == v.name.toList)) 0 ((m.bodies.take i).map (unBody 300)).length))) (.bool (decide (0 <= idxP (fun j => (((m.bodies.take i).getD j default).name.toList == v.name.toList)) 0 i))) := Ref.bool (by rw [reBody_un, hx]); have v1 : Ref (.list 27 (((m.bodies.map (unBody 300)).take i).drop 0)) (.list 27 ((m.bodies.take i).map (unBody 300))) := Ref.eq (by rw [List.drop_zero, List.map_take]); have v2 : ((m.bodies.take i).map (unBody 300)) = (((m.bodies.take i).map (unBody 300)).map reBody).map (unBody 300) := by rw [reBody_un]
 have v3 : (i : Int) <= ((m.bodies.map (unBody 300)).length : Int) := by rw [lmE]; omega
 have v4 : ((m.bodies.take i).map (unBody 300)).length <= 4611686018427387904 := by omega
 rcases Bool.eq_false_or_eq_true (decide (0 <= idxP (fun j => (((m.bodies.take i).getD j default).name.toList == v.name.toList)) 0 i)) with c1 | c1
 · refine gR KT190_ok (some 6) [1, 2, 4, 5] [0] [(22, .list 27 ((m.bodies.take i).map (unBody 300))), (24, .bool (decide (0 <= idxP (fun j => (((m.bodies.take i).getD j default).name.toList == v.name.toList)) 0 i))), (18, tt)] (.c6 v1 (nn i) v3 v0 v2 v4 (.a1 (show Ref (.bool (decide (0 <= idxP (fun j => (((m.bodies.take i).getD j default).name.toList == v.name.toList)) 0 i))) (.bool true) from Ref.bool c1))) (t := c190T4) (σ := slots 95 [(1, .i6 (i : Int)), (2, .ptr 0 6 0 0), (4, .i6 (7 : Int)), (5, .cptr (unBody 300 v) 0)]) (h := [some ⟨41, 6, false, [(unMach 300 m)], none⟩]) ?_
   rw [if_pos (show twiceB m.bodies i v from of_decide_eq_true c1)]; exact ret190 (b := 7) rfl rfl
 · refine gR KT190_ok (some 6) [1, 2, 4, 5] [0] [(22, .list 27 ((m.bodies.take i).map (unBody 300))), (24, .bool (decide (0 <= idxP (fun j => (((m.bodies.take i).getD j default).name.toList == v.name.toList)) 0 i))), (18, ff)] (.c6 v1 (nn i) v3 v0 v2 v4 (.a1 (show Ref (.bool (decide (0 <= idxP (fun j => (((m.bodies.take i).getD j default).name.toList == v.name.toList)) 0 i))) (.bool false) from Ref.bool c1))) (t := c190T2) (σ := slots 95 [(1, .i6 (i : Int)), (2, .ptr 0 6 0 0), (5, .cptr (unBody 300 v) 0)]) (h := [some ⟨41, 6, false, [(unMach 300 m)], none⟩]) ?_
   rw [if_neg (show ¬ twiceB m.bodies i v from of_decide_eq_false c1)]; exact Good.weak 95 [(1, _), (5, _)] (by kernel_rfl) (.r (.r .nil)) (Good.tidy [] (by decide) (by kernel_rfl) (by kernel_rfl) (s190_2 i v))
end
theorem a190 : Ctr 190 k190 := fun args r ob h ho => by
 unfold k190 at h
 split at h
 · rename_i M i
   cases h; have o0 : 0 <= i := ho _ (by simp); have o1 : M = unMach 300 (reMach M) := ho _ (by simp); have o2 : i.toNat < (reMach M).bodies.length := ho _ (by simp); have o3 : (reMach M).bodies.length <= 4611686018427387904 := ho _ (by simp); clear ho; generalize reMach M = m at *; subst o1; obtain ⟨i, rfl⟩ := Int.eq_ofNat_of_zero_le o0; replace o2 : i < m.bodies.length := o2; show AFun Tryz.prog 190 [.agg (unMach 300 m), .i6 ((i : Nat) : Int)] (.i6 (bodyV m.bodies i (m.bodies.getD i default))); obtain ⟨v, hv⟩ : ∃ v, v = m.bodies.getD i default := ⟨_, rfl⟩; have hr : Ref (.cptr ((m.bodies.map (unBody 300)).getD i []) 0) (.cptr (unBody 300 v) 0) := by rw [hv]; exact Ref.cmap o2
   rw [<- hv]; clear hv; refine af Tryz.f190 fun S w0 => ?_
   have e : st0 [AV.agg (unMach 300 m), .i6 ((i : Nat) : Int)] Tryz.f190.ntmps = ⟨slots 95 [(0, .agg (unMach 300 m)), (1, .i6 ((i : Nat) : Int))], []⟩ := by kernel_rfl
   rw [e]; clear e; unfold bodyV; have v0 : (i : Int) < ((m.bodies.map (unBody 300)).length : Int) := by rw [lmE]; omega
   rcases Bool.eq_false_or_eq_true (!(isNameB v.name)) with c1 | c1
   · refine gR KT190_ok (some 4) [1, 2, 4, 5] [0, 1] [(11, .cptr (unBody 300 v) 0), (13, tt)] (.a4 hr (nn i) v0 (show Ref (.bool (!(isNameB v.name))) (.bool true) from Ref.bool c1)) (t := c190T4) (σ := slots 95 [(1, .i6 (i : Int)), (2, .ptr 0 6 0 0), (4, .i6 (6 : Int)), (5, .ptr 1 27 0 0)]) (h := [some ⟨41, 6, false, [(unMach 300 m)], none⟩, some ⟨114, 27, false, [(unBody 300 v)], none⟩]) ?_
     rw [if_pos (show isNameB v.name = false by simpa using c1)]; exact ret190 (b := 6) rfl rfl
   · refine gR KT190_ok (some 4) [1, 2, 4, 5] [0, 1] [(11, .cptr (unBody 300 v) 0), (13, ff)] (.a4 hr (nn i) v0 (show Ref (.bool (!(isNameB v.name))) (.bool false) from Ref.bool c1)) (t := c190T3) (σ := slots 95 [(1, .i6 (i : Int)), (2, .ptr 0 6 0 0), (4, .i6 (0 : Int)), (5, .ptr 1 27 0 0)]) (h := [some ⟨41, 6, false, [(unMach 300 m)], none⟩, some ⟨114, 27, false, [(unBody 300 v)], none⟩]) ?_
     rw [if_neg (show ¬ isNameB v.name = false by simpa using c1)]; refine Good.freezeD (b := ⟨114, 27, false, [unBody 300 v], none⟩) 1 (by rfl) (by rfl) (.oe (.a1 (dc (0 < 1)))) .on ?_; refine Good.tidy [0] (by decide) (σ' := slots 95 [(1, .i6 ((i : Nat) : Int)), (2, .ptr 0 6 0 0), (4, .i6 (0 : Int)), (5, .cptr (unBody 300 v) 0)]) (h' := [some ⟨41, 6, false, [unMach 300 m], none⟩]) (by kernel_rfl) (by kernel_rfl) ?_; exact Good.weak 95 [(1, _), (2, _), (5, _)] (by kernel_rfl) (.r (.r (.r .nil))) (s190_1 m i v (Nat.le_of_lt o2) o3)
 · cases h
def KT189_ok := kn.cons a190
def firstE (f : Nat -> Int) : Nat -> Nat -> Int
 | _, 0 => 0
 | i, k + 1 => if f i = 0 then firstE f (i + 1) k else f i
def eachE (n : Nat) (most : Int) (f : Nat -> Int) : Int := if most < ((n : Nat) : Int) then 5 else firstE f 0 n
def k189 : KF
 | [.list 27 X, .int .i64 t, .fnm 190 true M] => some (.int .i64 (eachE (reMach M).bodies.length t (fun i => bodyE (reMach M).bodies i)), [M = unMach 300 (reMach M), X = (reMach M).bodies.map (unBody 300), (reMach M).bodies.length <= 4611686018427387904])
 | _ => none
section
variable {S : Nat -> Prop} {w0 : World}
theorem ret189 {R : Int} {todo : List Item} {σ : List AV} {h : List (Option ABlk)} {b : Int} (e : b = R) (hσ : σ.getD 6 .any = .i6 b) : GF 189 S w0 (.i6 R) (.code .ret :: todo) ⟨σ, h⟩ :=
 good_ret1 TT0_ok (fn := Tryz.f189) (by kernel_rfl) 6 (by kernel_rfl) rfl (by rw [hσ]; rfl) (by rw [hσ, e]; exact rr)
noncomputable abbrev T189 : List Item := [.code (nav [1, 1, 0, 1, 0, 0] (bodyOf Tryz.f189)), .inLoop (nav [1, 1, 0, 1, 0, 0] (bodyOf Tryz.f189)), .inBlock 0, .code (nav [1, 1, 1] (bodyOf Tryz.f189))]
theorem loop189 {m : MachD} {R : Int} (hR : firstE (fun i => bodyE m.bodies i) 0 m.bodies.length = R) (hL : m.bodies.length <= 4611686018427387904) :
   GF 189 S w0 (.i6 R) T189 ⟨slots 25 [(0, .list 27 (m.bodies.map (unBody 300))), (2, .fnm 190 true (unMach 300 m)), (14, .i6 ((m.bodies.length : Nat) : Int)), (15, .i6 ((0 : Nat) : Int))], []⟩ := by
 refine down (G := fun i => firstE (fun i => bodyE m.bodies i) i (m.bodies.length - i) = R -> GF 189 S w0 (.i6 R) T189 ⟨slots 25 [(0, .list 27 (m.bodies.map (unBody 300))), (2, .fnm 190 true (unMach 300 m)), (14, .i6 ((m.bodies.length : Nat) : Int)), (15, .i6 ((i : Nat) : Int))], []⟩) m.bodies.length ?_ ?_ hR
 · intro he
   rw [Nat.sub_self] at he; exact rF KT189_ok [(16, ff)] (.a1 (iF (om (¬ ((m.bodies.length : Int) < (m.bodies.length : Int)))))) (V := .i6 (0 : Int)) (Ref.int he)
 · intro i hlt ih he
   have hx : (m.bodies.map (unBody 300)).length = m.bodies.length := lmE ..; rw [show m.bodies.length - i = (m.bodies.length - (i + 1)) + 1 by omega, firstE] at he; have v0 : Ref (.i6 (bodyE (reMach (unMach 300 m)).bodies i)) (.i6 (bodyE m.bodies i)) := Ref.int (congrArg (fun x : MachD => bodyE x.bodies i) (reMach_un m)); have v1 : (reMach (unMach 300 m)).bodies.length <= 4611686018427387904 := (congrArg (fun x : MachD => x.bodies.length <= 4611686018427387904) (reMach_un m)).mpr hL; have v2 : i < (reMach (unMach 300 m)).bodies.length := (congrArg (fun x : MachD => i < x.bodies.length) (reMach_un m)).mpr hlt; have v3 : (unMach 300 m) = unMach 300 (reMach (unMach 300 m)) := (congrArg (unMach 300) (reMach_un m)).symm; have v4 : (i : Int) < (m.bodies.length : Int) := by omega
   by_cases c : bodyE m.bodies i = 0
   · rw [if_pos c] at he
     exact gR KT189_ok none [0, 2, 6, 14, 15] [] [(16, tt), (20, .i6 (bodyE m.bodies i)), (22, ff), (24, .i6 ((i + 1 : Nat) : Int))] (.c6 (iT v4) v0 (nn i) v3 v2 v1 (.a2 (jF c) (wI ((i : Int) + (1 : Int)) ((i + 1 : Nat) : Int)))) (ih he)
   · rw [if_neg c] at he
     exact rF KT189_ok [(16, tt), (20, .i6 (bodyE m.bodies i)), (22, tt)] (.c6 (iT v4) v0 (nn i) v3 v2 v1 (.a1 (jT c))) (V := .i6 (bodyE m.bodies i)) (Ref.int he)
end
theorem a189 : Ctr 189 k189 := by
 refine ctr Tryz.f189 fun _ _ _ S w0 h ho => ?_
 unfold k189 at h; split at h <;> cases h; rename_i X t M; obtain ⟨o1, o2, o3⟩ := ho.e3; clear ho; generalize reMach M = m at *; subst o1; subst o2; have hx : (m.bodies.map (unBody 300)).length = m.bodies.length := lmE ..
 by_cases c : t < ((m.bodies.length : Nat) : Int)
 · exact rF KT189_ok [(12, tt)] (.a1 (iT (show t < ((m.bodies.map (unBody 300)).length : Int) by rw [hx]; exact c))) (V := .i6 (5 : Int)) (Ref.int (by unfold eachE; rw [if_pos c]))
 · refine gN KT189_ok [0, 1, 2, 6, 13, 14, 15] [(12, ff)] (.a1 (iF (show ¬ (t < ((m.bodies.map (unBody 300)).length : Int)) by rw [hx]; exact c))) (t := T189) (σ := slots 25 [(0, .list 27 (m.bodies.map (unBody 300))), (1, .i6 t), (2, .fnm 190 true (unMach 300 m)), (6, .i6 (0 : Int)), (13, .list 27 (m.bodies.map (unBody 300))), (14, (.i6 ((m.bodies.map (unBody 300)).length : Int))), (15, .i6 (0 : Int))]) (h := []) ?_
   rw [hx]; exact Good.weak 25 [(0, _), (2, _), (14, _), (15, _)] (by kernel_rfl) (.r (.r (.r (.r .nil)))) (loop189 (by unfold eachE; rw [if_neg c]) o3)
theorem Ref.cmapX {α : Type} [Inhabited α] {f : α -> List AV} {g : List AV -> α} {X : List (List AV)} {i : Nat} (h : X = (X.map g).map f) (hi : i < X.length) : Ref (.cptr (X.getD i []) 0) (.cptr (f ((X.map g).getD i default)) 0) := by
 have := Ref.cmap (f := f) (xs := X.map g) (i := i) (by rw [lmE]; exact hi)
 rwa [<- h] at this
def k256 : KF
 | [.agg [.str mn, .list 27 XB, .list 17 XS, .list 17 XT, .list 13 XD, .list 5 XF], .int .i64 i] => some (.bool (decide (0 <= i /\ i < ((XB.length : Nat) : Int))), [])
 | _ => none
theorem a256 : Ctr 256 k256 := by
 refine ctr Tryz.f256 fun _ _ _ S w0 h ho => ?_
 unfold k256 at h; split at h <;> cases h; rename_i mn XB XS XT XD XF i
 by_cases h1 : (0 : Int) <= i
 · exact rF .nil [(7, tt)] (.a1 (iT h1)) (V := .bool (decide (i < (XB.length : Int)))) (Ref.bool (by simp [h1]))
 · exact rF .nil [(7, ff)] (.a1 (iF h1)) (V := .bool false) (Ref.bool (by simp [h1]))
def pairB (n : Nat) (a b : Int) : Bool := decide (0 <= a /\ a < ((n : Nat) : Int)) && (decide (0 <= b /\ b < ((n : Nat) : Int)) && !decide (a = b))
def k255 : KF
 | [.agg [.str mn, .list 27 XB, .list 17 XS, .list 17 XT, .list 13 XD, .list 5 XF], .int .i64 a, .int .i64 b] => some (.bool (pairB XB.length a b), [])
 | _ => none
theorem a255 : Ctr 255 k255 := by
 refine ctr Tryz.f255 fun _ _ _ S w0 h ho => ?_
 unfold k255 at h; split at h <;> cases h; rename_i mn XB XS XT XD XF a b; have K := kn.cons a256; rcases Bool.eq_false_or_eq_true (decide (0 <= a /\ a < ((XB.length : Nat) : Int))) with h1 | h1
 · have v0 : Ref (.bool (decide (0 <= a /\ a < (XB.length : Int)))) (.bool true) := Ref.bool h1
   rcases Bool.eq_false_or_eq_true (decide (0 <= b /\ b < ((XB.length : Nat) : Int))) with h2 | h2
   · refine rF K [(10, tt), (15, tt)] (.a2 v0 (show Ref (.bool (decide (0 <= b /\ b < (XB.length : Int)))) (.bool true) from Ref.bool h2)) (V := .bool (!decide (a = b))) ?_
     unfold pairB; simp only [*, Bool.true_and, Bool.false_and]; exact rr
   · refine rF K [(10, tt), (15, ff)] (.a2 v0 (show Ref (.bool (decide (0 <= b /\ b < (XB.length : Int)))) (.bool false) from Ref.bool h2)) (V := .bool false) ?_
     unfold pairB; simp only [*, Bool.true_and, Bool.false_and]; exact rr
 · refine rF K [(10, ff)] (.a1 (show Ref (.bool (decide (0 <= a /\ a < (XB.length : Int)))) (.bool false) from Ref.bool h1)) (V := .bool false) ?_
   unfold pairB; simp only [*, Bool.true_and, Bool.false_and]; exact rr
def springE (n : Nat) (v : CordyD) : Int := if pairB n v.a v.b = false then 2 else if Int.sign v.k.num < 0 then 2 else 0
def k192 : KF
 | [.agg [.str mn, .list 27 XB, .list 17 XS, .list 17 XT, .list 13 XD, .list 5 XF], .int .i64 i] => some (.int .i64 (springE XB.length ((XS.map reCordy).getD i.toNat default)), [0 <= i, XS = (XS.map reCordy).map (unCordy 300), i.toNat < XS.length])
 | _ => none
theorem a192 : Ctr 192 k192 := by
 refine ctr Tryz.f192 fun _ _ _ S w0 h ho => ?_
 unfold k192 at h; split at h <;> cases h; rename_i mn XB XS XT XD XF i; obtain ⟨o1000, o1, o2⟩ := ho.e3; have K := (kn.cons a255).cons a60; obtain ⟨i, rfl⟩ := Int.eq_ofNat_of_zero_le o1000; clear o1000; replace o1 : XS = (XS.map reCordy).map (unCordy 300) := o1; replace o2 : i < XS.length := o2; obtain ⟨v, hv⟩ : ∃ v, v = (XS.map reCordy).getD i default := ⟨_, rfl⟩; have hr : Ref (.cptr (XS.getD i []) 0) (.cptr (unCordy 300 v) 0) := by rw [hv]; exact Ref.cmapX o1 o2
 have v0 : Ref (.cptr (XS.getD i []) 0) (.cptr (unCordy 300 v) 0) := by exact hr
 have v1 : (i : Int) < (XS.length : Int) := by omega
 rcases Bool.eq_false_or_eq_true (!(pairB XB.length v.a v.b)) with h1 | h1
 · refine rF K [(9, .cptr (unCordy 300 v) 0), (18, tt)] (.a4 v0 (nn i) v1 (show Ref (.bool (!(pairB XB.length v.a v.b))) (.bool true) from Ref.bool h1)) (V := .i6 (2 : Int)) (r := .i6 (springE XB.length ((XS.map reCordy).getD i default))) ?_
   rw [<- hv]; clear hv hr o1 ho; exact Ref.int (by unfold springE; simp_all)
 · have v2 : Ref (.bool (!(pairB XB.length v.a v.b))) (.bool false) := Ref.bool h1
   by_cases h2 : (Int.sign v.k.num) < (0 : Int)
   · refine rF K [(9, .cptr (unCordy 300 v) 0), (18, ff), (23, tt)] (.a5 v0 (nn i) v1 v2 (iT h2)) (V := .i6 (2 : Int)) (r := .i6 (springE XB.length ((XS.map reCordy).getD i default))) ?_
     rw [<- hv]; clear hv hr o1 ho; exact Ref.int (by unfold springE; simp_all)
   · refine rF K [(9, .cptr (unCordy 300 v) 0), (18, ff), (23, ff)] (.a5 v0 (nn i) v1 v2 (iF h2)) (V := .i6 (0 : Int)) (r := .i6 (springE XB.length ((XS.map reCordy).getD i default))) ?_
     rw [<- hv]; clear hv hr o1 ho; exact Ref.int (by unfold springE; simp_all)
def KT191_ok := kn.cons a192
def k191 : KF
 | [.list 17 X, .int .i64 t, .fnm 192 true M] => some (.int .i64 (eachE (reMach M).springs.length t (fun i => springE (reMach M).bodies.length ((reMach M).springs.getD i default))), [M = unMach 300 (reMach M), X = (reMach M).springs.map (unCordy 300), (reMach M).springs.length <= 4611686018427387904])
 | _ => none
section
variable {S : Nat -> Prop} {w0 : World}
theorem ret191 {R : Int} {todo : List Item} {σ : List AV} {h : List (Option ABlk)} {b : Int} (e : b = R) (hσ : σ.getD 6 .any = .i6 b) : GF 191 S w0 (.i6 R) (.code .ret :: todo) ⟨σ, h⟩ :=
 good_ret1 TT0_ok (fn := Tryz.f191) (by kernel_rfl) 6 (by kernel_rfl) rfl (by rw [hσ]; rfl) (by rw [hσ, e]; exact rr)
noncomputable abbrev T191 : List Item := [.code (nav [1, 1, 0, 1, 0, 0] (bodyOf Tryz.f191)), .inLoop (nav [1, 1, 0, 1, 0, 0] (bodyOf Tryz.f191)), .inBlock 0, .code (nav [1, 1, 1] (bodyOf Tryz.f191))]
theorem loop191 {m : MachD} {R : Int} (hR : firstE (fun i => springE m.bodies.length (m.springs.getD i default)) 0 m.springs.length = R) (hL : m.springs.length <= 4611686018427387904) :
   GF 191 S w0 (.i6 R) T191 ⟨slots 25 [(0, .list 17 (m.springs.map (unCordy 300))), (2, .fnm 192 true (unMach 300 m)), (14, .i6 ((m.springs.length : Nat) : Int)), (15, .i6 ((0 : Nat) : Int))], []⟩ := by
 refine down (G := fun i => firstE (fun i => springE m.bodies.length (m.springs.getD i default)) i (m.springs.length - i) = R -> GF 191 S w0 (.i6 R) T191 ⟨slots 25 [(0, .list 17 (m.springs.map (unCordy 300))), (2, .fnm 192 true (unMach 300 m)), (14, .i6 ((m.springs.length : Nat) : Int)), (15, .i6 ((i : Nat) : Int))], []⟩) m.springs.length ?_ ?_ hR
 · intro he
   rw [Nat.sub_self] at he; exact rF KT191_ok [(16, ff)] (.a1 (iF (om (¬ ((m.springs.length : Int) < (m.springs.length : Int)))))) (V := .i6 (0 : Int)) (Ref.int he)
 · intro i hlt ih he
   have hx : (m.springs.map (unCordy 300)).length = m.springs.length := lmE ..; rw [show m.springs.length - i = (m.springs.length - (i + 1)) + 1 by omega, firstE] at he; have v0 : Ref (.i6 (springE (m.bodies.map (unBody 300)).length (((m.springs.map (unCordy 300)).map reCordy).getD i default))) (.i6 (springE m.bodies.length (m.springs.getD i default))) := Ref.int (by rw [reCordy_un, lmE]); have v1 : (m.springs.map (unCordy 300)) = ((m.springs.map (unCordy 300)).map reCordy).map (unCordy 300) := by rw [reCordy_un]
   have v2 : i < (m.springs.map (unCordy 300)).length := by rw [lmE]; exact hlt
   have v3 : (i : Int) < (m.springs.length : Int) := by omega
   by_cases c : springE m.bodies.length (m.springs.getD i default) = 0
   · rw [if_pos c] at he
     exact gR KT191_ok none [0, 2, 6, 14, 15] [] [(16, tt), (20, .i6 (springE m.bodies.length (m.springs.getD i default))), (22, ff), (24, .i6 ((i + 1 : Nat) : Int))] (.c6 (iT v3) v0 (nn i) v1 v2 (jF c) (.a1 (wI ((i : Int) + (1 : Int)) ((i + 1 : Nat) : Int)))) (ih he)
   · rw [if_neg c] at he
     exact rF KT191_ok [(16, tt), (20, .i6 (springE m.bodies.length (m.springs.getD i default))), (22, tt)] (.a6 (iT v3) v0 (nn i) v1 v2 (jT c)) (V := .i6 (springE m.bodies.length (m.springs.getD i default))) (Ref.int he)
end
theorem a191 : Ctr 191 k191 := by
 refine ctr Tryz.f191 fun _ _ _ S w0 h ho => ?_
 unfold k191 at h; split at h <;> cases h; rename_i X t M; obtain ⟨o1, o2, o3⟩ := ho.e3; clear ho; generalize reMach M = m at *; subst o1; subst o2; have hx : (m.springs.map (unCordy 300)).length = m.springs.length := lmE ..
 by_cases c : t < ((m.springs.length : Nat) : Int)
 · exact rF KT191_ok [(12, tt)] (.a1 (iT (show t < ((m.springs.map (unCordy 300)).length : Int) by rw [hx]; exact c))) (V := .i6 (5 : Int)) (Ref.int (by unfold eachE; rw [if_pos c]))
 · refine gN KT191_ok [0, 1, 2, 6, 13, 14, 15] [(12, ff)] (.a1 (iF (show ¬ (t < ((m.springs.map (unCordy 300)).length : Int)) by rw [hx]; exact c))) (t := T191) (σ := slots 25 [(0, .list 17 (m.springs.map (unCordy 300))), (1, .i6 t), (2, .fnm 192 true (unMach 300 m)), (6, .i6 (0 : Int)), (13, .list 17 (m.springs.map (unCordy 300))), (14, (.i6 ((m.springs.map (unCordy 300)).length : Int))), (15, .i6 (0 : Int))]) (h := []) ?_
   rw [hx]; exact Good.weak 25 [(0, _), (2, _), (14, _), (15, _)] (by kernel_rfl) (.r (.r (.r (.r .nil)))) (loop191 (by unfold eachE; rw [if_neg c]) o3)
def tendonE (n : Nat) (v : CordyD) : Int := if pairB n v.a v.b = false then 2 else if Int.sign v.k.num <= 0 then 2 else 0
def k194 : KF
 | [.agg [.str mn, .list 27 XB, .list 17 XS, .list 17 XT, .list 13 XD, .list 5 XF], .int .i64 i] => some (.int .i64 (tendonE XB.length ((XT.map reCordy).getD i.toNat default)), [0 <= i, XT = (XT.map reCordy).map (unCordy 300), i.toNat < XT.length])
 | _ => none
theorem a194 : Ctr 194 k194 := by
 refine ctr Tryz.f194 fun _ _ _ S w0 h ho => ?_
 unfold k194 at h; split at h <;> cases h; rename_i mn XB XS XT XD XF i; obtain ⟨o1000, o1, o2⟩ := ho.e3; have K := (kn.cons a255).cons a60; obtain ⟨i, rfl⟩ := Int.eq_ofNat_of_zero_le o1000; clear o1000; replace o1 : XT = (XT.map reCordy).map (unCordy 300) := o1; replace o2 : i < XT.length := o2; obtain ⟨v, hv⟩ : ∃ v, v = (XT.map reCordy).getD i default := ⟨_, rfl⟩; have hr : Ref (.cptr (XT.getD i []) 0) (.cptr (unCordy 300 v) 0) := by rw [hv]; exact Ref.cmapX o1 o2
 have v0 : Ref (.cptr (XT.getD i []) 0) (.cptr (unCordy 300 v) 0) := by exact hr
 have v1 : (i : Int) < (XT.length : Int) := by omega
 rcases Bool.eq_false_or_eq_true (!(pairB XB.length v.a v.b)) with h1 | h1
 · refine rF K [(9, .cptr (unCordy 300 v) 0), (18, tt)] (.a4 v0 (nn i) v1 (show Ref (.bool (!(pairB XB.length v.a v.b))) (.bool true) from Ref.bool h1)) (V := .i6 (2 : Int)) (r := .i6 (tendonE XB.length ((XT.map reCordy).getD i default))) ?_
   rw [<- hv]; clear hv hr o1 ho; exact Ref.int (by unfold tendonE; simp_all)
 · have v2 : Ref (.bool (!(pairB XB.length v.a v.b))) (.bool false) := Ref.bool h1
   by_cases h2 : (Int.sign v.k.num) <= (0 : Int)
   · refine rF K [(9, .cptr (unCordy 300 v) 0), (18, ff), (23, tt)] (.a5 v0 (nn i) v1 v2 (iT h2)) (V := .i6 (2 : Int)) (r := .i6 (tendonE XB.length ((XT.map reCordy).getD i default))) ?_
     rw [<- hv]; clear hv hr o1 ho; exact Ref.int (by unfold tendonE; simp_all)
   · refine rF K [(9, .cptr (unCordy 300 v) 0), (18, ff), (23, ff)] (.a5 v0 (nn i) v1 v2 (iF h2)) (V := .i6 (0 : Int)) (r := .i6 (tendonE XB.length ((XT.map reCordy).getD i default))) ?_
     rw [<- hv]; clear hv hr o1 ho; exact Ref.int (by unfold tendonE; simp_all)
def KT193_ok := kn.cons a194
def k193 : KF
 | [.list 17 X, .int .i64 t, .fnm 194 true M] => some (.int .i64 (eachE (reMach M).tendons.length t (fun i => tendonE (reMach M).bodies.length ((reMach M).tendons.getD i default))), [M = unMach 300 (reMach M), X = (reMach M).tendons.map (unCordy 300), (reMach M).tendons.length <= 4611686018427387904])
 | _ => none
section
variable {S : Nat -> Prop} {w0 : World}
theorem ret193 {R : Int} {todo : List Item} {σ : List AV} {h : List (Option ABlk)} {b : Int} (e : b = R) (hσ : σ.getD 6 .any = .i6 b) : GF 193 S w0 (.i6 R) (.code .ret :: todo) ⟨σ, h⟩ :=
 good_ret1 TT0_ok (fn := Tryz.f193) (by kernel_rfl) 6 (by kernel_rfl) rfl (by rw [hσ]; rfl) (by rw [hσ, e]; exact rr)
noncomputable abbrev T193 : List Item := [.code (nav [1, 1, 0, 1, 0, 0] (bodyOf Tryz.f193)), .inLoop (nav [1, 1, 0, 1, 0, 0] (bodyOf Tryz.f193)), .inBlock 0, .code (nav [1, 1, 1] (bodyOf Tryz.f193))]
theorem loop193 {m : MachD} {R : Int} (hR : firstE (fun i => tendonE m.bodies.length (m.tendons.getD i default)) 0 m.tendons.length = R) (hL : m.tendons.length <= 4611686018427387904) :
   GF 193 S w0 (.i6 R) T193 ⟨slots 25 [(0, .list 17 (m.tendons.map (unCordy 300))), (2, .fnm 194 true (unMach 300 m)), (14, .i6 ((m.tendons.length : Nat) : Int)), (15, .i6 ((0 : Nat) : Int))], []⟩ := by
 refine down (G := fun i => firstE (fun i => tendonE m.bodies.length (m.tendons.getD i default)) i (m.tendons.length - i) = R -> GF 193 S w0 (.i6 R) T193 ⟨slots 25 [(0, .list 17 (m.tendons.map (unCordy 300))), (2, .fnm 194 true (unMach 300 m)), (14, .i6 ((m.tendons.length : Nat) : Int)), (15, .i6 ((i : Nat) : Int))], []⟩) m.tendons.length ?_ ?_ hR
 · intro he
   rw [Nat.sub_self] at he; exact rF KT193_ok [(16, ff)] (.a1 (iF (om (¬ ((m.tendons.length : Int) < (m.tendons.length : Int)))))) (V := .i6 (0 : Int)) (Ref.int he)
 · intro i hlt ih he
   have hx : (m.tendons.map (unCordy 300)).length = m.tendons.length := lmE ..; rw [show m.tendons.length - i = (m.tendons.length - (i + 1)) + 1 by omega, firstE] at he; have v0 : Ref (.i6 (tendonE (m.bodies.map (unBody 300)).length (((m.tendons.map (unCordy 300)).map reCordy).getD i default))) (.i6 (tendonE m.bodies.length (m.tendons.getD i default))) := Ref.int (by rw [reCordy_un, lmE]); have v1 : (m.tendons.map (unCordy 300)) = ((m.tendons.map (unCordy 300)).map reCordy).map (unCordy 300) := by rw [reCordy_un]
   have v2 : i < (m.tendons.map (unCordy 300)).length := by rw [lmE]; exact hlt
   have v3 : (i : Int) < (m.tendons.length : Int) := by omega
   by_cases c : tendonE m.bodies.length (m.tendons.getD i default) = 0
   · rw [if_pos c] at he
     exact gR KT193_ok none [0, 2, 6, 14, 15] [] [(16, tt), (20, .i6 (tendonE m.bodies.length (m.tendons.getD i default))), (22, ff), (24, .i6 ((i + 1 : Nat) : Int))] (.c6 (iT v3) v0 (nn i) v1 v2 (jF c) (.a1 (wI ((i : Int) + (1 : Int)) ((i + 1 : Nat) : Int)))) (ih he)
   · rw [if_neg c] at he
     exact rF KT193_ok [(16, tt), (20, .i6 (tendonE m.bodies.length (m.tendons.getD i default))), (22, tt)] (.a6 (iT v3) v0 (nn i) v1 v2 (jT c)) (V := .i6 (tendonE m.bodies.length (m.tendons.getD i default))) (Ref.int he)
end
theorem a193 : Ctr 193 k193 := by
 refine ctr Tryz.f193 fun _ _ _ S w0 h ho => ?_
 unfold k193 at h; split at h <;> cases h; rename_i X t M; obtain ⟨o1, o2, o3⟩ := ho.e3; clear ho; generalize reMach M = m at *; subst o1; subst o2; have hx : (m.tendons.map (unCordy 300)).length = m.tendons.length := lmE ..
 by_cases c : t < ((m.tendons.length : Nat) : Int)
 · exact rF KT193_ok [(12, tt)] (.a1 (iT (show t < ((m.tendons.map (unCordy 300)).length : Int) by rw [hx]; exact c))) (V := .i6 (5 : Int)) (Ref.int (by unfold eachE; rw [if_pos c]))
 · refine gN KT193_ok [0, 1, 2, 6, 13, 14, 15] [(12, ff)] (.a1 (iF (show ¬ (t < ((m.tendons.map (unCordy 300)).length : Int)) by rw [hx]; exact c))) (t := T193) (σ := slots 25 [(0, .list 17 (m.tendons.map (unCordy 300))), (1, .i6 t), (2, .fnm 194 true (unMach 300 m)), (6, .i6 (0 : Int)), (13, .list 17 (m.tendons.map (unCordy 300))), (14, (.i6 ((m.tendons.map (unCordy 300)).length : Int))), (15, .i6 (0 : Int))]) (h := []) ?_
   rw [hx]; exact Good.weak 25 [(0, _), (2, _), (14, _), (15, _)] (by kernel_rfl) (.r (.r (.r (.r .nil)))) (loop193 (by unfold eachE; rw [if_neg c]) o3)
def k258 : KF
 | [.agg [.int .i64 p, .q to 300, .q he 300, .q co 300, .q mo 300], .cptr [.int .i64 p', .q to' 300, .q he' 300, .q co' 300, .q mo' 300] 0] => some (.bool (decide (p = p')), [])
 | _ => none
theorem a258 : Ctr 258 k258 := by
 refine ctr Tryz.f258 fun _ _ _ S w0 h ho => ?_
 unfold k258 at h; split at h <;> cases h; rename_i p to he co mo p' to' he' co' mo'; exact rR .nil [] .nil
def KT295_ok := kn.cons a258
def k295 : KF
 | [.list 13 X, .fn 258 [.cptr [.int .i64 p0, .q to0 300, .q he0 300, .q co0 300, .q mo0 300] 0]] => some (.int .i64 (idxP (fun j => (decide (((X.map reMotor).getD j default).body = p0))) 0 X.length), [X = (X.map reMotor).map (unMotor 300), X.length <= 4611686018427387904])
 | _ => none
section
variable {S : Nat -> Prop} {w0 : World}
noncomputable abbrev T295 : List Item := [.code (nav [1, 0, 1, 0, 0] (bodyOf Tryz.f295)), .inLoop (nav [1, 0, 1, 0, 0] (bodyOf Tryz.f295)), .inBlock 0, .code (nav [1, 1] (bodyOf Tryz.f295))]
theorem loop295 {es : List MotorD} (p0 : Int) (to0 he0 co0 mo0 : Rat) (hL : es.length <= 4611686018427387904) :
   GF 295 S w0 (.i6 (idxP (fun j => (decide ((es.getD j default).body = p0))) 0 es.length)) T295 ⟨slots 19 [(0, .list 13 (es.map (unMotor 300))), (1, .fn 258 [.cptr [.i6 p0, .q to0 300, .q he0 300, .q co0 300, .q mo0 300] 0]), (6, .list 13 (es.map (unMotor 300))), (7, .i6 ((es.length : Nat) : Int)), (8, .i6 ((0 : Nat) : Int))], []⟩ := by
 have ret : ∀ {todo : List Item} {σ : List AV} {h : List (Option ABlk)} {b : Int}, b = idxP (fun j => (decide ((es.getD j default).body = p0))) 0 es.length -> σ.getD 4 .any = .i6 b -> GF 295 S w0 (.i6 (idxP (fun j => (decide ((es.getD j default).body = p0))) 0 es.length)) (.code .ret :: todo) ⟨σ, h⟩ := fun e hσ =>
   good_ret1 TT0_ok (fn := Tryz.f295) (by kernel_rfl) 4 (by kernel_rfl) rfl (by rw [hσ]; rfl) (by rw [hσ, e]; exact rr)
 refine down (G := fun i => idxP (fun j => (decide ((es.getD j default).body = p0))) i (es.length - i) = idxP (fun j => (decide ((es.getD j default).body = p0))) 0 es.length -> GF 295 S w0 (.i6 (idxP (fun j => (decide ((es.getD j default).body = p0))) 0 es.length)) T295 ⟨slots 19 [(0, .list 13 (es.map (unMotor 300))), (1, .fn 258 [.cptr [.i6 p0, .q to0 300, .q he0 300, .q co0 300, .q mo0 300] 0]), (6, .list 13 (es.map (unMotor 300))), (7, .i6 ((es.length : Nat) : Int)), (8, .i6 ((i : Nat) : Int))], []⟩) es.length ?_ ?_ rfl
 · intro he
   rw [Nat.sub_self] at he; exact rF KT295_ok [(9, ff)] (.a1 (iF (om (¬ ((es.length : Int) < (es.length : Int)))))) (V := .i6 (-1 : Int)) (Ref.int he)
 · intro i hlt ih he
   rw [show es.length - i = (es.length - (i + 1)) + 1 by omega, idxP] at he; have v0 : Ref (.cptr ((es.map (unMotor 300)).getD i []) 0) (.cptr (unMotor 300 (es.getD i default)) 0) := Ref.cmap hlt; have v1 : (i : Int) < ((es.map (unMotor 300)).length : Int) := by rw [lmE]; omega
   have v2 : (i : Int) < (es.length : Int) := by omega
   by_cases c : (decide ((es.getD i default).body = p0)) = true
   · rw [if_pos c] at he
     exact rF KT295_ok [(9, tt), (14, .cptr (unMotor 300 (es.getD i default)) 0), (16, tt)] (.a5 (iT v2) v0 (nn i) v1 (show Ref (.bool (decide ((es.getD i default).body = p0))) (.bool true) from Ref.bool c)) (V := .i6 (i : Int)) (Ref.int he)
   · rw [if_neg c] at he
     exact gR KT295_ok none [0, 1, 4, 6, 7, 8] [] [(9, tt), (14, .cptr (unMotor 300 (es.getD i default)) 0), (16, ff), (18, .i6 ((i + 1 : Nat) : Int))] (.a6 (iT v2) v0 (nn i) v1 (show Ref (.bool (decide ((es.getD i default).body = p0))) (.bool false) from Ref.bool (show (decide ((es.getD i default).body = p0)) = false by simpa using c)) (wI ((i : Int) + (1 : Int)) ((i + 1 : Nat) : Int))) (ih he)
end
theorem a295 : Ctr 295 k295 := by
 refine ctr Tryz.f295 fun _ _ _ S w0 h ho => ?_
 unfold k295 at h; split at h <;> cases h; rename_i X p0 to0 he0 co0 mo0; obtain ⟨o1, -⟩ := ho.e2; have o2 : (X.map reMotor).length <= 4611686018427387904 := by rw [lmE]; exact ho _ (by simp)
 clear ho; rw [show X.length = (X.map reMotor).length by rw [lmE]]; generalize (X.map reMotor) = es at *; subst o1; refine gN KT295_ok [0, 1, 6, 7, 8] [] .nil (t := T295) (σ := slots 19 [(0, .list 13 (es.map (unMotor 300))), (1, .fn 258 [.cptr [.i6 p0, .q to0 300, .q he0 300, .q co0 300, .q mo0 300] 0]), (6, .list 13 (es.map (unMotor 300))), (7, (.i6 ((es.map (unMotor 300)).length : Int))), (8, .i6 (0 : Int))]) (h := []) ?_
 rw [lmE]; exact loop295 p0 to0 he0 co0 mo0 o2
def k257 : KF
 | [.list 13 X, .fn 258 [.cptr [.int .i64 p0, .q to0 300, .q he0 300, .q co0 300, .q mo0 300] 0]] => some (.bool (decide (0 <= idxP (fun j => (decide (((X.map reMotor).getD j default).body = p0))) 0 X.length)), [X = (X.map reMotor).map (unMotor 300), X.length <= 4611686018427387904])
 | _ => none
theorem a257 : Ctr 257 k257 := by
 refine ctr Tryz.f257 fun _ _ _ S w0 h ho => ?_
 unfold k257 at h; split at h <;> cases h; rename_i X p0 to0 he0 co0 mo0; obtain ⟨o1, o2⟩ := ho.e2; have K := kn.cons a295; exact rR K [] (.a2 o1 o2)
def KT196_ok := ((kn.cons a257).cons a256).cons a60
noncomputable abbrev c196T0 : List Item := [.code .ret, .inBlock 0, .code (nav [1, 1, 1] (bodyOf Tryz.f196))]
noncomputable abbrev c196T1 : List Item := [.code (nav [1, 1, 0, 0, 1, 1, 0] (bodyOf Tryz.f196)), .code (nav [1, 1, 0, 0, 1, 1, 1] (bodyOf Tryz.f196)), .inBlock 0, .code (nav [1, 1, 1] (bodyOf Tryz.f196))]
def twiceM (bs : List MotorD) (i : Nat) (v : MotorD) : Prop := 0 <= idxP (fun j => (decide (((bs.take i).getD j default).body = v.body))) 0 i
instance (bs : List MotorD) (i : Nat) (v : MotorD) : Decidable (twiceM bs i v) := by unfold twiceM; infer_instance
def motorV (n : Nat) (bs : List MotorD) (i : Nat) (v : MotorD) : Int :=
 if decide (0 <= v.body /\ v.body < ((n : Nat) : Int)) = false \/ v.body = 0 \/ Int.sign v.t.num < 0 \/ Int.sign v.h.num < 0 \/ Int.sign v.c.num < 0 \/ Int.sign v.m.num <= 0 then 2 else if twiceM bs i v then 7 else 0
def motorE (n : Nat) (bs : List MotorD) (i : Nat) : Int := motorV n bs i (bs.getD i default)
def k196 : KF
 | [.agg M, .int .i64 i] => some (.int .i64 (motorE (reMach M).bodies.length (reMach M).motors i.toNat), [0 <= i, M = unMach 300 (reMach M), i.toNat < (reMach M).motors.length, (reMach M).motors.length <= 4611686018427387904])
 | _ => none
section
variable {S : Nat -> Prop} {w0 : World}
theorem ret196 {R : Int} {todo : List Item} {σ : List AV} {h : List (Option ABlk)} {b : Int} (e : b = R) (hσ : σ.getD 4 .any = .i6 b) : GF 196 S w0 (.i6 R) (.code .ret :: todo) ⟨σ, h⟩ :=
 good_ret1 TT0_ok (fn := Tryz.f196) (by kernel_rfl) 4 (by kernel_rfl) rfl (by rw [hσ]; rfl) (by rw [hσ, e]; exact rr)
theorem s196_1 (m : MachD) (i : Nat) (v : MotorD) (hi : i <= m.motors.length) (hL : m.motors.length <= 4611686018427387904) : GF 196 S w0 (.i6 (if twiceM m.motors i v then 7 else 0)) c196T1 ⟨slots 53 [(1, .i6 ((i : Nat) : Int)), (2, .ptr 0 6 0 0), (5, .cptr (unMotor 300 v) 0)], [some ⟨41, 6, false, [unMach 300 m], none⟩]⟩ := by
 have ht : (m.motors.take i).length = i := by rw [List.length_take]; omega
 have hx : ((m.motors.take i).map (unMotor 300)).length = i := by rw [lmE, ht]
 have v0 : Ref (.bool (decide (0 <= idxP (fun j => (decide (((((m.motors.take i).map (unMotor 300)).map reMotor).getD j default).body = v.body))) 0 ((m.motors.take i).map (unMotor 300)).length))) (.bool (decide (0 <= idxP (fun j => (decide (((m.motors.take i).getD j default).body = v.body))) 0 i))) := Ref.bool (by rw [reMotor_un, hx]); have v1 : Ref (.list 13 (((m.motors.map (unMotor 300)).take i).drop 0)) (.list 13 ((m.motors.take i).map (unMotor 300))) := Ref.eq (by rw [List.drop_zero, List.map_take]); have v2 : ((m.motors.take i).map (unMotor 300)) = (((m.motors.take i).map (unMotor 300)).map reMotor).map (unMotor 300) := by rw [reMotor_un]
 have v3 : (i : Int) <= ((m.motors.map (unMotor 300)).length : Int) := by rw [lmE]; omega
 have v4 : ((m.motors.take i).map (unMotor 300)).length <= 4611686018427387904 := by omega
 rcases Bool.eq_false_or_eq_true (decide (0 <= idxP (fun j => (decide (((m.motors.take i).getD j default).body = v.body))) 0 i)) with c1 | c1
 · refine gR KT196_ok none [4] [] [(50, .list 13 ((m.motors.take i).map (unMotor 300))), (52, .bool (decide (0 <= idxP (fun j => (decide (((m.motors.take i).getD j default).body = v.body))) 0 i))), (46, tt)] (.c6 v1 (nn i) v3 v0 v2 v4 (.a1 (show Ref (.bool (decide (0 <= idxP (fun j => (decide (((m.motors.take i).getD j default).body = v.body))) 0 i))) (.bool true) from Ref.bool c1))) (t := c196T0) (σ := slots 53 [(4, .i6 (7 : Int))]) (h := []) ?_
   rw [if_pos (show twiceM m.motors i v from of_decide_eq_true c1)]; exact ret196 (b := 7) rfl rfl
 · refine gR KT196_ok none [4] [] [(50, .list 13 ((m.motors.take i).map (unMotor 300))), (52, .bool (decide (0 <= idxP (fun j => (decide (((m.motors.take i).getD j default).body = v.body))) 0 i))), (46, ff)] (.c6 v1 (nn i) v3 v0 v2 v4 (.a1 (show Ref (.bool (decide (0 <= idxP (fun j => (decide (((m.motors.take i).getD j default).body = v.body))) 0 i))) (.bool false) from Ref.bool c1))) (t := [.code .ret]) (σ := slots 53 [(4, .i6 (0 : Int))]) (h := []) ?_
   rw [if_neg (show ¬ twiceM m.motors i v from of_decide_eq_false c1)]; exact ret196 (b := 0) rfl rfl
end
abbrev c196_0 (m : MachD) (v : MotorD) : List (Option ABlk) := [some ⟨41, 6, false, [(unMach 300 m)], none⟩, some ⟨239, 13, false, [(unMotor 300 v)], none⟩]
theorem a196 : Ctr 196 k196 := fun args r ob h ho => by
 unfold k196 at h
 split at h
 · rename_i M i
   cases h; have o0 : 0 <= i := ho _ (by simp); have o1 : M = unMach 300 (reMach M) := ho _ (by simp); have o2 : i.toNat < (reMach M).motors.length := ho _ (by simp); have o3 : (reMach M).motors.length <= 4611686018427387904 := ho _ (by simp); clear ho; generalize reMach M = m at *; subst o1; obtain ⟨i, rfl⟩ := Int.eq_ofNat_of_zero_le o0; replace o2 : i < m.motors.length := o2; show AFun Tryz.prog 196 [.agg (unMach 300 m), .i6 ((i : Nat) : Int)] (.i6 (motorV m.bodies.length m.motors i (m.motors.getD i default))); obtain ⟨v, hv⟩ : ∃ v, v = m.motors.getD i default := ⟨_, rfl⟩; have hr : Ref (.cptr ((m.motors.map (unMotor 300)).getD i []) 0) (.cptr (unMotor 300 v) 0) := by rw [hv]; exact Ref.cmap o2
   rw [<- hv]; clear hv; refine af Tryz.f196 fun S w0 => ?_
   have e : st0 [AV.agg (unMach 300 m), .i6 ((i : Nat) : Int)] Tryz.f196.ntmps = ⟨slots 53 [(0, .agg (unMach 300 m)), (1, .i6 ((i : Nat) : Int))], []⟩ := by kernel_rfl
   rw [e]; clear e; have hb : (m.bodies.map (unBody 300)).length = m.bodies.length := lmE ..; unfold motorV; have v1 : (i : Int) < ((m.motors.map (unMotor 300)).length : Int) := by rw [lmE]; omega
   rcases Bool.eq_false_or_eq_true (!(decide (0 <= v.body /\ v.body < (((m.bodies.map (unBody 300)).length : Nat) : Int)))) with c1 | c1
   · refine gR KT196_ok (some 4) [1, 2, 4, 5] [0, 1] [(9, .cptr (unMotor 300 v) 0), (17, tt)] (.a4 hr (nn i) v1 (show Ref (.bool (!(decide (0 <= v.body /\ v.body < ((m.bodies.map (unBody 300)).length : Int))))) (.bool true) from Ref.bool c1)) (t := c196T0) (σ := slots 53 [(1, .i6 (i : Int)), (2, .ptr 0 6 0 0), (4, .i6 (2 : Int)), (5, .ptr 1 13 0 0)]) (h := (c196_0 m v)) ?_
     rw [hb] at c1; generalize decide (0 <= v.body /\ v.body < ((m.bodies.length : Nat) : Int)) = dd at c1 ⊢; exact ret196 (b := 2) (by rw [if_pos (by clear hr o2 o3 S w0; simp_all)]) rfl
   · have v0 : Ref (.bool (!(decide (0 <= v.body /\ v.body < ((m.bodies.map (unBody 300)).length : Int))))) (.bool false) := Ref.bool c1
     by_cases c2 : v.body = (0 : Int)
     · refine gR KT196_ok (some 4) [1, 2, 4, 5] [0, 1] [(9, .cptr (unMotor 300 v) 0), (17, ff), (22, tt)] (.a5 hr (nn i) v1 v0 (iT c2)) (t := c196T0) (σ := slots 53 [(1, .i6 (i : Int)), (2, .ptr 0 6 0 0), (4, .i6 (2 : Int)), (5, .ptr 1 13 0 0)]) (h := (c196_0 m v)) ?_
       rw [hb] at c1; generalize decide (0 <= v.body /\ v.body < ((m.bodies.length : Nat) : Int)) = dd at c1 ⊢; exact ret196 (b := 2) (by rw [if_pos (by clear hr o2 o3 S w0; simp_all)]) rfl
     · by_cases c3 : (Int.sign v.t.num) < (0 : Int)
       · refine gR KT196_ok (some 4) [1, 2, 4, 5] [0, 1] [(9, .cptr (unMotor 300 v) 0), (17, ff), (22, ff), (28, tt)] (.a6 hr (nn i) v1 v0 (iF c2) (iT c3)) (t := c196T0) (σ := slots 53 [(1, .i6 (i : Int)), (2, .ptr 0 6 0 0), (4, .i6 (2 : Int)), (5, .ptr 1 13 0 0)]) (h := (c196_0 m v)) ?_
         rw [hb] at c1; generalize decide (0 <= v.body /\ v.body < ((m.bodies.length : Nat) : Int)) = dd at c1 ⊢; exact ret196 (b := 2) (by rw [if_pos (by clear hr o2 o3 S w0; simp_all)]) rfl
       · by_cases c4 : (Int.sign v.h.num) < (0 : Int)
         · refine gR KT196_ok (some 4) [1, 2, 4, 5] [0, 1] [(9, .cptr (unMotor 300 v) 0), (17, ff), (22, ff), (28, ff), (34, tt)] (.c6 hr (nn i) v1 v0 (iF c2) (iF c3) (.a1 (iT c4))) (t := c196T0) (σ := slots 53 [(1, .i6 (i : Int)), (2, .ptr 0 6 0 0), (4, .i6 (2 : Int)), (5, .ptr 1 13 0 0)]) (h := (c196_0 m v)) ?_
           rw [hb] at c1; generalize decide (0 <= v.body /\ v.body < ((m.bodies.length : Nat) : Int)) = dd at c1 ⊢; exact ret196 (b := 2) (by rw [if_pos (by clear hr o2 o3 S w0; simp_all)]) rfl
         · by_cases c5 : (Int.sign v.c.num) < (0 : Int)
           · refine gR KT196_ok (some 4) [1, 2, 4, 5] [0, 1] [(9, .cptr (unMotor 300 v) 0), (17, ff), (22, ff), (28, ff), (34, ff), (40, tt)] (.c6 hr (nn i) v1 v0 (iF c2) (iF c3) (.a2 (iF c4) (iT c5))) (t := c196T0) (σ := slots 53 [(1, .i6 (i : Int)), (2, .ptr 0 6 0 0), (4, .i6 (2 : Int)), (5, .ptr 1 13 0 0)]) (h := (c196_0 m v)) ?_
             rw [hb] at c1; generalize decide (0 <= v.body /\ v.body < ((m.bodies.length : Nat) : Int)) = dd at c1 ⊢; exact ret196 (b := 2) (by rw [if_pos (by clear hr o2 o3 S w0; simp_all)]) rfl
           · by_cases c6 : (Int.sign v.m.num) <= (0 : Int)
             · refine gR KT196_ok (some 4) [1, 2, 4, 5] [0, 1] [(9, .cptr (unMotor 300 v) 0), (17, ff), (22, ff), (28, ff), (34, ff), (40, ff), (11, tt)] (.c6 hr (nn i) v1 v0 (iF c2) (iF c3) (.a3 (iF c4) (iF c5) (iT c6))) (t := c196T0) (σ := slots 53 [(1, .i6 (i : Int)), (2, .ptr 0 6 0 0), (4, .i6 (2 : Int)), (5, .ptr 1 13 0 0)]) (h := (c196_0 m v)) ?_
               rw [hb] at c1; generalize decide (0 <= v.body /\ v.body < ((m.bodies.length : Nat) : Int)) = dd at c1 ⊢; exact ret196 (b := 2) (by rw [if_pos (by clear hr o2 o3 S w0; simp_all)]) rfl
             · refine gR KT196_ok (some 4) [1, 2, 4, 5] [0, 1] [(9, .cptr (unMotor 300 v) 0), (17, ff), (22, ff), (28, ff), (34, ff), (40, ff), (11, ff)] (.c6 hr (nn i) v1 v0 (iF c2) (iF c3) (.a3 (iF c4) (iF c5) (iF c6))) (t := c196T1) (σ := slots 53 [(1, .i6 (i : Int)), (2, .ptr 0 6 0 0), (4, .i6 (0 : Int)), (5, .ptr 1 13 0 0)]) (h := (c196_0 m v)) ?_
               rw [hb] at c1; generalize decide (0 <= v.body /\ v.body < ((m.bodies.length : Nat) : Int)) = dd at c1 ⊢; rw [if_neg (by clear hr o2 o3 S w0; simp_all)]; refine Good.freezeD (b := ⟨239, 13, false, [unMotor 300 v], none⟩) 1 (by rfl) (by rfl) (.oe (.a1 (dc (0 < 1)))) .on ?_; refine Good.tidy [0] (by decide) (σ' := slots 53 [(1, .i6 ((i : Nat) : Int)), (2, .ptr 0 6 0 0), (4, .i6 (0 : Int)), (5, .cptr (unMotor 300 v) 0)]) (h' := [some ⟨41, 6, false, [unMach 300 m], none⟩]) (by kernel_rfl) (by kernel_rfl) ?_; exact Good.weak 53 [(1, _), (2, _), (5, _)] (by kernel_rfl) (.r (.r (.r .nil))) (s196_1 m i v (Nat.le_of_lt o2) o3)
 · cases h
def KT195_ok := kn.cons a196
def k195 : KF
 | [.list 13 X, .int .i64 t, .fnm 196 true M] => some (.int .i64 (eachE (reMach M).motors.length t (fun i => motorE (reMach M).bodies.length (reMach M).motors i)), [M = unMach 300 (reMach M), X = (reMach M).motors.map (unMotor 300), (reMach M).motors.length <= 4611686018427387904])
 | _ => none
section
variable {S : Nat -> Prop} {w0 : World}
theorem ret195 {R : Int} {todo : List Item} {σ : List AV} {h : List (Option ABlk)} {b : Int} (e : b = R) (hσ : σ.getD 6 .any = .i6 b) : GF 195 S w0 (.i6 R) (.code .ret :: todo) ⟨σ, h⟩ :=
 good_ret1 TT0_ok (fn := Tryz.f195) (by kernel_rfl) 6 (by kernel_rfl) rfl (by rw [hσ]; rfl) (by rw [hσ, e]; exact rr)
noncomputable abbrev T195 : List Item := [.code (nav [1, 1, 0, 1, 0, 0] (bodyOf Tryz.f195)), .inLoop (nav [1, 1, 0, 1, 0, 0] (bodyOf Tryz.f195)), .inBlock 0, .code (nav [1, 1, 1] (bodyOf Tryz.f195))]
theorem loop195 {m : MachD} {R : Int} (hR : firstE (fun i => motorE m.bodies.length m.motors i) 0 m.motors.length = R) (hL : m.motors.length <= 4611686018427387904) :
   GF 195 S w0 (.i6 R) T195 ⟨slots 25 [(0, .list 13 (m.motors.map (unMotor 300))), (2, .fnm 196 true (unMach 300 m)), (14, .i6 ((m.motors.length : Nat) : Int)), (15, .i6 ((0 : Nat) : Int))], []⟩ := by
 refine down (G := fun i => firstE (fun i => motorE m.bodies.length m.motors i) i (m.motors.length - i) = R -> GF 195 S w0 (.i6 R) T195 ⟨slots 25 [(0, .list 13 (m.motors.map (unMotor 300))), (2, .fnm 196 true (unMach 300 m)), (14, .i6 ((m.motors.length : Nat) : Int)), (15, .i6 ((i : Nat) : Int))], []⟩) m.motors.length ?_ ?_ hR
 · intro he
   rw [Nat.sub_self] at he; exact rF KT195_ok [(16, ff)] (.a1 (iF (om (¬ ((m.motors.length : Int) < (m.motors.length : Int)))))) (V := .i6 (0 : Int)) (Ref.int he)
 · intro i hlt ih he
   have hx : (m.motors.map (unMotor 300)).length = m.motors.length := lmE ..; rw [show m.motors.length - i = (m.motors.length - (i + 1)) + 1 by omega, firstE] at he; have v0 : Ref (.i6 (motorE (reMach (unMach 300 m)).bodies.length (reMach (unMach 300 m)).motors i)) (.i6 (motorE m.bodies.length m.motors i)) := Ref.int (congrArg (fun x : MachD => motorE x.bodies.length x.motors i) (reMach_un m)); have v1 : (reMach (unMach 300 m)).motors.length <= 4611686018427387904 := (congrArg (fun x : MachD => x.motors.length <= 4611686018427387904) (reMach_un m)).mpr hL; have v2 : i < (reMach (unMach 300 m)).motors.length := (congrArg (fun x : MachD => i < x.motors.length) (reMach_un m)).mpr hlt; have v3 : (unMach 300 m) = unMach 300 (reMach (unMach 300 m)) := (congrArg (unMach 300) (reMach_un m)).symm; have v4 : (i : Int) < (m.motors.length : Int) := by omega
   by_cases c : motorE m.bodies.length m.motors i = 0
   · rw [if_pos c] at he
     exact gR KT195_ok none [0, 2, 6, 14, 15] [] [(16, tt), (20, .i6 (motorE m.bodies.length m.motors i)), (22, ff), (24, .i6 ((i + 1 : Nat) : Int))] (.c6 (iT v4) v0 (nn i) v3 v2 v1 (.a2 (jF c) (wI ((i : Int) + (1 : Int)) ((i + 1 : Nat) : Int)))) (ih he)
   · rw [if_neg c] at he
     exact rF KT195_ok [(16, tt), (20, .i6 (motorE m.bodies.length m.motors i)), (22, tt)] (.c6 (iT v4) v0 (nn i) v3 v2 v1 (.a1 (jT c))) (V := .i6 (motorE m.bodies.length m.motors i)) (Ref.int he)
end
theorem a195 : Ctr 195 k195 := by
 refine ctr Tryz.f195 fun _ _ _ S w0 h ho => ?_
 unfold k195 at h; split at h <;> cases h; rename_i X t M; obtain ⟨o1, o2, o3⟩ := ho.e3; clear ho; generalize reMach M = m at *; subst o1; subst o2; have hx : (m.motors.map (unMotor 300)).length = m.motors.length := lmE ..
 by_cases c : t < ((m.motors.length : Nat) : Int)
 · exact rF KT195_ok [(12, tt)] (.a1 (iT (show t < ((m.motors.map (unMotor 300)).length : Int) by rw [hx]; exact c))) (V := .i6 (5 : Int)) (Ref.int (by unfold eachE; rw [if_pos c]))
 · refine gN KT195_ok [0, 1, 2, 6, 13, 14, 15] [(12, ff)] (.a1 (iF (show ¬ (t < ((m.motors.map (unMotor 300)).length : Int)) by rw [hx]; exact c))) (t := T195) (σ := slots 25 [(0, .list 13 (m.motors.map (unMotor 300))), (1, .i6 t), (2, .fnm 196 true (unMach 300 m)), (6, .i6 (0 : Int)), (13, .list 13 (m.motors.map (unMotor 300))), (14, (.i6 ((m.motors.map (unMotor 300)).length : Int))), (15, .i6 (0 : Int))]) (h := []) ?_
   rw [hx]; exact Good.weak 25 [(0, _), (2, _), (14, _), (15, _)] (by kernel_rfl) (.r (.r (.r (.r .nil)))) (loop195 (by unfold eachE; rw [if_neg c]) o3)
def footE (n : Nat) (v : FootD) : Int := if decide (0 <= v.body /\ v.body < ((n : Nat) : Int)) = false then 2 else if v.pts.length < 1 then 2 else if 2 < v.pts.length then 2 else if v.pts.length = 2 /\ (v.pts.getD 0 default).x = (v.pts.getD 1 default).x /\ (v.pts.getD 0 default).z = (v.pts.getD 1 default).z then 2 else if Int.sign v.fr.num < 0 then 2 else 0
def k198 : KF
 | [.agg [.str mn, .list 27 XB, .list 17 XS, .list 17 XT, .list 13 XD, .list 5 XF], .int .i64 i] => some (.int .i64 (footE XB.length ((XF.map reFoot).getD i.toNat default)), [0 <= i, XF = (XF.map reFoot).map (unFoot 300), i.toNat < XF.length])
 | _ => none
theorem a198 : Ctr 198 k198 := by
 refine ctr Tryz.f198 fun _ _ _ S w0 h ho => ?_
 unfold k198 at h; split at h <;> cases h; rename_i mn XB XS XT XD XF i; obtain ⟨o1000, o1, o2⟩ := ho.e3; have L := limE; have K := ((kn.cons a256).cons a253).cons a60; obtain ⟨i, rfl⟩ := Int.eq_ofNat_of_zero_le o1000; clear o1000; replace o1 : XF = (XF.map reFoot).map (unFoot 300) := o1; replace o2 : i < XF.length := o2; obtain ⟨v, hv⟩ : ∃ v, v = (XF.map reFoot).getD i default := ⟨_, rfl⟩; have hr : Ref (.cptr (XF.getD i []) 0) (.cptr (unFoot 300 v) 0) := by rw [hv]; exact Ref.cmapX o1 o2
 have hl : (v.pts.map (unP 300)).length = v.pts.length := lmE ..; have v1 : Ref (.cptr (XF.getD i []) 0) (.cptr (unFoot 300 v) 0) := by exact hr
 have v4 : (i : Int) < (XF.length : Int) := by omega
 rcases Bool.eq_false_or_eq_true (!(decide (0 <= v.body /\ v.body < ((XB.length : Nat) : Int)))) with h1 | h1
 · refine rF K [(9, .cptr (unFoot 300 v) 0), (16, tt)] (.a4 v1 (nn i) v4 (show Ref (.bool (!(decide (0 <= v.body /\ v.body < (XB.length : Int))))) (.bool true) from Ref.bool h1)) (V := .i6 (2 : Int)) (r := .i6 (footE XB.length ((XF.map reFoot).getD i default))) ?_
   rw [<- hv]; rw [hl] at *; exact Ref.int (by unfold footE; rw [if_pos (by revert h1; cases decide (0 <= v.body /\ v.body < ((XB.length : Nat) : Int)) <;> simp)])
 · have v0 : Ref (.bool (!(decide (0 <= v.body /\ v.body < (XB.length : Int))))) (.bool false) := Ref.bool h1
   by_cases h2 : (((v.pts.map (unP 300)).length : Nat) : Int) < (1 : Int)
   · refine rF K [(9, .cptr (unFoot 300 v) 0), (16, ff), (22, tt)] (.a5 v1 (nn i) v4 v0 (iT h2)) (V := .i6 (2 : Int)) (r := .i6 (footE XB.length ((XF.map reFoot).getD i default))) ?_
     rw [<- hv]; rw [hl] at *; exact Ref.int (by unfold footE; rw [if_neg (by revert h1; cases decide (0 <= v.body /\ v.body < ((XB.length : Nat) : Int)) <;> simp), if_pos (by omega)])
   · by_cases h3 : (2 : Int) < (((v.pts.map (unP 300)).length : Nat) : Int)
     · refine rF K [(9, .cptr (unFoot 300 v) 0), (16, ff), (22, ff), (28, tt)] (.a6 v1 (nn i) v4 v0 (iF h2) (iT h3)) (V := .i6 (2 : Int)) (r := .i6 (footE XB.length ((XF.map reFoot).getD i default))) ?_
       rw [<- hv]; rw [hl] at *; exact Ref.int (by unfold footE; rw [if_neg (by revert h1; cases decide (0 <= v.body /\ v.body < ((XB.length : Nat) : Int)) <;> simp), if_neg (by omega), if_pos (by omega)])
     · by_cases h4 : (((v.pts.map (unP 300)).length : Nat) : Int) = (2 : Int)
       · have v2 : Ref (.cptr ((v.pts.map (unP 300)).getD 0 []) 0) (.cptr [.q ((v.pts.getD 0 default).x) 300, .q ((v.pts.getD 0 default).z) 300] 0) := by exact Ref.cmap (f := unP 300) (by omega)
         have v3 : Ref (.cptr ((v.pts.map (unP 300)).getD 1 []) 0) (.cptr [.q ((v.pts.getD 1 default).x) 300, .q ((v.pts.getD 1 default).z) 300] 0) := by exact Ref.cmap (f := unP 300) (by omega)
         have v6 : 300 + 300 + 200 <= LIM := by omega
         have v7 : (0 : Int) < ((v.pts.map (unP 300)).length : Int) := by omega
         have v8 : (1 : Int) < ((v.pts.map (unP 300)).length : Int) := by omega
         have v9 : 0 <= (0 : Int) := by decide
         have v10 : 0 <= (1 : Int) := by decide
         rcases Bool.eq_false_or_eq_true (decide (((v.pts.getD 0 default).x) = ((v.pts.getD 1 default).x) /\ ((v.pts.getD 0 default).z) = ((v.pts.getD 1 default).z))) with h5 | h5
         · refine rF K [(9, .cptr (unFoot 300 v) 0), (16, ff), (22, ff), (28, ff), (33, tt), (36, .cptr [.q ((v.pts.getD 0 default).x) 300, .q ((v.pts.getD 0 default).z) 300] 0), (40, .cptr [.q ((v.pts.getD 1 default).x) 300, .q ((v.pts.getD 1 default).z) 300] 0), (45, tt)] (.c6 v1 (nn i) v4 v0 (iF h2) (iF h3) (.c6 (iT h4) v2 v9 v7 v3 v10 (.a4 v8 v6 v6 (show Ref (.bool (decide (((v.pts.getD 0 default).x) = ((v.pts.getD 1 default).x) /\ ((v.pts.getD 0 default).z) = ((v.pts.getD 1 default).z)))) (.bool true) from Ref.bool h5)))) (V := .i6 (2 : Int)) (r := .i6 (footE XB.length ((XF.map reFoot).getD i default))) ?_
           rw [<- hv]; rw [hl] at *; exact Ref.int (by unfold footE; rw [if_neg (by revert h1; cases decide (0 <= v.body /\ v.body < ((XB.length : Nat) : Int)) <;> simp), if_neg (by omega), if_neg (by omega), if_pos ⟨by omega, of_decide_eq_true h5⟩])
         · have v5 : Ref (.bool (decide (((v.pts.getD 0 default).x) = ((v.pts.getD 1 default).x) /\ ((v.pts.getD 0 default).z) = ((v.pts.getD 1 default).z)))) (.bool false) := Ref.bool h5
           by_cases h6 : (Int.sign v.fr.num) < (0 : Int)
           · refine rF K [(9, .cptr (unFoot 300 v) 0), (16, ff), (22, ff), (28, ff), (33, tt), (36, .cptr [.q ((v.pts.getD 0 default).x) 300, .q ((v.pts.getD 0 default).z) 300] 0), (40, .cptr [.q ((v.pts.getD 1 default).x) 300, .q ((v.pts.getD 1 default).z) 300] 0), (45, ff), (50, tt)] (.c6 v1 (nn i) v4 v0 (iF h2) (iF h3) (.c6 (iT h4) v2 v9 v7 v3 v10 (.a5 v8 v6 v6 v5 (iT h6)))) (V := .i6 (2 : Int)) (r := .i6 (footE XB.length ((XF.map reFoot).getD i default))) ?_
             rw [<- hv]; rw [hl] at *; exact Ref.int (by unfold footE; rw [if_neg (by revert h1; cases decide (0 <= v.body /\ v.body < ((XB.length : Nat) : Int)) <;> simp), if_neg (by omega), if_neg (by omega), if_neg (by intro k; have := decide_eq_true k.2; rw [this] at h5; cases h5), if_pos h6])
           · refine rF K [(9, .cptr (unFoot 300 v) 0), (16, ff), (22, ff), (28, ff), (33, tt), (36, .cptr [.q ((v.pts.getD 0 default).x) 300, .q ((v.pts.getD 0 default).z) 300] 0), (40, .cptr [.q ((v.pts.getD 1 default).x) 300, .q ((v.pts.getD 1 default).z) 300] 0), (45, ff), (50, ff)] (.c6 v1 (nn i) v4 v0 (iF h2) (iF h3) (.c6 (iT h4) v2 v9 v7 v3 v10 (.a5 v8 v6 v6 v5 (iF h6)))) (V := .i6 (0 : Int)) (r := .i6 (footE XB.length ((XF.map reFoot).getD i default))) ?_
             rw [<- hv]; rw [hl] at *; exact Ref.int (by unfold footE; rw [if_neg (by revert h1; cases decide (0 <= v.body /\ v.body < ((XB.length : Nat) : Int)) <;> simp), if_neg (by omega), if_neg (by omega), if_neg (by intro k; have := decide_eq_true k.2; rw [this] at h5; cases h5), if_neg h6])
       · by_cases h5 : (Int.sign v.fr.num) < (0 : Int)
         · refine rF K [(9, .cptr (unFoot 300 v) 0), (16, ff), (22, ff), (28, ff), (33, ff), (50, tt)] (.c6 v1 (nn i) v4 v0 (iF h2) (iF h3) (.a2 (iF h4) (iT h5))) (V := .i6 (2 : Int)) (r := .i6 (footE XB.length ((XF.map reFoot).getD i default))) ?_
           rw [<- hv]; rw [hl] at *; exact Ref.int (by unfold footE; rw [if_neg (by revert h1; cases decide (0 <= v.body /\ v.body < ((XB.length : Nat) : Int)) <;> simp), if_neg (by omega), if_neg (by omega), if_neg (by intro k; have := k.1; omega), if_pos h5])
         · refine rF K [(9, .cptr (unFoot 300 v) 0), (16, ff), (22, ff), (28, ff), (33, ff), (50, ff)] (.c6 v1 (nn i) v4 v0 (iF h2) (iF h3) (.a2 (iF h4) (iF h5))) (V := .i6 (0 : Int)) (r := .i6 (footE XB.length ((XF.map reFoot).getD i default))) ?_
           rw [<- hv]; rw [hl] at *; exact Ref.int (by unfold footE; rw [if_neg (by revert h1; cases decide (0 <= v.body /\ v.body < ((XB.length : Nat) : Int)) <;> simp), if_neg (by omega), if_neg (by omega), if_neg (by intro k; have := k.1; omega), if_neg h5])
def KT197_ok := kn.cons a198
def k197 : KF
 | [.list 5 X, .int .i64 t, .fnm 198 true M] => some (.int .i64 (eachE (reMach M).feet.length t (fun i => footE (reMach M).bodies.length ((reMach M).feet.getD i default))), [M = unMach 300 (reMach M), X = (reMach M).feet.map (unFoot 300), (reMach M).feet.length <= 4611686018427387904])
 | _ => none
section
variable {S : Nat -> Prop} {w0 : World}
theorem ret197 {R : Int} {todo : List Item} {σ : List AV} {h : List (Option ABlk)} {b : Int} (e : b = R) (hσ : σ.getD 6 .any = .i6 b) : GF 197 S w0 (.i6 R) (.code .ret :: todo) ⟨σ, h⟩ :=
 good_ret1 TT0_ok (fn := Tryz.f197) (by kernel_rfl) 6 (by kernel_rfl) rfl (by rw [hσ]; rfl) (by rw [hσ, e]; exact rr)
noncomputable abbrev T197 : List Item := [.code (nav [1, 1, 0, 1, 0, 0] (bodyOf Tryz.f197)), .inLoop (nav [1, 1, 0, 1, 0, 0] (bodyOf Tryz.f197)), .inBlock 0, .code (nav [1, 1, 1] (bodyOf Tryz.f197))]
theorem loop197 {m : MachD} {R : Int} (hR : firstE (fun i => footE m.bodies.length (m.feet.getD i default)) 0 m.feet.length = R) (hL : m.feet.length <= 4611686018427387904) :
   GF 197 S w0 (.i6 R) T197 ⟨slots 25 [(0, .list 5 (m.feet.map (unFoot 300))), (2, .fnm 198 true (unMach 300 m)), (14, .i6 ((m.feet.length : Nat) : Int)), (15, .i6 ((0 : Nat) : Int))], []⟩ := by
 refine down (G := fun i => firstE (fun i => footE m.bodies.length (m.feet.getD i default)) i (m.feet.length - i) = R -> GF 197 S w0 (.i6 R) T197 ⟨slots 25 [(0, .list 5 (m.feet.map (unFoot 300))), (2, .fnm 198 true (unMach 300 m)), (14, .i6 ((m.feet.length : Nat) : Int)), (15, .i6 ((i : Nat) : Int))], []⟩) m.feet.length ?_ ?_ hR
 · intro he
   rw [Nat.sub_self] at he; exact rF KT197_ok [(16, ff)] (.a1 (iF (om (¬ ((m.feet.length : Int) < (m.feet.length : Int)))))) (V := .i6 (0 : Int)) (Ref.int he)
 · intro i hlt ih he
   have hx : (m.feet.map (unFoot 300)).length = m.feet.length := lmE ..; rw [show m.feet.length - i = (m.feet.length - (i + 1)) + 1 by omega, firstE] at he; have v0 : Ref (.i6 (footE (m.bodies.map (unBody 300)).length (((m.feet.map (unFoot 300)).map reFoot).getD i default))) (.i6 (footE m.bodies.length (m.feet.getD i default))) := Ref.int (by rw [reFoot_un, lmE]); have v1 : (m.feet.map (unFoot 300)) = ((m.feet.map (unFoot 300)).map reFoot).map (unFoot 300) := by rw [reFoot_un]
   have v2 : i < (m.feet.map (unFoot 300)).length := by rw [lmE]; exact hlt
   have v3 : (i : Int) < (m.feet.length : Int) := by omega
   by_cases c : footE m.bodies.length (m.feet.getD i default) = 0
   · rw [if_pos c] at he
     exact gR KT197_ok none [0, 2, 6, 14, 15] [] [(16, tt), (20, .i6 (footE m.bodies.length (m.feet.getD i default))), (22, ff), (24, .i6 ((i + 1 : Nat) : Int))] (.c6 (iT v3) v0 (nn i) v1 v2 (jF c) (.a1 (wI ((i : Int) + (1 : Int)) ((i + 1 : Nat) : Int)))) (ih he)
   · rw [if_neg c] at he
     exact rF KT197_ok [(16, tt), (20, .i6 (footE m.bodies.length (m.feet.getD i default))), (22, tt)] (.a6 (iT v3) v0 (nn i) v1 v2 (jT c)) (V := .i6 (footE m.bodies.length (m.feet.getD i default))) (Ref.int he)
end
theorem a197 : Ctr 197 k197 := by
 refine ctr Tryz.f197 fun _ _ _ S w0 h ho => ?_
 unfold k197 at h; split at h <;> cases h; rename_i X t M; obtain ⟨o1, o2, o3⟩ := ho.e3; clear ho; generalize reMach M = m at *; subst o1; subst o2; have hx : (m.feet.map (unFoot 300)).length = m.feet.length := lmE ..
 by_cases c : t < ((m.feet.length : Nat) : Int)
 · exact rF KT197_ok [(12, tt)] (.a1 (iT (show t < ((m.feet.map (unFoot 300)).length : Int) by rw [hx]; exact c))) (V := .i6 (5 : Int)) (Ref.int (by unfold eachE; rw [if_pos c]))
 · refine gN KT197_ok [0, 1, 2, 6, 13, 14, 15] [(12, ff)] (.a1 (iF (show ¬ (t < ((m.feet.map (unFoot 300)).length : Int)) by rw [hx]; exact c))) (t := T197) (σ := slots 25 [(0, .list 5 (m.feet.map (unFoot 300))), (1, .i6 t), (2, .fnm 198 true (unMach 300 m)), (6, .i6 (0 : Int)), (13, .list 5 (m.feet.map (unFoot 300))), (14, (.i6 ((m.feet.map (unFoot 300)).length : Int))), (15, .i6 (0 : Int))]) (h := []) ?_
   rw [hx]; exact Good.weak 25 [(0, _), (2, _), (14, _), (15, _)] (by kernel_rfl) (.r (.r (.r (.r .nil)))) (loop197 (by unfold eachE; rw [if_neg c]) o3)
def KT103_ok := ((((((kn.cons a197).cons a195).cons a193).cons a191).cons a189).cons a188).cons a187
def MachD.small (m : MachD) : Prop := m.bodies.length <= 4611686018427387904 /\ m.springs.length <= 4611686018427387904 /\ m.tendons.length <= 4611686018427387904 /\ m.motors.length <= 4611686018427387904 /\ m.feet.length <= 4611686018427387904
def checkE (m : MachD) : Int := if isNameB m.name = false then 6 else if m.bodies.length = 0 then 2 else orE [(eachE m.bodies.length 12 (fun i => bodyE m.bodies i)), (eachE m.springs.length 8 (fun i => springE m.bodies.length (m.springs.getD i default))), (eachE m.tendons.length 8 (fun i => tendonE m.bodies.length (m.tendons.getD i default))), (eachE m.motors.length ((m.bodies.length : Nat) : Int) (fun i => motorE m.bodies.length m.motors i)), (eachE m.feet.length 6 (fun i => footE m.bodies.length (m.feet.getD i default)))]
def k103 : KF
 | [.agg M] => some (.int .i64 (checkE (reMach M)), [M = unMach 300 (reMach M), (reMach M).small])
 | _ => none
theorem a103 : Ctr 103 k103 := by
 refine ctr Tryz.f103 fun _ _ _ S w0 h ho => ?_
 unfold k103 at h; split at h <;> cases h; rename_i M; obtain ⟨o1, o2⟩ := ho.e2; clear ho; generalize reMach M = m at *; subst o1; have hb : (m.bodies.map (unBody 300)).length = m.bodies.length := lmE ..; have hM : unMach 300 m = unMach 300 (reMach (unMach 300 m)) := (congrArg (unMach 300) (reMach_un m)).symm
 have ret : ∀ {R : Int} {todo : List Item} {σ : List AV} {h : List (Option ABlk)} {b : Int}, b = R -> σ.getD 2 .any = .i6 b -> GF 103 S w0 (.i6 R) (.code .ret :: todo) ⟨σ, h⟩ := fun e hσ =>
   good_ret1 TT0_ok (fn := Tryz.f103) (by kernel_rfl) 2 (by kernel_rfl) rfl (by rw [hσ]; rfl) (by rw [hσ, e]; exact rr)
 unfold checkE; rcases Bool.eq_false_or_eq_true (!(isNameB m.name)) with c1 | c1
 · exact rF KT103_ok [(3, tt)] (.a1 (show Ref (.bool (!(isNameB m.name))) (.bool true) from Ref.bool c1)) (V := .i6 (6 : Int)) (Ref.int (by rw [if_pos (by simpa using c1)]))
 · have v0 : Ref (.bool (!(isNameB m.name))) (.bool false) := Ref.bool c1
   by_cases c2 : (((m.bodies.map (unBody 300)).length : Nat) : Int) = (0 : Int)
   · exact rF KT103_ok [(3, ff), (8, tt)] (.a2 v0 (iT c2)) (V := .i6 (2 : Int)) (Ref.int (by rw [if_neg (by simpa using c1), if_pos (by omega)]))
   · exact rF KT103_ok [(3, ff), (8, ff), (17, .i6 (eachE m.bodies.length 12 (fun i => bodyE m.bodies i))), (22, .i6 (eachE m.springs.length 8 (fun i => springE m.bodies.length (m.springs.getD i default)))), (27, .i6 (eachE m.tendons.length 8 (fun i => tendonE m.bodies.length (m.tendons.getD i default)))), (35, .i6 (eachE m.motors.length (m.bodies.length : Int) (fun i => motorE m.bodies.length m.motors i))), (40, .i6 (eachE m.feet.length 6 (fun i => footE m.bodies.length (m.feet.getD i default)))), (42, .i6 (orE [(eachE m.bodies.length 12 (fun i => bodyE m.bodies i)), (eachE m.springs.length 8 (fun i => springE m.bodies.length (m.springs.getD i default))), (eachE m.tendons.length 8 (fun i => tendonE m.bodies.length (m.tendons.getD i default))), (eachE m.motors.length (m.bodies.length : Int) (fun i => motorE m.bodies.length m.motors i)), (eachE m.feet.length 6 (fun i => footE m.bodies.length (m.feet.getD i default)))]))] (.c6 v0 (iF c2) (show Ref (.i6 (eachE (reMach (unMach 300 m)).bodies.length 12 (fun i => bodyE (reMach (unMach 300 m)).bodies i))) (.i6 (eachE m.bodies.length 12 (fun i => bodyE m.bodies i))) from Ref.int (congrArg (fun m : MachD => (eachE m.bodies.length 12 (fun i => bodyE m.bodies i))) (reMach_un m))) hM (show (m.bodies.map (unBody 300)) = (reMach (unMach 300 m)).bodies.map (unBody 300) from (congrArg (fun x : MachD => x.bodies.map (unBody 300)) (reMach_un m)).symm) (show (reMach (unMach 300 m)).bodies.length <= 4611686018427387904 from (congrArg (fun x : MachD => x.bodies.length <= 4611686018427387904) (reMach_un m)).mpr o2.1) (.c6 (show Ref (.i6 (eachE (reMach (unMach 300 m)).springs.length 8 (fun i => springE (reMach (unMach 300 m)).bodies.length ((reMach (unMach 300 m)).springs.getD i default)))) (.i6 (eachE m.springs.length 8 (fun i => springE m.bodies.length (m.springs.getD i default)))) from Ref.int (congrArg (fun m : MachD => (eachE m.springs.length 8 (fun i => springE m.bodies.length (m.springs.getD i default)))) (reMach_un m))) hM (show (m.springs.map (unCordy 300)) = (reMach (unMach 300 m)).springs.map (unCordy 300) from (congrArg (fun x : MachD => x.springs.map (unCordy 300)) (reMach_un m)).symm) (show (reMach (unMach 300 m)).springs.length <= 4611686018427387904 from (congrArg (fun x : MachD => x.springs.length <= 4611686018427387904) (reMach_un m)).mpr o2.2.1) (show Ref (.i6 (eachE (reMach (unMach 300 m)).tendons.length 8 (fun i => tendonE (reMach (unMach 300 m)).bodies.length ((reMach (unMach 300 m)).tendons.getD i default)))) (.i6 (eachE m.tendons.length 8 (fun i => tendonE m.bodies.length (m.tendons.getD i default)))) from Ref.int (congrArg (fun m : MachD => (eachE m.tendons.length 8 (fun i => tendonE m.bodies.length (m.tendons.getD i default)))) (reMach_un m))) hM (.c6 (show (m.tendons.map (unCordy 300)) = (reMach (unMach 300 m)).tendons.map (unCordy 300) from (congrArg (fun x : MachD => x.tendons.map (unCordy 300)) (reMach_un m)).symm) (show (reMach (unMach 300 m)).tendons.length <= 4611686018427387904 from (congrArg (fun x : MachD => x.tendons.length <= 4611686018427387904) (reMach_un m)).mpr o2.2.2.1) (show Ref (.i6 (eachE (reMach (unMach 300 m)).motors.length ((m.bodies.map (unBody 300)).length : Int) (fun i => motorE (reMach (unMach 300 m)).bodies.length (reMach (unMach 300 m)).motors i))) (.i6 (eachE m.motors.length (m.bodies.length : Int) (fun i => motorE m.bodies.length m.motors i))) from Ref.int (by rw [hb]; exact congrArg (fun x : MachD => eachE x.motors.length ((m.bodies.length : Nat) : Int) (fun i => motorE x.bodies.length x.motors i)) (reMach_un m))) hM (show (m.motors.map (unMotor 300)) = (reMach (unMach 300 m)).motors.map (unMotor 300) from (congrArg (fun x : MachD => x.motors.map (unMotor 300)) (reMach_un m)).symm) (show (reMach (unMach 300 m)).motors.length <= 4611686018427387904 from (congrArg (fun x : MachD => x.motors.length <= 4611686018427387904) (reMach_un m)).mpr o2.2.2.2.1) (.c6 (show Ref (.i6 (eachE (reMach (unMach 300 m)).feet.length 6 (fun i => footE (reMach (unMach 300 m)).bodies.length ((reMach (unMach 300 m)).feet.getD i default)))) (.i6 (eachE m.feet.length 6 (fun i => footE m.bodies.length (m.feet.getD i default)))) from Ref.int (congrArg (fun m : MachD => (eachE m.feet.length 6 (fun i => footE m.bodies.length (m.feet.getD i default)))) (reMach_un m))) hM (show (m.feet.map (unFoot 300)) = (reMach (unMach 300 m)).feet.map (unFoot 300) from (congrArg (fun x : MachD => x.feet.map (unFoot 300)) (reMach_un m)).symm) (show (reMach (unMach 300 m)).feet.length <= 4611686018427387904 from (congrArg (fun x : MachD => x.feet.length <= 4611686018427387904) (reMach_un m)).mpr o2.2.2.2.2) (show Ref (.i6 (orE ([[(AV.int .i64 (eachE m.bodies.length 12 (fun i => bodyE m.bodies i)))], [(AV.int .i64 (eachE m.springs.length 8 (fun i => springE m.bodies.length (m.springs.getD i default))))], [(AV.int .i64 (eachE m.tendons.length 8 (fun i => tendonE m.bodies.length (m.tendons.getD i default))))], [(AV.int .i64 (eachE m.motors.length (m.bodies.length : Int) (fun i => motorE m.bodies.length m.motors i)))], [(AV.int .i64 (eachE m.feet.length 6 (fun i => footE m.bodies.length (m.feet.getD i default))))]].map reI))) (.i6 (orE [(eachE m.bodies.length 12 (fun i => bodyE m.bodies i)), (eachE m.springs.length 8 (fun i => springE m.bodies.length (m.springs.getD i default))), (eachE m.tendons.length 8 (fun i => tendonE m.bodies.length (m.tendons.getD i default))), (eachE m.motors.length (m.bodies.length : Int) (fun i => motorE m.bodies.length m.motors i)), (eachE m.feet.length 6 (fun i => footE m.bodies.length (m.feet.getD i default)))])) from rr) (dc (0 + 5 <= 5)) (.a2 (rfl : [[.i6 (eachE m.bodies.length 12 (fun i => bodyE m.bodies i))], [.i6 (eachE m.springs.length 8 (fun i => springE m.bodies.length (m.springs.getD i default)))], [.i6 (eachE m.tendons.length 8 (fun i => tendonE m.bodies.length (m.tendons.getD i default)))], [.i6 (eachE m.motors.length (m.bodies.length : Int) (fun i => motorE m.bodies.length m.motors i))], [.i6 (eachE m.feet.length 6 (fun i => footE m.bodies.length (m.feet.getD i default)))]] = ([[(AV.int .i64 (eachE m.bodies.length 12 (fun i => bodyE m.bodies i)))], [(AV.int .i64 (eachE m.springs.length 8 (fun i => springE m.bodies.length (m.springs.getD i default))))], [(AV.int .i64 (eachE m.tendons.length 8 (fun i => tendonE m.bodies.length (m.tendons.getD i default))))], [(AV.int .i64 (eachE m.motors.length (m.bodies.length : Int) (fun i => motorE m.bodies.length m.motors i)))], [(AV.int .i64 (eachE m.feet.length 6 (fun i => footE m.bodies.length (m.feet.getD i default))))]].map reI).map unI) (show [[(AV.int .i64 (eachE m.bodies.length 12 (fun i => bodyE m.bodies i)))], [(AV.int .i64 (eachE m.springs.length 8 (fun i => springE m.bodies.length (m.springs.getD i default))))], [(AV.int .i64 (eachE m.tendons.length 8 (fun i => tendonE m.bodies.length (m.tendons.getD i default))))], [(AV.int .i64 (eachE m.motors.length (m.bodies.length : Int) (fun i => motorE m.bodies.length m.motors i)))], [(AV.int .i64 (eachE m.feet.length 6 (fun i => footE m.bodies.length (m.feet.getD i default))))]].length <= 4611686018427387904 by simp)))))) (V := .i6 (orE [(eachE m.bodies.length 12 (fun i => bodyE m.bodies i)), (eachE m.springs.length 8 (fun i => springE m.bodies.length (m.springs.getD i default))), (eachE m.tendons.length 8 (fun i => tendonE m.bodies.length (m.tendons.getD i default))), (eachE m.motors.length (m.bodies.length : Int) (fun i => motorE m.bodies.length m.motors i)), (eachE m.feet.length 6 (fun i => footE m.bodies.length (m.feet.getD i default)))])) (Ref.int (by rw [if_neg (by simpa using c1), if_neg (by omega)]))
end Go.Av
namespace Go.Av
open Go.RowKit
structure InvG (X : Nat × AOp -> Prop) (𝓡 : Array Bool -> (Nat -> Nat) -> (Nat -> Prop) -> St -> Act -> World -> Prop) (O : Rec -> Prop) (T : TT) (K : KT) (ops : Array Oper) (listed : Array Bool) (xs : List (Nat × AOp)) (rs : List Rec) (st st' : St) (a : Act) (w : World) (ρ : Nat -> Nat) (D : Nat -> Prop) : Prop where
 rel : 𝓡 listed ρ D st a w
 run : arun T K ops xs st = some (st', rs)
 obs : ∀ r ∈ rs, O r
 pend : Pend D st.h xs
 size : listed.size = ops.size
 mem : ∀ i, i < ops.size -> (listed.getD i false = false ↔ ∃ x, (i, x) ∈ xs)
 all : ∀ p ∈ xs, X p
 sorted : xs.Pairwise fun p q => p.1 < q.1
 ops_ : ∀ p ∈ xs, ops[p.1]? = some p.2.o
 closed : Closed ops listed
 pairs : rs.Pairwise fun r s => pairOK ops (befs [] ops.toList) r s = true
section
variable {P : Program} {T : TT} {K : KT} {ops : Array Oper} {Q : Exit -> Act -> World -> Prop}
theorem any_orderG {X : Nat × AOp -> Prop} {opsR : Array Oper} {𝓡 : Array Bool -> (Nat -> Nat) -> (Nat -> Prop) -> St -> Act -> World -> Prop} {O : Rec -> Prop} (hE : edgesOK 0 ops.toList = true) {st' : St}
   (hr : ∀ listed, Region.ready .any opsR listed = Region.ready .any ops listed)
   (hQ : ∀ listed ρ' D' a' w', 𝓡 listed ρ' D' st' a' w' -> (∀ i, i < ops.size -> listed.getD i false = true) -> Q .normal a' w')
   (hstep : ∀ listed i x st st1 r a w ρ D, 𝓡 listed ρ D st a w -> listed.size = ops.size -> i < ops.size -> listed.getD i false = false -> (∀ o, ops[i]? = some o -> ∀ e ∈ o.after.toList, Region.binds .any e = true -> listed.getD e.on false = true) -> ops[i]? = some x.o -> (newOp x.o.op = true -> st.h[x.nid]? = some none /\ ¬ D x.nid) -> arun1 T K ops i x st = some (st1, r) -> O r -> X (i, x) -> (∃ rest rs1, arun T K ops rest st1 = some (st', rs1) /\ ∀ p ∈ rest, p.1 ≠ i /\ listed.getD p.1 false = false /\ ops[p.1]? = some p.2.o) ->
     wpOp P opsR Q i (fun a' w' => ∃ ρ' D', 𝓡 (listed.setIfInBounds i true) ρ' D' st1 a' w' /\ ∀ l, D' l -> D l \/ l = x.nid /\ newOp x.o.op = true) a w) :
   ∀ (fuel : Nat) (listed : Array Bool) (xs : List (Nat × AOp)) (rs : List Rec) (st : St) (a : Act) (w : World) (ρ : Nat -> Nat) (D : Nat -> Prop), xs.length <= fuel ->
     InvG X 𝓡 O T K ops listed xs rs st st' a w ρ D -> wpAny P .any opsR Q fuel listed a w := by
 have done : ∀ (listed : Array Bool) (xs : List (Nat × AOp)) (rs : List Rec) (st : St) (a : Act) (w : World) (ρ : Nat -> Nat) (D : Nat -> Prop), InvG X 𝓡 O T K ops listed xs rs st st' a w ρ D ->
     (Region.ready .any ops listed = [] -> xs = []) /\ (xs = [] -> Region.ready .any ops listed = [] /\ Q .normal a w) := by
   intro listed xs rs st a w ρ D I; constructor
   · intro hr
     cases xs with
     | nil => rfl
     | cons p xs =>
       exfalso; obtain ⟨i, x⟩ := p; have ho := I.ops_ (i, x) (by simp); have hlt := (Array.getElem?_eq_some_iff.1 ho).1; have hun := (I.mem i hlt).2 ⟨x, by simp⟩
       have : i ∈ Region.ready .any ops listed := by
         rw [ready_iff]; refine ⟨hlt, by rw [getD_tf (by rw [I.size]; exact hlt)]; exact hun, x.o, ho, fun e he hb => ?_⟩; have hle := edgesOK_spec ops.toList 0 i x.o hE (by simpa using ho) e he hb; simp at hle; cases hq : listed.getD e.on false with
         | true => rfl
         | false =>
           exfalso; obtain ⟨y, hy⟩ := (I.mem e.on (by omega)).1 hq; rcases List.mem_cons.1 hy with h | h
           · injection h with h _; omega
           · have := (List.pairwise_cons.1 I.sorted).1 _ h
             simp at this; omega
       rw [hr] at this; cases this
   · intro hx
     subst hx; have hrun := I.run; simp only [arun] at hrun; injection hrun with hrun; simp only [Prod.mk.injEq] at hrun
     have hall : ∀ i, i < ops.size -> listed.getD i false = true := fun i hi => by
       cases hc : listed.getD i false with
       | true => rfl
       | false => obtain ⟨y, hy⟩ := (I.mem i hi).1 hc; simp at hy
     refine ⟨?_, hQ _ _ _ _ _ (by rw [<- hrun.1]; exact I.rel) hall⟩; cases hr : Region.ready .any ops listed with
     | nil => rfl
     | cons i l =>
       exfalso; have hi : i ∈ Region.ready .any ops listed := by rw [hr]; simp
       obtain ⟨h1, h2, _⟩ := ready_iff.1 hi; rw [getD_tf (by rw [I.size]; exact h1)] at h2; obtain ⟨x, hx⟩ := (I.mem i h1).1 h2; simp at hx
 intro fuel
 induction fuel with
 | zero =>
   intro listed xs rs st a w ρ D hl I
   have := ((done _ _ _ _ _ _ _ _ I).2 (by cases xs with | nil => rfl | cons _ _ => simp at hl)); exact ⟨by rw [hr]; exact this.1, this.2⟩
 | succ fuel ih =>
   intro listed xs rs st a w ρ D hl I; refine ⟨fun hr' => ((done _ _ _ _ _ _ _ _ I).2 ((done _ _ _ _ _ _ _ _ I).1 (by rw [<- hr]; exact hr'))).2, fun i hi => ?_⟩; rw [hr] at hi; obtain ⟨hlt, hun, o, ho, hed⟩ := ready_iff.1 hi; rw [getD_tf (by rw [I.size]; exact hlt)] at hun; obtain ⟨x, hx⟩ := (I.mem i hlt).1 hun; obtain ⟨pre, post, rfl⟩ := List.append_of_mem hx
   have hox : x.o = o := by
     have := I.ops_ (i, x) hx; rw [ho] at this; injection this with this; exact this.symm
   obtain ⟨rp, r, rq, hrs, hlen, hfront⟩ := front pre i x post st st' rs I.run; have hidx := arun_idx I.run; rw [hrs] at hidx; simp only [List.map_append, List.map_cons] at hidx; have hsplit := List.append_inj hidx (by simp [hlen]); have hri : r.i = i := by have := hsplit.2; simp at this; exact this.1
   have hpairs := I.pairs; rw [hrs] at hpairs
   have hind : ∀ q ∈ rp, indep ops q r = true := by
     intro q hq; have hp := (List.pairwise_append.1 hpairs).2.2 q hq r (by simp); unfold pairOK at hp; rw [Bool.or_eq_true] at hp; rcases hp with hp | hp
     · exfalso
       rw [hri] at hp; have hqi : q.i ∈ pre.map (·.1) := by rw [<- hsplit.1]; exact List.mem_map.2 ⟨q, hq, rfl⟩
       obtain ⟨p, hp1, hp2⟩ := List.mem_map.1 hqi; have hpo := I.ops_ p (by simp [hp1]); have hplt := (Array.getElem?_eq_some_iff.1 hpo).1; have hqun := (I.mem p.1 hplt).2 ⟨p.2, by simp [hp1]⟩; obtain ⟨e, h1, h2, h3, h4⟩ := befs_spec ops.toList [] i o (by simpa using ho) hE q.i (by simpa using hp); have hel := hed e h1 h2
       have hql : listed.getD q.i false = true := by
         rcases h4 with h4 | h4
         · rw [<- h4]; exact hel
         · simp at h3
           exact closed_bef hE I.closed e.on hel ops[e.on] (by simp [show e.on < ops.size from by omega]) q.i h4
       rw [hp2] at hqun; rw [hqun] at hql; cases hql
     · exact hp
   have hrun2 := hfront hind; obtain ⟨st1, r', rs1, g1, g2, g3⟩ := arun_cons.1 hrun2; injection g3 with g3 g4; subst g3; subst g4
   have hmemx : ∀ p, p ∈ pre ++ post -> p ∈ pre ++ (i, x) :: post := fun p hp => by
     rcases List.mem_append.1 hp with h | h
     · simp [h]
     · simp [h]
   have hpend2 : Pend D st.h ((i, x) :: (pre ++ post)) := by
     refine ⟨fun p hp => I.pend.free p ?_, ?_⟩
     · rcases List.mem_cons.1 hp with rfl | hp
       · exact hx
       · exact hmemx p hp
     · have hap := I.pend.apart
       rw [List.pairwise_append] at hap; obtain ⟨k1, k2, k3⟩ := hap; rw [List.pairwise_cons] at k2; refine List.pairwise_cons.2 ⟨fun q hq hx hn => ?_, List.pairwise_append.2 ⟨k1, k2.2, fun p hp q hq => k3 p hp q (by simp [hq])⟩⟩; rcases List.mem_append.1 hq with h | h
       · exact fun e => k3 q h (i, x) (by simp) hn hx e.symm
       · exact k2.1 q h hx hn
   have hneq : ∀ p, p ∈ pre ++ post -> p.1 ≠ i := by
     intro p hp e; have hs := I.sorted; rw [List.pairwise_append, List.pairwise_cons] at hs; rcases List.mem_append.1 hp with h | h
     · have := hs.2.2 p h (i, x) (by simp)
       simp at this; omega
     · have := hs.2.1.1 p h
       simp at this; omega
   refine wpOp_mono ?_ (hstep listed i x st st1 r a w ρ D I.rel I.size hlt hun (fun o' ho' => by rw [ho] at ho'; injection ho' with ho'; subst ho'; exact hed) (I.ops_ (i, x) hx) (hpend2.free (i, x) (by simp)) g1 (I.obs r (by rw [hrs]; simp)) (I.all (i, x) hx) ⟨pre ++ post, rp ++ rq, g2, fun p hp => ⟨hneq p hp, (I.mem p.1 (Array.getElem?_eq_some_iff.1 (I.ops_ p (hmemx p hp))).1).2 ⟨p.2, hmemx p hp⟩, I.ops_ p (hmemx p hp)⟩⟩); rintro a' w' ⟨ρ', D', R', hD'⟩; refine ih (listed.setIfInBounds i true) (pre ++ post) (rp ++ rq) st1 a' w' ρ' D' (by simp at hl ⊢; omega) ?_
   exact {
     rel := R'
     run := g2
     obs := fun q hq => I.obs q (by rw [hrs]; rcases List.mem_append.1 hq with h | h <;> simp [h])
     pend := hpend2.tail g1 hD'
     size := by simpa using I.size
     mem := by
       intro k hk
       by_cases hki : i = k
       · subst hki
         constructor
         · intro h
           simp [getD_setA, I.size, hlt] at h
         · rintro ⟨y, hy⟩
           exact absurd rfl (hneq (i, y) hy)
       · have e1 : (listed.setIfInBounds i true).getD k false = listed.getD k false := by
           simp [getD_setA, hki]
         rw [e1, I.mem k hk]; constructor
         · rintro ⟨y, hy⟩
           refine ⟨y, ?_⟩; rcases List.mem_append.1 hy with h | h
           · simp [h]
           · rcases List.mem_cons.1 h with h | h
             · injection h with h _; exact absurd h.symm hki
             · simp [h]
         · rintro ⟨y, hy⟩
           exact ⟨y, hmemx _ hy⟩
     sorted := by
       have hs := I.sorted; rw [List.pairwise_append, List.pairwise_cons] at hs; exact List.pairwise_append.2 ⟨hs.1, hs.2.1.2, fun p hp q hq => hs.2.2 p hp q (by simp [hq])⟩
     ops_ := fun p hp => I.ops_ p (hmemx p hp)
     all := fun p hp => I.all p (hmemx p hp)
     closed := by
       intro k ok hk hl2 e he hb
       by_cases hki : i = k
       · subst hki
         rw [ho] at hk; injection hk with hk; subst hk
         have := hed e he hb
         by_cases h : i = e.on
         · subst h; simp [getD_setA, I.size, hlt]
         · simpa [getD_setA, h] using this
       · have e1 : (listed.setIfInBounds i true).getD k false = listed.getD k false := by
           simp [getD_setA, hki]
         rw [e1] at hl2
         have := I.closed k ok hk hl2 e he hb
         by_cases h : i = e.on
         · subst h; simp [getD_setA, I.size, hlt]
         · simpa [getD_setA, h] using this
     pairs := by
       rw [List.pairwise_append, List.pairwise_cons] at hpairs
       exact List.pairwise_append.2 ⟨hpairs.1, hpairs.2.1.2, fun p hp q hq => hpairs.2.2 p hp q (by simp [hq])⟩ }
theorem arun_seqG {X : Nat × AOp -> Prop} {opsR : Array Oper} {𝓡 : Array Bool -> (Nat -> Nat) -> (Nat -> Prop) -> St -> Act -> World -> Prop} {O : Rec -> Prop} (hE : edgesOK 0 ops.toList = true) {st' : St}
   (hQ : ∀ listed ρ' D' a' w', 𝓡 listed ρ' D' st' a' w' -> (∀ i, i < ops.size -> listed.getD i false = true) -> Q .normal a' w')
   (hstep : ∀ listed i x st st1 r a w ρ D, 𝓡 listed ρ D st a w -> listed.size = ops.size -> i < ops.size -> listed.getD i false = false -> (∀ o, ops[i]? = some o -> ∀ e ∈ o.after.toList, Region.binds .any e = true -> listed.getD e.on false = true) -> ops[i]? = some x.o -> (newOp x.o.op = true -> st.h[x.nid]? = some none /\ ¬ D x.nid) -> arun1 T K ops i x st = some (st1, r) -> O r -> X (i, x) -> (∃ rest rs1, arun T K ops rest st1 = some (st', rs1) /\ ∀ p ∈ rest, p.1 ≠ i /\ listed.getD p.1 false = false /\ ops[p.1]? = some p.2.o) ->
     wpOp P opsR Q i (fun a' w' => ∃ ρ' D', 𝓡 (listed.setIfInBounds i true) ρ' D' st1 a' w' /\ ∀ l, D' l -> D l \/ l = x.nid /\ newOp x.o.op = true) a w) :
   ∀ (xs : List (Nat × AOp)) (k : Nat) (listed : Array Bool) (ρ : Nat -> Nat) (D : Nat -> Prop) (st : St) (a : Act) (w : World) (rs : List Rec), listed.size = ops.size -> (∀ i, i < ops.size -> (listed.getD i false = true ↔ i < k)) ->
     xs.map (·.1) = List.range' k xs.length -> k + xs.length = ops.size -> 𝓡 listed ρ D st a w -> arun T K ops xs st = some (st', rs) -> (∀ r ∈ rs, O r) -> Pend D st.h xs -> (∀ p ∈ xs, ops[p.1]? = some p.2.o) -> (∀ p ∈ xs, X p) -> wpOps P opsR Q (xs.map (·.1)) a w
 | [], k, listed, ρ, D, st, a, w, rs, hsz, hl, _, hk, R, he, _, _, _, _ => by
   simp only [arun] at he; injection he with he; simp only [Prod.mk.injEq] at he; obtain ⟨rfl, rfl⟩ := he; exact hQ _ _ _ _ _ R fun i hi => (hl i hi).2 (by simp at hk; omega)
 | (i, x) :: xs, k, listed, ρ, D, st, a, w, rs, hsz, hl, hidx, hk, R, he, hob, hp, ho, hX => by
   obtain ⟨st1, r, rs1, h1, h2, rfl⟩ := arun_cons.1 he; simp only [List.map_cons, List.length_cons, List.range'_succ, List.cons.injEq] at hidx; obtain ⟨rfl, hidx⟩ := hidx; simp only [List.length_cons] at hk; simp only [List.map_cons]; rw [wpOps_cons]; have hlt : i < ops.size := by omega
   have hun : listed.getD i false = false := by
     cases hc : listed.getD i false with
     | false => rfl
     | true => exact absurd ((hl i hlt).1 hc) (Nat.lt_irrefl i)
   have hox := ho (i, x) (by simp)
   have hin : ∀ p ∈ xs, i < p.1 := fun p hp' => by
     have : p.1 ∈ List.range' (i + 1) xs.length := by rw [<- hidx]; exact List.mem_map.2 ⟨p, hp', rfl⟩
     have := List.mem_range'_1.1 this; omega
   refine wpOp_mono ?_ (hstep listed i x st st1 r a w ρ D R hsz hlt hun (fun o ho' e he' hb => by
     have := edgesOK_spec ops.toList 0 i o hE (by simpa using ho') e he' hb; simp at this
     exact (hl e.on (by omega)).2 this) hox (hp.free (i, x) (by simp)) h1 (hob r (by simp)) (hX _ (by simp))
     ⟨xs, rs1, h2, fun p hp' => ⟨by have := hin p hp'; omega, by
       have hplt := (Array.getElem?_eq_some_iff.1 (ho p (by simp [hp']))).1; cases hc : listed.getD p.1 false with
       | false => rfl
       | true => exact absurd ((hl p.1 hplt).1 hc) (by have := hin p hp'; omega), ho p (by simp [hp'])⟩⟩)
   rintro a' w' ⟨ρ', D', R', hD'⟩; refine arun_seqG hE hQ hstep xs (i + 1) (listed.setIfInBounds i true) ρ' D' st1 a' w' rs1 (by simpa using hsz) ?_ hidx (by omega) R' h2 (fun r hr => hob r (by simp [hr])) (hp.tail h1 hD') (fun p hp => ho p (by simp [hp])) (fun p hp => hX p (by simp [hp])); intro j hj; rw [getD_setA]
   by_cases e : i = j
   · subst e; simp [hsz, hlt]
   · rw [if_neg (fun h => e h.1), hl j hj]; omega
def aregionG (T : TT) (K : KT) (ops : Array Oper) (draw : Bool) (ov : Ovs) (st : St) : Option (St × List Rec) :=
 match arun T K ops (annot 0 ops.toList ov st.h.length) ⟨st.σ, st.h ++ List.replicate (news ops.toList) none⟩ with
 | some (st', rs) => if edgesOK 0 ops.toList && (!draw || pairsOK ops (befs [] ops.toList) rs) then some (st', rs) else none
 | none => none
def sameShape : List Oper -> List Oper -> Prop
 | [], [] => True
 | o :: os, o' :: os' => o'.dst = o.dst /\ o'.guard = o.guard /\ o'.after = o.after /\ sameShape os os'
 | _, _ => False
theorem sameShape_get : ∀ {os os' : List Oper}, sameShape os os' -> os'.length = os.length /\ ∀ i : Nat, (os[i]? = none /\ os'[i]? = none) \/ ∃ (o o' : Oper), os[i]? = some o /\ os'[i]? = some o' /\ o'.dst = o.dst /\ o'.guard = o.guard /\ o'.after = o.after
 | [], [], _ => ⟨rfl, fun i => .inl ⟨rfl, rfl⟩⟩
 | o :: os, o' :: os', h => by
   obtain ⟨h1, h2, h3, h4⟩ := h; obtain ⟨k1, k2⟩ := sameShape_get h4; refine ⟨by simp [k1], fun i => ?_⟩; cases i with
   | zero => exact .inr ⟨o, o', rfl, rfl, h1, h2, h3⟩
   | succ i => simpa using k2 i
 | [], _ :: _, h => h.elim
 | _ :: _, [], h => h.elim
theorem shape_ready {opsR ops : Array Oper} (h : sameShape opsR.toList ops.toList) (listed : Array Bool) : Region.ready .any opsR listed = Region.ready .any ops listed := by
 obtain ⟨h1, h2⟩ := sameShape_get h; unfold Region.ready; have hs : ops.size = opsR.size := by simpa using h1
 rw [hs]; refine List.filter_congr fun i _ => ?_
 congr 1
 rcases h2 i with ⟨k1, k2⟩ | ⟨o, o', k1, k2, _, _, k3⟩
 · rw [Array.getElem?_toList] at k1 k2; rw [k1, k2]
 · rw [Array.getElem?_toList] at k1 k2; rw [k1, k2]; simp [k3]
theorem shape_op (h : sameShape opsR.toList ops.toList) (hi : opsR[i]? = ops[i]?) (hw : wpOp P ops Q i J a w) : wpOp P opsR Q i J a w := by
 obtain ⟨h1, h2⟩ := sameShape_get h
 have hy : ∀ tmps, yielded opsR tmps = yielded ops tmps := by
   intro tmps; funext j; unfold yielded
   have : (opsR[j]?).bind (·.dst) = (ops[j]?).bind (·.dst) := by
     rcases h2 j with ⟨k1, k2⟩ | ⟨o, o', k1, k2, k3, _, _⟩
     · rw [Array.getElem?_toList] at k1 k2; rw [k1, k2]
     · rw [Array.getElem?_toList] at k1 k2; rw [k1, k2]; simp [k3]
   rw [this]
 unfold wpOp at hw ⊢; rw [hi, hy]; exact hw
theorem regionG (hm : P.follows .mixedOrders = true) {X : Nat × AOp -> Prop} {id : Nat} {opsR : Array Oper} {draw : Bool} {ov : Ovs} {st st' : St} {rs : List Rec} {𝓡 : Array Bool -> (Nat -> Nat) -> (Nat -> Prop) -> St -> Act -> World -> Prop} {O : Rec -> Prop} {ρ : Nat -> Nat} {D : Nat -> Prop} {a : Act} {w : World}
   (he : aregionG T K ops draw ov st = some (st', rs)) (hO : ∀ r ∈ rs, O r) (hsh : sameShape opsR.toList ops.toList) (hX : ∀ p ∈ annot 0 ops.toList ov st.h.length, X p) (hD : ∀ l, D l -> l < st.h.length)
   (R0 : ∀ w', (w' = w \/ w' = { w with drawn := w.drawn + 1 }) -> 𝓡 (Array.replicate ops.size false) ρ D ⟨st.σ, st.h ++ List.replicate (news ops.toList) none⟩ a w')
   (hQ : ∀ listed ρ' D' a' w', 𝓡 listed ρ' D' st' a' w' -> (∀ i, i < ops.size -> listed.getD i false = true) -> Q .normal a' w')
   (hstep : ∀ listed i x st st1 r a w ρ D, 𝓡 listed ρ D st a w -> listed.size = ops.size -> i < ops.size -> listed.getD i false = false -> (∀ o, ops[i]? = some o -> ∀ e ∈ o.after.toList, Region.binds .any e = true -> listed.getD e.on false = true) -> ops[i]? = some x.o -> (newOp x.o.op = true -> st.h[x.nid]? = some none /\ ¬ D x.nid) -> arun1 T K ops i x st = some (st1, r) -> O r -> X (i, x) -> (∃ rest rs1, arun T K ops rest st1 = some (st', rs1) /\ ∀ p ∈ rest, p.1 ≠ i /\ listed.getD p.1 false = false /\ ops[p.1]? = some p.2.o) ->
     wpOp P opsR Q i (fun a' w' => ∃ ρ' D', 𝓡 (listed.setIfInBounds i true) ρ' D' st1 a' w' /\ ∀ l, D' l -> D l \/ l = x.nid /\ newOp x.o.op = true) a w) :
   (Code.region id opsR draw).wp P Q a w := by
 unfold aregionG at he
 split at he
 · rename_i st2 rs2 hrun
   split at he
   · rename_i hc
     injection he with he; simp only [Prod.mk.injEq] at he; obtain ⟨rfl, rfl⟩ := he; rw [Bool.and_eq_true] at hc; obtain ⟨hnid, hap⟩ := annot_nid ops.toList 0 ov st.h.length
     have hpend : Pend D (st.h ++ List.replicate (news ops.toList) none) (annot 0 ops.toList ov st.h.length) := by
       refine ⟨fun p hp hn => ?_, hap⟩; obtain ⟨h1, h2⟩ := hnid p hp hn; refine ⟨?_, fun h => ?_⟩
       · rw [List.getElem?_append_right h1, List.getElem?_replicate, if_pos (by omega)]
       · have := hD _ h; omega
     have hops : ∀ p ∈ annot 0 ops.toList ov st.h.length, ops[p.1]? = some p.2.o := by
       intro p hp; obtain ⟨k, h1, h2⟩ := annot_mem _ _ _ _ p hp; rw [h1, Nat.zero_add]; simpa using h2
     have hsz : opsR.size = ops.size := by have := (sameShape_get hsh).1; simpa using this.symm
     cases draw with
     | false =>
       refine wp_region ?_
       have := arun_seqG (P := P) (Q := Q) (opsR := opsR) hc.1 hQ hstep (annot 0 ops.toList ov st.h.length) 0 (Array.replicate ops.size false) ρ D ⟨st.σ, st.h ++ List.replicate (news ops.toList) none⟩ a w rs2 (by simp) (fun i hi => by simp [Array.getD, hi])
         (by rw [annot_fst, annot_length]) (by rw [annot_length]; simp) (R0 w (.inl rfl)) hrun hO hpend hops hX
       rw [annot_fst] at this; rw [hsz, List.range_eq_range']; simpa using this
     | true =>
       refine wp_region_any hm ?_; have hp : pairsOK ops (befs [] ops.toList) rs2 = true := by simpa using hc.2
       rw [hsz]; refine any_orderG (P := P) (X := X) hc.1 (shape_ready hsh) hQ hstep ops.size _ (annot 0 ops.toList ov st.h.length) rs2 ⟨st.σ, st.h ++ List.replicate (news ops.toList) none⟩ a _ ρ D (by rw [annot_length]; simp) ?_
       exact {
         rel := R0 _ (.inr rfl)
         run := hrun
         obs := hO
         pend := hpend
         size := by simp
         mem := fun i hi => ⟨fun _ => by have := annot_all ops.toList 0 ov st.h.length i (by simpa using hi); simpa using this, fun _ => by simp [Array.getD, hi]⟩
         all := hX
         sorted := annot_sorted _ _ _ _
         ops_ := hops
         closed := fun k o hk hl => by
           have := (Array.getElem?_eq_some_iff.1 hk).1; simp [Array.getD, this] at hl
         pairs := pairsOK_spec hp }
   · cases he
 · cases he
end
structure Base where
 S : Nat -> Prop
 C : Nat -> Prop
 w : World
section
variable {P : Program} {T : TT} {K : KT} {ops : Array Oper} {f : FuncId} {S0 C0 : Nat -> Prop} {w0 : World} {Post : Value -> World -> Prop}
theorem arun1_put (h : arun1 T K ops i x st = some (st1, r)) : ∃ V, st1.σ = put st.σ x.o.dst V := by
 unfold arun1 at h
 split at h
 · split at h
   · injection h with h; simp only [Prod.mk.injEq] at h; exact ⟨_, by rw [<- h.1]⟩
   · cases h
 · injection h with h; simp only [Prod.mk.injEq] at h; exact ⟨_, by rw [<- h.1]⟩
 · cases h
theorem arun_keep : ∀ {xs : List (Nat × AOp)} {st st' : St} {rs : List Rec} {t : Nat}, arun T K ops xs st = some (st', rs) -> (∀ p ∈ xs, p.2.o.dst ≠ some t) -> st'.σ.getD t .any = st.σ.getD t .any
 | [], st, st', rs, t, h, _ => by simp only [arun] at h; injection h with h; simp only [Prod.mk.injEq] at h; rw [h.1]
 | (i, x) :: xs, st, st', rs, t, h, hx => by
   obtain ⟨st1, r, rs1, h1, h2, rfl⟩ := arun_cons.1 h; rw [arun_keep h2 (fun p hp => hx p (by simp [hp]))]; obtain ⟨V, hV⟩ := arun1_put h1; rw [hV, put_get (hx (i, x) (by simp))]
theorem Good.regionX (hm : P.follows .mixedOrders = true) (hT : TOK P T) (hK : KOK P K) {id : Nat} {opsR : Array Oper} {draw : Bool} {ov : Ovs} {st st' : St} {rs : List Rec} {todo : List Item} (iX : Nat) {oX : Oper} {V : AV} {B B' : Base -> Prop} {args : List (Nat × AV)}
   (he : aregionG T K ops draw ov st = some (st', rs)) (hO : ∀ r ∈ rs, r.i ≠ iX -> AllP r.ob) (hsh : sameShape opsR.toList ops.toList) (hne : ∀ i, i ≠ iX -> opsR[i]? = ops[i]?)
   (hoX : opsR[iX]? = some oX) (hg : oX.guard = none) (hop : ops[iX]? = some { oX with op := .move (.const undef) }) (hV : ∀ x, (iX, x) ∈ annot 0 ops.toList ov st.h.length -> x.ov = some V \/ oX.dst = none)
   (hargs : ∀ p ∈ args, st'.σ.getD p.1 .any = p.2 /\ ∀ (j : Nat) (o : Oper), ops[j]? = some o -> o.dst = some p.1 -> ∃ e ∈ oX.after.toList, e.on = j /\ Region.binds .any e = true)
   (hX : ∀ (Q : Exit -> Act -> World -> Prop) β ρ D σ h a w, B β -> Rel β.S β.C β.w ρ D ⟨σ, h⟩ a w -> (∀ p ∈ args, σ.getD p.1 .any = p.2) -> wpOp P opsR Q iX (fun a' w' => ∃ β', B' β' /\ Rel β'.S β'.C β'.w ρ D ⟨put σ oX.dst V, h⟩ a' w') a w)
   (hB : B ⟨S0, C0, w0⟩) (hgood : ∀ β, B' β -> Good P f β.S β.C β.w Post todo st') : Good P f S0 C0 w0 Post (.code (.region id opsR draw) :: todo) st := by
 intro ρ D a w R b cs hb hk
 have key : (Code.region id opsR draw).wp P (fun e a' w' => e = Exit.normal /\ ∃ β ρ' D', B' β /\ Rel β.S β.C β.w ρ' D' st' a' w') a w := by
   have hXin : ops[iX]? ≠ none := by rw [hop]; simp
   have hXlt : iX < ops.size := by
     rcases Nat.lt_or_ge iX ops.size with h | h
     · exact h
     · exact absurd (Array.getElem?_eq_none h) hXin
   refine regionG (ρ := ρ) hm (X := fun p => p ∈ annot 0 ops.toList ov st.h.length) (𝓡 := fun listed ρ D st a w => ∃ β : Base, (if listed.getD iX false = true then B' β else B β) /\ Rel β.S β.C β.w ρ D st a w) (O := fun r => r.i ≠ iX -> AllP r.ob) (T := T) (K := K) (ops := ops)
     he hO hsh (fun p hp => hp) R.dlt ?_ ?_ ?_
   · intro w' hw'
     refine ⟨⟨S0, C0, w0⟩, ?_, ?_⟩
     · rw [if_neg (by simp [Array.getD, hXlt])]; exact hB
     · rcases hw' with rfl | rfl
       · exact R.more _
       · exact (R.more _).draw
   · intro listed ρ' D' a' w' h hall
     obtain ⟨β, h1, h2⟩ := h; rw [if_pos (hall iX hXlt)] at h1; exact ⟨rfl, β, ρ', D', h1, h2⟩
   · intro listed i x st2 st1 r a2 w2 ρ2 D2 h hsz hi hun hed hox hfresh h1 hOr hxin hrest
     obtain ⟨β, hβ, R2⟩ := h
     by_cases hiX : i = iX
     · subst hiX
       rw [if_neg (by rw [hun]; simp)] at hβ; have hxo : x.o = { oX with op := .move (.const undef) } := by rw [hop] at hox; injection hox with hox; exact hox.symm
       have hst1 : st1 = ⟨put st2.σ oX.dst V, st2.h⟩ := by
         have hov := hV x hxin; unfold arun1 awant outOf opArgs at h1; rw [hxo] at h1; simp only [hg, Op.operands, List.map_cons, List.map_nil, aev, val] at h1; injection h1 with h1; simp only [Prod.mk.injEq] at h1; rw [<- h1.1]; rcases hov with hov | hov
         · simp only [hov, withOv]; rfl
         · simp only [hov]; rfl
       obtain ⟨rest, rs1, hr1, hr2⟩ := hrest
       have hA : ∀ p ∈ args, st2.σ.getD p.1 .any = p.2 := by
         intro p hp; obtain ⟨g1, g2⟩ := hargs p hp
         have hnot : ∀ (j : Nat) (o : Oper), ops[j]? = some o -> o.dst = some p.1 -> listed.getD j false = true := by
           intro j o hj hd; obtain ⟨e, e1, e2, e3⟩ := g2 j o hj hd
           have := hed _ hop e e1 e3
           rwa [e2] at this
         have k1 : st'.σ.getD p.1 .any = st1.σ.getD p.1 .any := arun_keep hr1 fun q hq hd => by
           obtain ⟨q1, q2, q3⟩ := hr2 q hq
           have := hnot q.1 q.2.o q3 hd; rw [q2] at this; cases this
         have k2 : oX.dst ≠ some p.1 := fun hd => by
           have := hnot i _ hop hd; rw [hun] at this; cases this
         rw [<- g1, k1, hst1]; exact (put_get k2).symm
       refine wpOp_mono ?_ (hX _ β ρ2 D2 st2.σ st2.h a2 w2 hβ R2 hA); rintro a' w' ⟨β', b1, b2⟩; refine ⟨ρ2, D2, ⟨β', ?_, by rw [hst1]; exact b2⟩, fun l hl => .inl hl⟩; rw [if_pos (by simp [getD_setA, hsz, hi])]; exact b1
     · refine shape_op hsh (hne i hiX) (wpOp_mono ?_ (arun1_ok hT hK R2 hox hfresh h1 (hOr ?_)))
       · rintro a' w' ⟨ρ', D', R', hD'⟩
         refine ⟨ρ', D', ⟨β, ?_, R'⟩, hD'⟩; have : (listed.setIfInBounds i true).getD iX false = listed.getD iX false := by simp [getD_setA, hiX]
         rw [this]; exact hβ
       · have : r.i = i := by
           unfold arun1 at h1
           split at h1
           · split at h1
             · injection h1 with h1; simp only [Prod.mk.injEq] at h1; rw [<- h1.2]
             · cases h1
           · injection h1 with h1; simp only [Prod.mk.injEq] at h1; rw [<- h1.2]
           · cases h1
         rw [this]; exact hiX
 obtain ⟨e, a', w', ⟨rfl, β, ρ', D', hβ, R'⟩, harr⟩ := key b _ cs; obtain ⟨v, w2, fr, h1, h2, h3⟩ := hgood β hβ ρ' D' a' w' R' b cs hb hk; exact ⟨v, w2, fr, h1, Steps.trans harr h2, h3⟩
end
end Go.Av
namespace Go.Av
open Go.RowKit Go.MapKept
def isCap : AV -> Bool
 | .agg _ | .tup _ => false
 | c => wd c == 1
section
variable {P : Program} {S0 C0 : Nat -> Prop} {w0 w : World} {ρ : Nat -> Nat} {D : Nat -> Prop} {σ : List AV} {h : List (Option ABlk)} {a : Act}
theorem wpOp_call {opsR : Array Oper} {Q : Exit -> Act -> World -> Prop} {iX : Nat} {oX : Oper} {c : Call} {g : Operand} {f : FuncId} {caps : List AV} (R : Rel S0 C0 w0 ρ D ⟨σ, h⟩ a w) (hoX : opsR[iX]? = some oX) (hg : oX.guard = none)
   (hop : oX.op = .call c) (hc : c.callee = .value g) (hgv : aval σ g = .fn f caps) (hn : ((c.args.toList.map (aval σ)).all noRefV && caps.all noRefV && caps.all isCap) = true) (hb : HasBody P f) {J : Value -> World -> Prop}
   (hcall : ∀ vals, RelVs ρ0 (Sof S0 ρ h) w No (c.args.toList.map (aval σ) ++ caps) vals -> Calls P f vals.toArray w fun e w' => ∃ v, e = .returned v /\ J v w') :
   wpOp P opsR Q iX (fun a' w' => ∃ v, J v w' /\ a' = a.put oX.dst v) a w := by
 unfold wpOp; rw [hoX]; simp only [Region.wanted, hg, if_true]; refine .inl ?_; rw [Bool.and_eq_true, Bool.and_eq_true] at hn; obtain ⟨⟨hn1, hn2⟩, hones⟩ := hn; have hgR := R.eval g; simp only [hgv] at hgR; have h' : RelCs ρ (Sof S0 ρ h) w D [.fn f caps] [a.eval g] := hgR
 have hv : ∃ cvs : List Value, a.eval g = .func (.func f) #[] cvs.toArray /\ RelCs ρ (Sof S0 ρ h) w D caps cvs := by
   generalize a.eval g = v at h'; cases h' with
   | fn h _ => exact ⟨_, rfl, h⟩
 obtain ⟨cvs, hv, hcv⟩ := hv
 have hcaps : ∀ (caps : List AV) (cvs : List Value), caps.all noRefV = true -> caps.all isCap = true -> RelCs ρ (Sof S0 ρ h) w D caps cvs -> RelVs ρ0 (Sof S0 ρ h) w No caps cvs := by
   intro caps
   induction caps with
   | nil => intro cvs _ _ hcv; cases hcv; trivial
   | cons c cs ih =>
     intro cvs hn2 hones hcv; simp only [List.all_cons, Bool.and_eq_true] at hn2 hones; obtain ⟨g1, g2⟩ := hcv.cut1
     have hw : wd c = 1 := by
       have := hones.1; cases c <;> simp_all [isCap, wd]
     rw [hw] at g1 g2
     match cvs, g1, g2 with
     | [], g1, _ => exact absurd g1.wds_eq (by simp [wds, hw])
     | v :: vs, g1, g2 => exact ⟨RelV0.noRef (RelV_one g1) hn2.1 ρ0, ih vs hn2.2 hones.2 g2⟩
 have hmap : c.args.map a.eval = (c.args.toList.map a.eval).toArray := by apply Array.ext'; simp
 have hrun : (execOp a.eval oX).run P w = .ok (.enter f (c.args.toList.map a.eval ++ cvs).toArray) w := by
   rw [execOp, hop]; simp only [resolve, hc, hv, Deferred.ofValue, Sem.run_bind, Sem.run_pure, Result.andThen_ok, invoke]; rw [enter_run hb]
   congr 2
   rw [hmap]; simp
 unfold Oper.wp; rw [hrun, Oper.upon_enter]; refine (hcall _ ((vs_noRef R _ hn1).app (hcaps _ _ hn2 hones hcv))).mono ?_; rintro e w' ⟨v, rfl, hJ⟩; exact ⟨v, hJ, rfl⟩
theorem wpOp_run (hoX : opsR[iX]? = some oX) (hg : oX.guard = none) (hrun : (execOp a.eval oX).run P w = .ok (.value v) w') (hJ : J (a.put oX.dst v) w') :
   wpOp P opsR Q iX J a w := by
 unfold wpOp; rw [hoX]; simp only [Region.wanted, hg, if_true]; refine .inl ?_; unfold Oper.wp; rw [hrun]; exact hJ
theorem wpOp_skip (hoX : opsR[iX]? = some oX) (hg : oX.guard = none) (hrun : (execOp a.eval oX).run P w = .ok .skip w') (hJ : J (a.put oX.dst undef) w') :
   wpOp P opsR Q iX J a w := by
 unfold wpOp; rw [hoX]; simp only [Region.wanted, hg, if_true]; refine .inl ?_; unfold Oper.wp; rw [hrun]; exact hJ
theorem Chg.mono (h : Chg X w w') (k : ∀ i, X i -> Y i) : Chg Y w w' := ⟨h.os, h.tape, h.output, h.size, fun i hi hn => h.block i hi fun hx => hn (k i hx), h.row⟩
def ownC (ρ : Nat -> Nat) (h : List (Option ABlk)) : Nat -> Prop := fun k => ∃ l b, h[l]? = some (some b) /\ ρ l = k
theorem Rel.rebase (R : Rel S0 C0 w0 ρ D st a w) (hC : ∀ k, ownC ρ st.h k -> C1 k) : Rel S0 C1 w ρ D st a w :=
 { R with
   chg := Chg.refl _ _
   mine := fun l b hb => ⟨.inl (hC _ ⟨l, b, hb, rfl⟩), (R.mine l b hb).2⟩ }
theorem Rel.turn (R : Rel S0 C0 w0 ρ D ⟨σ, h⟩ a w) (hc : Chg X w w') (hX : ∀ k, X k -> S0 k) (hv : dst = none \/ RelV ρ (Sof S0 ρ h) w' D V v) :
   Rel S0 (ownC ρ h) w' ρ D ⟨put σ dst V, h⟩ (a.put dst v) w' := by
 have R1 : Rel S0 (fun k => ownC ρ h k \/ X k) w ρ D ⟨σ, h⟩ a w := R.rebase fun k hk => .inl hk
 have hk : Keep ρ (Sof S0 ρ h) w D ρ (Sof S0 ρ h) w' :=
   ⟨hc.size, fun l hl => ⟨rfl, hc.row _⟩, fun k hk hs => ⟨hs, hc.block k hk fun hx => hs (.inl (hX k hx))⟩⟩
 have hheap : ∀ l b, h[l]? = some (some b) -> D l /\ RelB ρ (Sof S0 ρ h) w' D l b := by
   intro l b hb; obtain ⟨h1, h2⟩ := R.heap l b hb; obtain ⟨arr, h3, h4⟩ := h2; refine ⟨h1, RelB.keep ⟨arr, h3, h4⟩ (fun _ h => h) hk rfl (hc.block _ (heap_lt h3) fun hx => (R.mine l b hb).2.1 (hX _ hx))⟩
 have base : ∀ V v, RelV ρ (Sof S0 ρ h) w' D V v -> Rel S0 (ownC ρ h) w' ρ D ⟨put σ dst V, h⟩ (a.put dst v) w' := fun V v hv =>
   (R1.step (h' := h) hk (fun _ h => h) hv hheap R.inj R.dlt (hc.mono fun k hk => .inr hk) (fun l b hb => ⟨.inl (.inl ⟨l, b, hb, rfl⟩), (R.mine l b hb).2⟩)).rebase fun k hk => hk
 rcases hv with rfl | hv
 · exact base .any undef trivial
 · exact base V v hv
def Memo (F : Nat -> List AV) (n : Nat) (S : Nat -> Prop) (w : World) (r : Nat) : Prop :=
 ∃ es clk, w.heap[r]? = some (.map es clk) /\ es.size = n /\ ∀ j e, es[j]? = some e -> e.key = .int .i64 ((j : Nat) : Int) /\ ∃ vs : List Value, e.val = .agg vs.toArray /\ RelCs ρ0 S w No (F j) vs
theorem Memo.keep {F : Nat -> List AV} {n r : Nat} {S S' : Nat -> Prop} {w' : World} (M : Memo F n S w r) (hs : w.heap.size <= w'.heap.size) (hr : w'.heap[r]? = w.heap[r]?) (hk : ∀ k, k < w.heap.size -> ¬ S k -> ¬ S' k /\ w'.heap[k]? = w.heap[k]?) : Memo F n S' w' r := by
 obtain ⟨es, clk, h1, h2, h3⟩ := M; refine ⟨es, clk, by rw [hr]; exact h1, h2, fun j e he => ?_⟩; obtain ⟨k1, vs, k2, k3⟩ := h3 j e he; exact ⟨k1, vs, k2, k3.keep _ (fun _ h => h) ⟨hs, fun l h => h.elim, hk⟩⟩
theorem Memo.look {F : Nat -> List AV} {n r mt kt et i : Nat} {S : Nat -> Prop} (M : Memo F n S w r) (hm : P.underlying mt = some (.map kt et)) (hk : P.underlying kt = some (.int .i64)) (hi : i < n) :
   ∃ vs : List Value, (∀ ok, (Instr.lookup mt (.map (some r)) (.int .i64 ((i : Nat) : Int)) ok).run P w = .ok (if ok then .tuple #[.agg vs.toArray, .bool true] else .agg vs.toArray) w) /\ RelCs ρ0 S w No (F i) vs := by
 obtain ⟨es, clk, h1, h2, h3⟩ := M; have hkey : IsKey (.int .i64) (.int .i64 ((i : Nat) : Int)) := by simp [IsKey]
 have hks : ∀ x ∈ es.toList, IsKey (.int .i64) x.key := fun x hx => by
   obtain ⟨j, hj⟩ := List.mem_iff_getElem?.1 hx; rw [(h3 j x (by simpa using hj)).1]; simp [IsKey]
 rcases findNow_spec hkey es.toList 0 hks with ⟨k1, k2⟩ | ⟨j, e, k1, k2, k3⟩
 · exfalso
   have hlt : i < es.size := by omega
   have := k2 es[i] (by simp); exact this (h3 i es[i] (by simp [hlt])).1
 · obtain ⟨g1, vs, g2, g3⟩ := h3 j e (by simpa using k2)
   have hij : j = i := by rw [g1] at k3; injection k3 with _ k3; omega
   subst hij; refine ⟨vs, fun ok => ?_, g3⟩; cases ok <;> simp [Instr.lookup, run_underlying hm, Result.andThen, MapKept.run_getObj_map h1, run_checkKey hk hkey, run_findKey hk k1, g2]
theorem Memo.miss {F : Nat -> List AV} {n r mt kt et i : Nat} {S : Nat -> Prop} (M : Memo F n S w r) (hm : P.underlying mt = some (.map kt et)) (hk : P.underlying kt = some (.int .i64)) (hi : n <= i) {z : Value} (hz : (zeroValue et).run P w = .ok z w) :
   (Instr.lookup mt (.map (some r)) (.int .i64 ((i : Nat) : Int)) true).run P w = .ok (.tuple #[z, .bool false]) w := by
 obtain ⟨es, clk, h1, h2, h3⟩ := M; have hkey : IsKey (.int .i64) (.int .i64 ((i : Nat) : Int)) := by simp [IsKey]
 have hks : ∀ x ∈ es.toList, IsKey (.int .i64) x.key := fun x hx => by
   obtain ⟨j, hj⟩ := List.mem_iff_getElem?.1 hx; rw [(h3 j x (by simpa using hj)).1]; simp [IsKey]
 rcases findNow_spec hkey es.toList 0 hks with ⟨k1, k2⟩ | ⟨j, e, k1, k2, k3⟩
 · simp [Instr.lookup, run_underlying hm, Result.andThen, MapKept.run_getObj_map h1, run_checkKey hk hkey, run_findKey hk k1, hz]
 · exfalso
   obtain ⟨g1, _⟩ := h3 j e (by simpa using k2); have hjl : j < es.size := by have := (List.getElem?_eq_some_iff.1 k2).1; simpa using this
   rw [g1] at k3; injection k3 with _ k3; omega
theorem Memo.upd {F : Nat -> List AV} {n r mt kt et : Nat} {S : Nat -> Prop} (M : Memo F n S w r) (hm : P.underlying mt = some (.map kt et)) (hk : P.underlying kt = some (.int .i64)) {vs : List Value} (hv : RelCs ρ0 S w No (F n) vs) (hS : S r) :
   ∃ w', (Instr.mapUpdate mt (.map (some r)) (.int .i64 ((n : Nat) : Int)) (.agg vs.toArray)).run P w = .ok () w' /\ Chg (· = r) w w' /\ Memo F (n + 1) S w' r := by
 obtain ⟨es, clk, h1, h2, h3⟩ := M; have hkey : IsKey (.int .i64) (.int .i64 ((n : Nat) : Int)) := by simp [IsKey]
 have hks : ∀ x ∈ es.toList, IsKey (.int .i64) x.key := fun x hx => by
   obtain ⟨j, hj⟩ := List.mem_iff_getElem?.1 hx; rw [(h3 j x (by simpa using hj)).1]; simp [IsKey]
 rcases findNow_spec hkey es.toList 0 hks with ⟨k1, k2⟩ | ⟨j, e, k1, k2, k3⟩
 · have hc := heap_set (o' := .map (es.push ⟨.int .i64 ((n : Nat) : Int), .agg vs.toArray, clk⟩) (clk + 1)) h1
   have hrt := heap_lt h1
   have hchg : Chg (· = r) w { w with heap := w.heap.setIfInBounds r (.map (es.push ⟨.int .i64 ((n : Nat) : Int), .agg vs.toArray, clk⟩) (clk + 1)) } :=
     ⟨rfl, rfl, rfl, by simp, fun k _ hk => hc.2 k hk, fun k arr ty ha => ⟨arr, ty, by
       have : k ≠ r := fun e => by rw [e, h1] at ha; cases ha
       simp only [hc.2 k this]; exact ha, Nat.le_refl _⟩⟩
   refine ⟨_, ?_, hchg, _, _, hc.1, by simp [h2], fun j e he => ?_⟩
   · simp [Instr.mapUpdate, run_underlying hm, MapKept.run_getObj_map h1, run_checkKey hk hkey, run_findKey hk k1, MapKept.run_setObj_map _ h1, Result.andThen]
   · have kp : ∀ {cs : List AV} {us : List Value}, RelCs ρ0 S w No cs us -> RelCs ρ0 S { w with heap := w.heap.setIfInBounds r (.map (es.push ⟨.int .i64 ((n : Nat) : Int), .agg vs.toArray, clk⟩) (clk + 1)) } No cs us :=
       fun hcs => hcs.keep _ (fun _ h => h) ⟨hchg.size, fun l h => h.elim, fun k _ hs => ⟨hs, hc.2 k fun e => hs (e ▸ hS)⟩⟩
     rw [Array.getElem?_push] at he
     split at he
     · rename_i hj
       injection he with he; subst he; exact ⟨by rw [hj, h2], vs, rfl, by rw [hj, h2]; exact kp hv⟩
     · obtain ⟨g1, us, g2, g3⟩ := h3 j e he
       exact ⟨g1, us, g2, kp g3⟩
 · exfalso
   obtain ⟨g1, _⟩ := h3 j e (by simpa using k2); have hjl : j < es.size := by have := (List.getElem?_eq_some_iff.1 k2).1; simpa using this
   rw [g1] at k3; injection k3 with _ k3; omega
end
end Go.Av
namespace Go.Av
open Go.Proofs Go.RowKit
def poseE (m : MachD) (n : Nat) : Int := if checkE m = 0 then (if ((n : Nat) : Int) = ((m.bodies.length : Nat) : Int) - 1 then 0 else 2) else checkE m
def k21 : KF
 | [.agg [.str mn, .list 27 XB, .list 17 XS, .list 17 XT, .list 13 XD, .list 5 XF], .agg [.q ax A1, .q az A2, .q tu A3, .list 3 J]] => some (.int .i64 (poseE (reMach [AV.str mn, AV.list 27 XB, AV.list 17 XS, AV.list 17 XT, AV.list 13 XD, AV.list 5 XF]) J.length), [[AV.str mn, AV.list 27 XB, AV.list 17 XS, AV.list 17 XT, AV.list 13 XD, AV.list 5 XF] = unMach 300 (reMach [AV.str mn, AV.list 27 XB, AV.list 17 XS, AV.list 17 XT, AV.list 13 XD, AV.list 5 XF]), (reMach [AV.str mn, AV.list 27 XB, AV.list 17 XS, AV.list 17 XT, AV.list 13 XD, AV.list 5 XF]).small, J.length <= 4611686018427387904, XB.length <= 4611686018427387904])
 | _ => none
theorem a21 : Ctr 21 k21 := by
 refine ctr Tryz.f21 fun _ _ _ S w0 h ho => ?_
 unfold k21 at h; split at h <;> cases h; rename_i mn XB XS XT XD XF ax A1 az A2 tu A3 J; obtain ⟨o1, o2, o3, o4⟩ := ho.e4; have K := kn.cons a103; have hb : ((reMach [AV.str mn, AV.list 27 XB, AV.list 17 XS, AV.list 17 XT, AV.list 13 XD, AV.list 5 XF]).bodies.length : Int) = ((XB.length : Nat) : Int) := by simp [reMach]
 by_cases h1 : (checkE (reMach [(AV.str mn), (AV.list 27 XB), (AV.list 17 XS), (AV.list 17 XT), (AV.list 13 XD), (AV.list 5 XF)])) = (0 : Int)
 · by_cases h2 : ((J.length : Nat) : Int) = (((XB.length : Nat) : Int) - (1 : Int))
   · exact rF K [(9, ff), (17, .i6 ((XB.length : Int) - (1 : Int))), (18, ff)] (.a5 o1 o2 (jF h1) (wI ((XB.length : Int) - (1 : Int)) ((XB.length : Int) - (1 : Int)) (by omega)) (jF h2)) (V := .i6 (0 : Int)) (Ref.int (by unfold poseE; rw [if_pos h1, hb, if_pos h2]))
   · exact rF K [(9, ff), (17, .i6 ((XB.length : Int) - (1 : Int))), (18, tt)] (.a5 o1 o2 (jF h1) (wI ((XB.length : Int) - (1 : Int)) ((XB.length : Int) - (1 : Int)) (by omega)) (jT h2)) (V := .i6 (2 : Int)) (Ref.int (by unfold poseE; rw [if_pos h1, hb, if_neg h2]))
 · exact rF K [(9, tt)] (.a3 o1 o2 (jT h1)) (V := .i6 (checkE (reMach [.str mn, .list 27 XB, .list 17 XS, .list 17 XT, .list 13 XD, .list 5 XF]))) (Ref.int (by unfold poseE; rw [if_neg h1]))
end Go.Av
namespace Go.Av
open Go.RowKit
structure FrameD where
 at_ : PtD
 c : Rat
 s : Rat
 deriving Inhabited
def unF (e : Nat) (f : FrameD) : List AV := [.q f.at_.x (2 * e), .q f.at_.z (2 * e), .q f.c e, .q f.s e]
def regId : Code -> Nat
 | .region i _ _ => i
 | _ => 0
def regOps : Code -> Array Oper
 | .region _ o _ => o
 | _ => #[]
def regDraw : Code -> Bool
 | .region _ _ d => d
 | _ => false
def psOp (o : Oper) : Oper := { o with op := .move (.const undef) }
def setPs : Nat -> List Oper -> List Oper
 | _, [] => []
 | 0, o :: os => psOp o :: os
 | i + 1, o :: os => o :: setPs i os
theorem setPs_shape : ∀ (i : Nat) (os : List Oper), sameShape os (setPs i os)
 | i, [] => by cases i <;> trivial
 | 0, o :: os => ⟨rfl, rfl, rfl, shape_refl os⟩
 | i + 1, o :: os => ⟨rfl, rfl, rfl, setPs_shape i os⟩
where shape_refl : ∀ os : List Oper, sameShape os os
 | [] => trivial
 | o :: os => ⟨rfl, rfl, rfl, shape_refl os⟩
theorem setPs_ne : ∀ (i j : Nat) (os : List Oper), j ≠ i -> (setPs i os)[j]? = os[j]?
 | i, _, [], _ => by cases i <;> rfl
 | 0, j + 1, o :: os, _ => by simp [setPs]
 | i + 1, 0, o :: os, _ => by simp [setPs]
 | i + 1, j + 1, o :: os, h => by simpa [setPs] using setPs_ne i j os (by omega)
 | 0, 0, _ :: _, h => absurd rfl h
theorem setPs_eq : ∀ (i : Nat) (os : List Oper) (o : Oper), os[i]? = some o -> (setPs i os)[i]? = some (psOp o)
 | _, [], _, h => by simp at h
 | 0, o :: os, o', h => by simp at h; subst h; simp [setPs]
 | i + 1, o :: os, o', h => by simpa [setPs] using setPs_eq i os o' (by simpa using h)
def ovAt (i : Nat) : List (Nat × AOp) -> Option AV
 | [] => none
 | (j, x) :: r => if j = i then x.ov else ovAt i r
theorem ovAt_eq : ∀ {l : List (Nat × AOp)} {i : Nat} {x : AOp}, l.Pairwise (fun p q => p.1 < q.1) -> (i, x) ∈ l -> ovAt i l = x.ov
 | (j, y) :: r, i, x, hs, h => by
   rcases List.mem_cons.1 h with h | h
   · injection h with h1 h2; subst h1; subst h2; simp [ovAt]
   · have := (List.pairwise_cons.1 hs).1 _ h
     simp at this; rw [ovAt, if_neg (by omega), ovAt_eq (List.pairwise_cons.1 hs).2 h]
 | [], _, _, _, h => by simp at h
def obsBut (i : Nat) : List Rec -> List Prop
 | [] => []
 | r :: rs => (if r.i = i then [] else r.ob) ++ obsBut i rs
theorem obsBut_all {i : Nat} : ∀ {rs : List Rec}, AllP (obsBut i rs) -> ∀ r ∈ rs, r.i ≠ i -> AllP r.ob
 | r :: rs, h, q, hq, hn => by
   rcases List.mem_cons.1 hq with rfl | hq
   · have := (AllP.app h).1
     rwa [if_neg hn] at this
   · exact obsBut_all (AllP.app h).2 q hq hn
 | [], _, _, hq, _ => by simp at hq
def aheadOK (ops : List Oper) (o : Oper) (ts : List Nat) : Bool :=
 ts.all fun t => (List.range ops.length).all fun j => match ops[j]? with
   | some q => if q.dst == some t then o.after.toList.any fun e => e.on == j && Region.binds .any e else true
   | none => true
theorem aheadOK_spec {ops : List Oper} {o : Oper} {ts : List Nat} (h : aheadOK ops o ts = true) : ∀ t ∈ ts, ∀ (j : Nat) (q : Oper), ops[j]? = some q -> q.dst = some t -> ∃ e ∈ o.after.toList, e.on = j /\ Region.binds .any e = true := by
 intro t ht j q hj hd; have h1 := List.all_eq_true.1 h t ht; have h2 := List.all_eq_true.1 h1 j (List.mem_range.2 (List.getElem?_eq_some_iff.1 hj).1); simp only [hj, hd, beq_self_eq_true, if_true] at h2; obtain ⟨e, e1, e2⟩ := List.any_eq_true.1 h2; rw [Bool.and_eq_true] at e2; exact ⟨e, e1, by simpa using e2.1, e2.2⟩
section
variable {P : Program} {T : TT} {K : KT} {f : FuncId} {S0 C0 : Nat -> Prop} {w0 : World} {Post : Value -> World -> Prop}
theorem Good.regX (hm : P.follows .mixedOrders = true) (hT : TOK P T) (hK : KOK P K) {c : Code} (iX : Nat) {oX : Oper} {dX : Option Nat} {V : AV} {ov : Ovs} {st : St} {σ' : List AV} {h' : List (Option ABlk)} {ob : List Prop} {todo : List Item} {B B' : Base -> Prop} (ts : List Nat)
   (hc : c = .region (regId c) (regOps c) (regDraw c)) (hoX : (regOps c).toList[iX]? = some oX) (hg : oX.guard = none) (hd : oX.dst = dX)
   (he : (aregionG T K (setPs iX (regOps c).toList).toArray (regDraw c) ov st).map (fun r => (r.1.σ, r.1.h, obsBut iX r.2)) = some (σ', h', ob)) (hob : AllP ob)
   (hV : dX = none \/ ovAt iX (annot 0 (setPs iX (regOps c).toList) ov st.h.length) = some V) (hts : aheadOK (setPs iX (regOps c).toList) oX ts = true)
   (hX : ∀ (Q : Exit -> Act -> World -> Prop) β ρ D σ h a w, B β -> Rel β.S β.C β.w ρ D ⟨σ, h⟩ a w -> (∀ t ∈ ts, σ.getD t .any = σ'.getD t .any) -> wpOp P (regOps c) Q iX (fun a' w' => ∃ β', B' β' /\ Rel β'.S β'.C β'.w ρ D ⟨put σ dX V, h⟩ a' w') a w)
   (hB : B ⟨S0, C0, w0⟩) (hgood : ∀ β, B' β -> Good P f β.S β.C β.w Post todo ⟨σ', h'⟩) : Good P f S0 C0 w0 Post (.code c :: todo) st := by
 subst hd; obtain ⟨⟨st', rs⟩, h1, h2⟩ := Option.map_eq_some_iff.1 he; simp only [Prod.mk.injEq] at h2; obtain ⟨rfl, rfl, rfl⟩ := h2; rw [hc]
 refine Good.regionX (ops := (setPs iX (regOps c).toList).toArray) (args := ts.map fun t => (t, st'.σ.getD t .any)) hm hT hK iX (V := V) (oX := oX) h1 (obsBut_all hob) (by simpa using setPs_shape iX _) (fun i hi => by
   have := setPs_ne iX i (regOps c).toList hi
   simpa using this.symm) (by simpa using hoX) hg (by simpa [psOp] using setPs_eq iX _ _ hoX) (fun x hx => ?_) ?_ ?_ hB hgood
 · rcases hV with h | h
   · exact .inr h
   · left
     have := ovAt_eq (annot_sorted _ _ _ _) hx; simp only [List.toList_toArray] at this; rw [<- this]; exact h
 · intro p hp
   obtain ⟨t, ht, rfl⟩ := List.mem_map.1 hp; refine ⟨rfl, fun j o hj hd => aheadOK_spec hts t ht j o (by simpa using hj) hd⟩
 · intro Q β ρ D σ h a w hβ R hA
   exact hX Q β ρ D σ h a w hβ R fun t ht => hA (t, st'.σ.getD t .any) (List.mem_map.2 ⟨t, ht, rfl⟩)
end
section
theorem calls_of (hf : P.funcs[f]? = some fn) (hb : fn.body = some c) (hS : ∀ k, S k -> k < w.heap.size) (hargs : RelVs ρ0 S w No args vals)
   (h : Good P f S No w Post [.code c] (st0 args fn.ntmps)) : Calls P f vals.toArray w fun e w' => ∃ v, e = .returned v /\ Post v w' := by
 intro cs
 let b : Frame := { (default : Frame) with fn := f, kind := .normal }
 have hlen : ∀ (us : List AV) (vs : List Value), RelVs ρ0 S w No us vs -> vs.length = us.length := by
   intro us
   induction us with
   | nil => intro vs h; cases vs <;> first | rfl | exact h.elim
   | cons c us ih =>
     intro vs h; cases vs with
     | nil => exact h.elim
     | cons v vs => simp [ih vs h.2]
 have hget : ∀ (us : List AV) (vs : List Value), RelVs ρ0 S w No us vs -> ∀ (i : Nat) (v : Value), vs[i]? = some v -> RelV ρ0 S w No (us.getD i .any) v := by
   intro us
   induction us with
   | nil => intro vs h i v hv; cases vs <;> first | exact h.elim | simp at hv
   | cons c us ih =>
     intro vs h i v hv; cases vs with
     | nil => exact h.elim
     | cons u vs =>
       cases i with
       | zero => simp at hv; subst hv; exact RelV.of0 h.1
       | succ i => exact ih vs h.2 i v (by simpa using hv)
 have hSof : Sof S ρ0 [] = S := by
   funext k; apply propext; unfold Sof; simp
 have R : Rel S No w ρ0 No (st0 args fn.ntmps) { tmps := vals.toArray ++ Array.replicate (fn.ntmps - vals.toArray.size) undef, defers := [] } w := {
   defers := rfl
   len := by simp [st0, hlen _ _ hargs]
   tmps := by
     intro t v hv; simp only [st0, hSof]; rcases Nat.lt_or_ge t vals.length with h | h
     · rw [Array.getElem?_append_left (by simpa using h)] at hv
       have h2 : t < args.length := by rw [<- hlen _ _ hargs]; exact h
       have := hget _ _ hargs t v (by simpa using hv); simpa [List.getD_eq_getElem?_getD, List.getElem?_append_left h2] using this
     · have h2 : args.length <= t := by rw [<- hlen _ _ hargs]; exact h
       have : (args ++ List.replicate (fn.ntmps - args.length) AV.any).getD t .any = .any := by
         simp only [List.getD_eq_getElem?_getD, List.getElem?_append_right h2, List.getElem?_replicate]
         split <;> rfl
       rw [this]; trivial
   heap := fun l b h => by simp [st0] at h
   inj := fun l l' b b' h => by simp [st0] at h
   lt := hS
   dlt := fun l h => h.elim
   chg := Chg.refl _ _
   mine := fun l b h => by simp [st0] at h }
 obtain ⟨v, w', fr, hP, hsteps, hfn, hleave⟩ := h ρ0 No _ w R b cs rfl rfl
 have henter : Frame.enter P f vals.toArray .normal = b.at { tmps := vals.toArray ++ Array.replicate (fn.ntmps - vals.toArray.size) undef, defers := [] } [.code c] := by
   simp [Frame.enter, Frame.at, hf, hb, b]
 exact ⟨.returned v, w', fr, ⟨v, rfl, hP⟩, by rw [henter]; exact hsteps, hfn, hleave⟩
theorem Rel.called (R : Rel S0 C0 w0 ρ D ⟨σ, h⟩ a w) (hchg : Chg No w w') (hv : RelV ρ (Sof S0 ρ h) w' D V v) : Rel S0 C0 w0 ρ D ⟨put σ dst V, h⟩ (a.put dst v) w' := by
 have hb := hchg.below
 have hk : Keep ρ (Sof S0 ρ h) w D ρ (Sof S0 ρ h) w' :=
   ⟨hchg.size, fun l hl => ⟨rfl, fun arr ty h => ⟨arr, ty, by rw [hb.block _ (lt_of_heap h)]; exact h, Nat.le_refl _⟩⟩, fun k hk hs => ⟨hs, hb.block k hk⟩⟩
 refine R.step hk (fun _ h => h) hv ?_ R.inj R.dlt (R.chg.trans hchg (fun _ _ h => h.elim)) R.mine; intro l b hlb; obtain ⟨hDl, hB⟩ := R.heap l b hlb; obtain ⟨arr, h1, h2⟩ := hB; exact ⟨hDl, RelB.keep ⟨arr, h1, h2⟩ (fun _ h => h) hk rfl (hb.block _ (lt_of_heap h1))⟩
theorem toD (x : RelCs ρ0 S w No cs vs) : RelCs ρ S w D cs vs := x.keep _ (fun _ h => h.elim) ⟨Nat.le_refl _, fun l h => h.elim, fun k _ hs => ⟨hs, rfl⟩⟩
theorem Rel.apart (R : Rel S0 C0 w0 ρ D ⟨σ, h⟩ a w) (hk : k < w0.heap.size) (hs : ¬ S0 k) (hc : ¬ C0 k) : ¬ Sof S0 ρ h k /\ w.heap[k]? = w0.heap[k]? := by
 refine ⟨?_, R.chg.block k hk hc⟩; rintro (h1 | ⟨l, b, hb, e⟩)
 · exact hs h1
 · rcases (R.mine l b hb).1 with h2 | h2
   · exact hc (e ▸ h2)
   · omega
theorem Memo.now (R : Rel S0 C0 w0 ρ D ⟨σ, h⟩ a w) (M : Memo F n (fun k => S0 k \/ C0 k) w0 r) (hr : ¬ C0 r) : Memo F n (Sof S0 ρ h) w r := by
 have hlt : r < w0.heap.size := by obtain ⟨es, clk, h1, _⟩ := M; exact heap_lt h1
 exact M.keep R.chg.size (R.chg.block r hlt hr) fun k hk hs => R.apart hk (fun h => hs (.inl h)) (fun h => hs (.inr h))
theorem Good.pick (n : Nat) (xs : List (Nat × AV)) (hn : σ.length = n) (he : xs.map (fun p => σ.getD p.1 .any) = xs.map (·.2)) (hg : Good P f S0 C0 w0 Post todo ⟨slots n xs, h⟩) : Good P f S0 C0 w0 Post todo ⟨σ, h⟩ := by
 refine Good.weak n xs hn ?_ hg; clear hg
 induction xs with
 | nil => exact .nil
 | cons p xs ih =>
   simp only [List.map_cons, List.cons.injEq] at he; exact .cons (by rw [he.1]; exact Ref.rfl') (ih he.2)
end
section
theorem Rel.stepS (R : Rel S0 C0 w0 ρ D st a w)
   (hk : Keep ρ (Sof S0 ρ st.h) w D ρ' (Sof S1 ρ' h') w') (hd : ∀ l, D l -> D' l)
   (hv : RelV ρ' (Sof S1 ρ' h') w' D' V v)
   (hh : ∀ l b, h'[l]? = some (some b) -> D' l /\ RelB ρ' (Sof S1 ρ' h') w' D' l b)
   (hi : ∀ l l' b b', h'[l]? = some (some b) -> h'[l']? = some (some b') -> ρ' l = ρ' l' -> l = l')
   (hdl : ∀ l, D' l -> l < h'.length) (hlt : ∀ k, S1 k -> k < w'.heap.size) (hc : Chg C1 w1 w') (hm : ∀ l b, h'[l]? = some (some b) -> Mine S1 C1 w1 b (ρ' l)) :
   Rel S1 C1 w1 ρ' D' { σ := put st.σ dst V, h := h' } (a.put dst v) w' where
 defers := by cases dst <;> exact R.defers
 len := by cases dst <;> simp [put, Act.put, R.len]
 tmps := by
   intro t u hu; cases dst with
   | none => exact (R.tmps t u hu).keep hd hk
   | some d =>
     simp only [put, Act.put] at hu ⊢; rw [set_getD]
     by_cases e : d = t
     · subst e
       have hlt : d < (a.tmps.setIfInBounds d v).size := (Array.getElem?_eq_some_iff.1 hu).1; simp at hlt; rw [if_pos ⟨rfl, by rw [<- R.len]; exact hlt⟩]; simp [Array.getElem?_setIfInBounds, hlt] at hu; subst hu; exact hv
     · rw [if_neg (fun h => e h.1)]
       simp [Array.getElem?_setIfInBounds, e] at hu; exact (R.tmps t u hu).keep hd hk
 heap := hh
 inj := hi
 lt := hlt
 dlt := hdl
 chg := hc
 mine := hm
theorem Rel.grow (R : Rel S0 C0 w0 ρ D ⟨σ, h⟩ a w) (hc : Chg X w w') (hX : ∀ k, X k -> S0 k) (h01 : ∀ k, S0 k -> S1 k)
   (h1 : ∀ k, S1 k -> S0 k \/ w.heap.size <= k /\ k < w'.heap.size) (hv : RelV ρ (Sof S1 ρ h) w' D V v) :
   Rel S1 (ownC ρ h) w' ρ D ⟨put σ dst V, h⟩ (a.put dst v) w' := by
 have hk : Keep ρ (Sof S0 ρ h) w D ρ (Sof S1 ρ h) w' := by
   refine ⟨hc.size, fun l hl => ⟨rfl, hc.row _⟩, fun k hk hs => ⟨?_, hc.block k hk fun hx => hs (.inl (hX k hx))⟩⟩; rintro (h2 | h2)
   · rcases h1 k h2 with h3 | h3
     · exact hs (.inl h3)
     · omega
   · exact hs (.inr h2)
 refine R.stepS hk (fun _ h => h) hv ?_ R.inj R.dlt ?_ (Chg.refl _ _) ?_
 · intro l b hb
   obtain ⟨h3, h4⟩ := R.heap l b hb; obtain ⟨arr, h5, h6⟩ := h4; exact ⟨h3, RelB.keep ⟨arr, h5, h6⟩ (fun _ h => h) hk rfl (hc.block _ (heap_lt h5) fun hx => (R.mine l b hb).2.1 (hX _ hx))⟩
 · intro k hk'
   rcases h1 k hk' with h3 | h3
   · exact Nat.lt_of_lt_of_le (R.lt k h3) hc.size
   · exact h3.2
 · intro l b hb
   refine ⟨.inl ⟨l, b, hb, rfl⟩, fun h3 => ?_, (R.mine l b hb).2.2⟩; rcases h1 _ h3 with h4 | h4
   · exact (R.mine l b hb).2.1 h4
   · obtain ⟨_, arr, h5, _⟩ := R.heap l b hb
     have := heap_lt h5; omega
theorem Rel.shrink (R : Rel S0 C0 w0 ρ D st a w) (h : ∀ k, S1 k -> S0 k) : Rel S1 C0 w0 ρ D st a w := by
 have hk : Keep ρ (Sof S0 ρ st.h) w D ρ (Sof S1 ρ st.h) w := ⟨Nat.le_refl _, fun l hl => ⟨rfl, fun arr ty h => ⟨arr, ty, h, Nat.le_refl _⟩⟩, fun k hk hs => ⟨fun h1 => hs (h1.elim (fun h2 => .inl (h k h2)) .inr), rfl⟩⟩
 exact {
   defers := R.defers
   len := R.len
   tmps := fun t v ht => (R.tmps t v ht).keep (fun _ h => h) hk
   heap := fun l b hb => ⟨(R.heap l b hb).1, (R.heap l b hb).2.keep (fun _ h => h) hk rfl rfl⟩
   inj := R.inj
   lt := fun k hk => R.lt k (h k hk)
   dlt := R.dlt
   chg := R.chg
   mine := fun l b hb => ⟨(R.mine l b hb).1, fun h1 => (R.mine l b hb).2.1 (h _ h1), (R.mine l b hb).2.2⟩ }
end
def lay (xs : List (Nat × AV)) (σ : List AV) : List AV := xs.foldl (fun σ p => σ.set p.1 p.2) σ
theorem lay_get : ∀ {xs : List (Nat × AV)} {σ : List AV} {t : Nat}, (∀ p ∈ xs, p.1 ≠ t) -> (lay xs σ).getD t .any = σ.getD t .any
 | [], _, _, _ => rfl
 | p :: xs, σ, t, h => by
   show (lay xs (σ.set p.1 p.2)).getD t .any = _; rw [lay_get fun q hq => h q (by simp [hq]), set_getD, if_neg fun e => h p (by simp) e.1]
theorem lay_set : ∀ {xs : List (Nat × AV)} {σ : List AV} {d : Nat} {V : AV}, (∀ p ∈ xs, p.1 ≠ d) -> lay xs (σ.set d V) = (lay xs σ).set d V
 | [], _, _, _, _ => rfl
 | p :: xs, σ, d, V, h => by
   show lay xs ((σ.set d V).set p.1 p.2) = (lay xs (σ.set p.1 p.2)).set d V; rw [<- lay_set fun q hq => h q (by simp [hq]), List.set_comm _ _ fun e => h p (by simp) e.symm]
theorem lay_put (h : ∀ p ∈ xs, dst ≠ some p.1) : lay xs (put σ dst V) = put (lay xs σ) dst V := by
 cases dst with
 | none => rfl
 | some d => exact lay_set fun p hp e => h p hp (by rw [e])
def clear (ops : Array Oper) (o : Oper) (ks : List Nat) : Bool :=
 o.op.operands.toList.all (fun | .tmp t => !ks.contains t | _ => true) && ks.all (fun k => !(o.dst == some k)) &&
   (match o.guard with
     | none => true
     | some (j, _) => match (ops[j]?).bind (·.dst) with
       | some d => !ks.contains d
       | none => true)
section
theorem arun1_lay {T : TT} {K : KT} {ops : Array Oper} {ks : List Nat} {xs : List (Nat × AV)} {i : Nat} {x : AOp} {σ : List AV} {h : List (Option ABlk)} {st1 : St} {r : Rec} (hc : clear ops x.o ks = true) (hx : ∀ p ∈ xs, p.1 ∈ ks) (he : arun1 T K ops i x ⟨σ, h⟩ = some (st1, r)) :
   arun1 T K ops i x ⟨lay xs σ, h⟩ = some (⟨lay xs st1.σ, st1.h⟩, r) := by
 unfold clear at hc; simp only [Bool.and_eq_true] at hc; obtain ⟨⟨h1, h2⟩, h3⟩ := hc
 have hd : ∀ p ∈ xs, x.o.dst ≠ some p.1 := fun p hp e => by
   have := List.all_eq_true.1 h2 p.1 (hx p hp); simp [e] at this
 have hw : awant ops (lay xs σ) x.o = awant ops σ x.o := by
   unfold awant
   split at h3
   · rename_i hg; rw [hg]
   · rename_i j b hg
     rw [hg]; cases hj : (ops[j]?).bind (·.dst) with
     | none => simp only [hj]
     | some d =>
       simp only [hj] at h3 ⊢
       rw [lay_get fun p hp e => by
         have := hx p hp; rw [e] at this
         simp [this] at h3]
 have ha : opArgs (lay xs σ) x.o = opArgs σ x.o := by
   unfold opArgs; refine List.map_congr_left fun q hq => ?_
   have := List.all_eq_true.1 h1 q hq; cases q with
   | tmp t =>
     simp only [aval]
     exact lay_get fun p hp e => by
       have h4 := hx p hp; rw [e] at h4; simp [h4] at this
   | const v => rfl
   | func f => rfl
   | global g => rfl
 unfold arun1 outOf at he ⊢; simp only [hw, ha] at he ⊢
 split at he
 · split at he
   · injection he with he; simp only [Prod.mk.injEq] at he
     obtain ⟨rfl, rfl⟩ := he; simp only [lay_put hd]
   · cases he
 · injection he with he; simp only [Prod.mk.injEq] at he
   obtain ⟨rfl, rfl⟩ := he; simp only [lay_put hd]
 · cases he
theorem arun1_h {T : TT} {K : KT} {ops : Array Oper} {i : Nat} {o : Oper} {x : AOp} {st st1 : St} {r : Rec} {v : Value} (h : arun1 T K ops i x st = some (st1, r)) (hx : x.o = { o with op := .move (.const v) }) : st1.h = st.h := by
 unfold arun1 at h
 split at h
 · split at h
   · rename_i out ho
     injection h with h; simp only [Prod.mk.injEq] at h; rw [<- h.1]; unfold outOf opArgs at ho; rw [hx] at ho; simp only [Op.operands, List.map_cons, List.map_nil, aev, val] at ho; injection ho with ho; rw [<- ho]; rfl
   · cases h
 · injection h with h; simp only [Prod.mk.injEq] at h
   rw [<- h.1]
 · cases h
theorem put_len (σ : List AV) (dst : Option Nat) (V : AV) : (put σ dst V).length = σ.length := by cases dst <;> simp [put]
theorem arun_len {T : TT} {K : KT} {ops : Array Oper} : ∀ {xs : List (Nat × AOp)} {st st' : St} {rs : List Rec}, arun T K ops xs st = some (st', rs) -> st'.σ.length = st.σ.length
 | [], st, st', rs, h => by simp only [arun] at h; injection h with h; simp only [Prod.mk.injEq] at h; rw [h.1]
 | (i, x) :: xs, st, st', rs, h => by
   obtain ⟨st1, r, rs1, h1, h2, rfl⟩ := arun_cons.1 h; obtain ⟨V, hV⟩ := arun1_put h1; rw [arun_len h2, hV, put_len]
theorem Good.regionO {P : Program} {T : TT} {K : KT} {ops : Array Oper} {f : FuncId} {S0 C0 : Nat -> Prop} {w0 : World} {Post : Value -> World -> Prop} (hm : P.follows .mixedOrders = true) (hT : TOK P T) (hK : KOK P K) {id : Nat} {opsR : Array Oper} {draw : Bool} {ov : Ovs} {st st' : St} {rs : List Rec} {todo : List Item} {γ : Type} (Xs ks : List Nat) (ovl : γ -> List (Nat × AV)) (I : Array Bool -> γ -> Base -> Prop) (args : Nat -> List (Nat × AV))
   (he : aregionG T K ops draw ov st = some (st', rs)) (hO : ∀ r ∈ rs, r.i ∉ Xs -> AllP r.ob) (hsh : sameShape opsR.toList ops.toList) (hne : ∀ i, i ∉ Xs -> opsR[i]? = ops[i]?)
   (hks : ∀ L g β, I L g β -> ∀ p ∈ ovl g, p.1 ∈ ks) (hcl : ∀ i o, i ∉ Xs -> ops[i]? = some o -> clear ops o ks = true)
   (hps : ∀ i ∈ Xs, ∃ oX, opsR[i]? = some oX /\ oX.guard = none /\ ops[i]? = some { oX with op := .move (.const undef) })
   (hI : ∀ listed i g β, i ∉ Xs -> I listed g β -> I (listed.setIfInBounds i true) g β)
   (hargs : ∀ i ∈ Xs, ∀ p ∈ args i, st'.σ.getD p.1 .any = p.2 /\ ∀ (j : Nat) (o : Oper), ops[j]? = some o -> o.dst = some p.1 -> ∀ oX, ops[i]? = some oX -> ∃ e ∈ oX.after.toList, e.on = j /\ Region.binds .any e = true)
   (hX : ∀ i ∈ Xs, ∀ (Q : Exit -> Act -> World -> Prop) listed g β ρ D σ h a w V oX, opsR[i]? = some oX -> I listed g β -> listed.size = ops.size -> listed.getD i false = false -> (∀ e ∈ oX.after.toList, Region.binds .any e = true -> listed.getD e.on false = true) -> (∀ p ∈ args i, σ.getD p.1 .any = p.2) -> σ.length = st'.σ.length ->
     Rel β.S β.C β.w ρ D ⟨lay (ovl g) σ, h⟩ a w -> wpOp P opsR Q i (fun a' w' => ∃ g' β', I (listed.setIfInBounds i true) g' β' /\ Rel β'.S β'.C β'.w ρ D ⟨lay (ovl g') (put σ oX.dst V), h⟩ a' w') a w)
   (g0 : γ) (hB : I (Array.replicate ops.size false) g0 ⟨S0, C0, w0⟩) (h0 : ovl g0 = [])
   (hgood : ∀ listed g β, (∀ i, i < ops.size -> listed.getD i false = true) -> I listed g β -> Good P f β.S β.C β.w Post todo ⟨lay (ovl g) st'.σ, st'.h⟩) : Good P f S0 C0 w0 Post (.code (.region id opsR draw) :: todo) st := by
 intro ρ D a w R b cs hb hk
 have key : (Code.region id opsR draw).wp P (fun e a' w' => e = Exit.normal /\ ∃ listed g β ρ' D', (∀ i, i < ops.size -> listed.getD i false = true) /\ I listed g β /\ Rel β.S β.C β.w ρ' D' ⟨lay (ovl g) st'.σ, st'.h⟩ a' w') a w := by
   refine regionG (ρ := ρ) hm (X := fun p => p ∈ annot 0 ops.toList ov st.h.length) (𝓡 := fun listed ρ D st a w => ∃ (g : γ) (β : Base), I listed g β /\ Rel β.S β.C β.w ρ D ⟨lay (ovl g) st.σ, st.h⟩ a w) (O := fun r => r.i ∉ Xs -> AllP r.ob) (T := T) (K := K) (ops := ops)
     he hO hsh (fun p hp => hp) R.dlt ?_ ?_ ?_
   · intro w' hw'
     refine ⟨g0, ⟨S0, C0, w0⟩, hB, ?_⟩; rw [h0]; rcases hw' with rfl | rfl
     · exact R.more _
     · exact (R.more _).draw
   · rintro listed ρ' D' a' w' ⟨g, β, h1, h2⟩ hall
     exact ⟨rfl, listed, g, β, ρ', D', hall, h1, h2⟩
   · rintro listed i x st2 st1 r a2 w2 ρ2 D2 ⟨g, β, hI2, R2⟩ hsz hi hun hed hox hfresh h1 hOr hxin hrest
     by_cases hiX : i ∈ Xs
     · obtain ⟨oX, k1, k2, k3⟩ := hps i hiX
       have hxo : x.o = { oX with op := .move (.const undef) } := by rw [k3] at hox; injection hox with hox; exact hox.symm
       obtain ⟨V, hV⟩ := arun1_put h1; have hh := arun1_h h1 hxo
       have hst1 : st1 = ⟨put st2.σ oX.dst V, st2.h⟩ := by
         cases st1; simp only at hV hh; rw [hV, hh, hxo]
       obtain ⟨rest, rs1, hr1, hr2⟩ := hrest
       have hA : ∀ p ∈ args i, st2.σ.getD p.1 .any = p.2 := by
         intro p hp; obtain ⟨g1, g2⟩ := hargs i hiX p hp
         have hnot : ∀ (j : Nat) (o : Oper), ops[j]? = some o -> o.dst = some p.1 -> listed.getD j false = true := by
           intro j o hj hd; obtain ⟨e, e1, e2, e3⟩ := g2 j o hj hd _ k3
           have := hed _ k3 e e1 e3
           rwa [e2] at this
         have q1 : st'.σ.getD p.1 .any = st1.σ.getD p.1 .any := arun_keep hr1 fun q hq hd => by
           obtain ⟨q1, q2, q3⟩ := hr2 q hq
           have := hnot q.1 q.2.o q3 hd; rw [q2] at this; cases this
         have q2 : oX.dst ≠ some p.1 := fun hd => by
           have := hnot i _ k3 hd; rw [hun] at this; cases this
         rw [<- g1, q1, hst1]; exact (put_get q2).symm
       refine wpOp_mono ?_ (hX i hiX _ listed g β ρ2 D2 st2.σ st2.h a2 w2 V oX k1 hI2 hsz hun (fun e he => hed _ k3 e he) hA (by rw [arun_len hr1, hst1, put_len]) R2); rintro a' w' ⟨g', β', b1, b2⟩; exact ⟨ρ2, D2, ⟨g', β', b1, by rw [hst1]; exact b2⟩, fun l hl => .inl hl⟩
     · have h1' := arun1_lay (xs := ovl g) (hcl i _ hiX hox) (hks _ _ _ hI2) h1
       refine shape_op hsh (hne i hiX) (wpOp_mono ?_ (arun1_ok hT hK R2 hox hfresh h1' (hOr ?_)))
       · rintro a' w' ⟨ρ', D', R', hD'⟩
         exact ⟨ρ', D', ⟨g, β, hI _ _ _ _ hiX hI2, R'⟩, hD'⟩
       · have : r.i = i := by
           unfold arun1 at h1
           split at h1
           · split at h1
             · injection h1 with h1; simp only [Prod.mk.injEq] at h1; rw [<- h1.2]
             · cases h1
           · injection h1 with h1; simp only [Prod.mk.injEq] at h1; rw [<- h1.2]
           · cases h1
         rw [this]; exact hiX
 obtain ⟨e, a', w', ⟨rfl, listed, g, β, ρ', D', hall, hβ, R'⟩, harr⟩ := key b _ cs; obtain ⟨v, w2, fr, h1, h2, h3⟩ := hgood listed g β hall hβ ρ' D' a' w' R' b cs hb hk; exact ⟨v, w2, fr, h1, Steps.trans harr h2, h3⟩
end
def setPsA : Nat -> List Nat -> List Oper -> List Oper
 | _, _, [] => []
 | i, Xs, o :: os => (if Xs.contains i then psOp o else o) :: setPsA (i + 1) Xs os
theorem setPsA_get : ∀ (os : List Oper) (i : Nat) (Xs : List Nat) (j : Nat), (setPsA i Xs os)[j]? = (os[j]?).map fun o => if Xs.contains (i + j) then psOp o else o
 | [], i, Xs, j => by simp [setPsA]
 | o :: os, i, Xs, 0 => by simp [setPsA]
 | o :: os, i, Xs, j + 1 => by
   simp only [setPsA, List.getElem?_cons_succ]; rw [setPsA_get os (i + 1) Xs j, show i + 1 + j = i + (j + 1) by omega]
theorem setPsA_shape : ∀ (os : List Oper) (i : Nat) (Xs : List Nat), sameShape os (setPsA i Xs os)
 | [], _, _ => trivial
 | o :: os, i, Xs => by
   unfold setPsA; refine ⟨?_, ?_, ?_, setPsA_shape os (i + 1) Xs⟩ <;> split <;> rfl
def obsButL (Xs : List Nat) : List Rec -> List Prop
 | [] => []
 | r :: rs => (if Xs.contains r.i then [] else r.ob) ++ obsButL Xs rs
theorem obsButL_all : ∀ {rs : List Rec}, AllP (obsButL Xs rs) -> ∀ r ∈ rs, r.i ∉ Xs -> AllP r.ob
 | r :: rs, h, q, hq, hn => by
   rcases List.mem_cons.1 hq with rfl | hq
   · have := (AllP.app h).1
     rwa [if_neg (by simpa using hn)] at this
   · exact obsButL_all (AllP.app h).2 q hq hn
 | [], _, _, hq, _ => by simp at hq
def xsOK (os : List Oper) (Xs ks : List Nat) (ts : Nat -> List Nat) : Bool :=
 (List.range os.length).all fun i => match os[i]? with
   | none => false
   | some o => if Xs.contains i then o.guard.isNone && aheadOK (setPsA 0 Xs os) o (ts i) else clear (setPsA 0 Xs os).toArray o ks
section
theorem Good.regXs (hm : P.follows .mixedOrders = true) (hT : TOK P T) (hK : KOK P K) {γ : Type} (Xs ks : List Nat) (ts : Nat -> List Nat) (ovl : γ -> List (Nat × AV)) (I : Array Bool -> γ -> Base -> Prop)
   (hc : c = .region (regId c) (regOps c) (regDraw c))
   (he : (aregionG T K (setPsA 0 Xs (regOps c).toList).toArray (regDraw c) ov st).map (fun r => (r.1.σ, r.1.h, obsButL Xs r.2)) = some (σ', h', ob)) (hob : AllP ob)
   (hok : xsOK (regOps c).toList Xs ks ts = true) (hXl : Xs.all (fun i => decide (i < (regOps c).size)) = true)
   (hks : ∀ L g β, I L g β -> ∀ p ∈ ovl g, p.1 ∈ ks)
   (hI : ∀ listed i g β, i ∉ Xs -> I listed g β -> I (listed.setIfInBounds i true) g β)
   (hX : ∀ i ∈ Xs, ∀ (Q : Exit -> Act -> World -> Prop) listed g β ρ D σ h a w V oX, (regOps c)[i]? = some oX -> oX.guard = none -> I listed g β -> listed.size = (regOps c).size -> listed.getD i false = false -> (∀ e ∈ oX.after.toList, Region.binds .any e = true -> listed.getD e.on false = true) -> (∀ t ∈ ts i, σ.getD t .any = σ'.getD t .any) -> σ.length = σ'.length ->
     Rel β.S β.C β.w ρ D ⟨lay (ovl g) σ, h⟩ a w -> wpOp P (regOps c) Q i (fun a' w' => ∃ g' β', I (listed.setIfInBounds i true) g' β' /\ Rel β'.S β'.C β'.w ρ D ⟨lay (ovl g') (put σ oX.dst V), h⟩ a' w') a w)
   (g0 : γ) (hB : I (Array.replicate (regOps c).size false) g0 ⟨S0, C0, w0⟩) (h0 : ovl g0 = [])
   (hgood : ∀ listed g β, (∀ i, i < (regOps c).size -> listed.getD i false = true) -> I listed g β -> Good P f β.S β.C β.w Post todo ⟨lay (ovl g) σ', h'⟩) : Good P f S0 C0 w0 Post (.code c :: todo) st := by
 obtain ⟨⟨st', rs⟩, h1, h2⟩ := Option.map_eq_some_iff.1 he; simp only [Prod.mk.injEq] at h2; obtain ⟨rfl, rfl, rfl⟩ := h2
 have hlen : ∀ (os : List Oper) (i : Nat), (setPsA i Xs os).length = os.length := by
   intro os
   induction os with
   | nil => intro i; rfl
   | cons o os ih => intro i; simp [setPsA, ih]
 have hsize : (setPsA 0 Xs (regOps c).toList).toArray.size = (regOps c).size := by simp [hlen]
 have hat : ∀ (i : Nat) (o : Oper), (regOps c)[i]? = some o -> (if Xs.contains i then o.guard.isNone && aheadOK (setPsA 0 Xs (regOps c).toList) o (ts i) else clear (setPsA 0 Xs (regOps c).toList).toArray o ks) = true := by
   intro i o hi; have hlt : i < (regOps c).toList.length := by simpa using (Array.getElem?_eq_some_iff.1 hi).1
   have := List.all_eq_true.1 hok i (List.mem_range.2 hlt)
   rwa [Array.getElem?_toList, hi] at this
 have hget : ∀ i, (setPsA 0 Xs (regOps c).toList).toArray[i]? = ((regOps c)[i]?).map fun o => if Xs.contains i then psOp o else o := by
   intro i; rw [List.getElem?_toArray, setPsA_get, Nat.zero_add, Array.getElem?_toList]
 have hsome : ∀ i ∈ Xs, ∃ o, (regOps c)[i]? = some o := by
   intro i hi
   have := List.all_eq_true.1 hXl i hi; exact ⟨_, Array.getElem?_eq_getElem (by simpa using this)⟩
 rw [hc]; refine Good.regionO (ops := (setPsA 0 Xs (regOps c).toList).toArray) (γ := γ) hm hT hK Xs ks ovl I (fun i => (ts i).map fun t => (t, st'.σ.getD t .any)) h1 (obsButL_all hob) (by simpa using setPsA_shape (regOps c).toList 0 Xs) (fun i hi => ?_) hks (fun i o hi ho => ?_) (fun i hi => ?_) hI (fun i hi p hp => ?_) (fun i hi Q listed g β ρ D σ h a w V oX k1 k2 k3 k4 k5 k6 k8 k7 => ?_) g0 (by rw [hsize]; exact hB) h0 (fun listed g β hl => hgood listed g β (by rw [hsize] at hl; exact hl))
 · rw [hget, show Xs.contains i = false by simpa using hi]
   cases (regOps c)[i]? <;> rfl
 · rw [hget, show Xs.contains i = false by simpa using hi] at ho
   cases hr : (regOps c)[i]? with
   | none => rw [hr] at ho; cases ho
   | some o' =>
     rw [hr] at ho; simp at ho; subst ho
     have := hat i o' hr
     rwa [show Xs.contains i = false by simpa using hi] at this
 · obtain ⟨o, ho⟩ := hsome i hi
   have h3 := hat i o ho; rw [show Xs.contains i = true by simpa using hi, if_pos rfl, Bool.and_eq_true] at h3; refine ⟨o, ho, by simpa using h3.1, ?_⟩; rw [hget, ho]; simp [hi, psOp]
 · obtain ⟨t, ht, rfl⟩ := List.mem_map.1 hp
   refine ⟨rfl, fun j o hj hd oX hoX => ?_⟩; obtain ⟨o2, ho2⟩ := hsome i hi; have h3 := hat i o2 ho2; rw [show Xs.contains i = true by simpa using hi, if_pos rfl, Bool.and_eq_true] at h3; rw [hget, ho2] at hoX; simp [hi] at hoX
   have := aheadOK_spec h3.2 t ht j o (by simpa using hj) hd; rw [<- hoX]; exact this
 · have h3 := hat i oX k1
   rw [show Xs.contains i = true by simpa using hi, if_pos rfl, Bool.and_eq_true] at h3; exact hX i hi Q listed g β ρ D σ h a w V oX k1 (by simpa using h3.1) k2 (by rw [<- hsize]; exact k3) k4 k5 (fun t ht => k6 (t, st'.σ.getD t .any) (List.mem_map.2 ⟨t, ht, rfl⟩)) k8 k7
end
abbrev wideR (ro : Option Nat) : Fence := { Fence.wide with round := ro }
section
variable {P : Program} {ops : Array Oper} {Q Q' : Exit -> Act -> World -> Prop} {n : Nat} {ro : Option Nat}
def noDefer (o : Oper) : Bool := match o.op with
 | .defer _ => false
 | _ => true
theorem noDefer_spec (h : noDefer o = true) : ∀ c, o.op ≠ .defer c := by
 intro c e; rw [noDefer, e] at h; cases h
theorem wp_in (hd : noDefer o = true) (hK : ∀ a w, K a w -> K' a w) (hQ : ∀ e a w, Q e a w -> Q' e a w) (h : o.wp P a w K Q) :
   o.wpIn (wideR ro) n P a w K' Q' := by
 refine ⟨fun _ _ => trivial, ?_⟩; have e : o.semAt ro a.eval = execOp a.eval o := Oper.semAt_eq ro a.eval o (noDefer_spec hd); have e' : o.semAt (wideR ro).round a.eval = execOp a.eval o := e; rw [e']; unfold Oper.wp at h; generalize (execOp a.eval o).run P w = r at *; cases r with
 | ok x w' =>
   cases x with
   | value v => exact hK _ _ h
   | skip => exact hK _ _ h
   | defer d => exact hK _ _ h
   | enter f args =>
     refine ⟨fun h => by simp [Fence.wide] at h, ?_⟩; have hc : CallsIn Fence.wide (n - 1) P f args w' _ := callsIn_wide.2 h; refine CallsIn.mono (F := wideR ro) hc ?_; intro e w'' he; cases e with
     | returned v => exact hK _ _ he
     | panicked c => exact hQ _ _ _ he
     | outgrown => obtain ⟨a, w, he⟩ := he; exact ⟨a, w, hQ _ _ _ he⟩
   | row row args =>
     refine ⟨fun h => by simp [Fence.wide] at h, fun c cs _ => ?_⟩; obtain ⟨v, w'', h1, h2⟩ := h c cs; exact ⟨v, w'', hK _ _ h1, stepsIn_wide.2 h2⟩
   | round l f t as_ bo => exact h.elim
   | _ => exact h.elim
 | halt x w' =>
   cases x <;> simp only [Oper.upon, Oper.uponIn] at h ⊢ <;> first | exact hQ _ _ _ h | exact h
theorem wpOp_in (hd : ∀ o ∈ ops, noDefer o = true) (hL : ¬ LetsOut Q) (hK : ∀ a w, K a w -> K' a w) (hQ : ∀ e a w, Q e a w -> Q' e a w) (h : wpOp P ops Q i K a w) :
   wpOpIn (wideR ro) n P ops Q' i K' a w := by
 unfold wpOp at h; unfold wpOpIn; cases ho : ops[i]? with
 | none => rw [ho] at h; exact hK _ _ h
 | some o =>
   rw [ho] at h
   have hm : o ∈ ops := by
     obtain ⟨hi, e⟩ := Array.getElem?_eq_some_iff.1 ho; exact e ▸ Array.getElem_mem hi
   simp only at h ⊢
   split
   · rename_i hw
     rw [if_pos hw] at h; rcases h with h | h
     · exact wp_in (hd o hm) hK hQ h
     · exact (hL h.2).elim
   · rename_i hw
     rw [if_neg hw] at h; exact ⟨fun _ _ => trivial, hK _ _ h⟩
theorem wpOps_in (hd : ∀ o ∈ ops, noDefer o = true) (hL : ¬ LetsOut Q) (hQ : ∀ e a w, e ≠ .normal -> Q e a w -> Q' e a w) (l2 : List Nat) (hN : ∀ a w, Q .normal a w -> wpOpsIn (wideR ro) n P ops Q' l2 a w) :
   ∀ (l1 : List Nat) (a : Act) (w : World), wpOps P ops Q l1 a w -> (∀ e a w, e ≠ .normal -> ¬ Q e a w) -> wpOpsIn (wideR ro) n P ops Q' (l1 ++ l2) a w
 | [], a, w, h, _ => hN a w h
 | i :: l1, a, w, h, hx => by
   rw [wpOps_cons] at h; rw [List.cons_append, wpOpsIn_cons]; have h2 := wpOp_in (ro := ro) (n := n) (Q' := fun e a w => Q e a w) (K' := wpOpsIn (wideR ro) n P ops Q' (l1 ++ l2)) hd hL (fun a w h => wpOps_in hd hL hQ l2 hN l1 a w h hx) (fun _ _ _ h => h) h; unfold wpOpIn at h2 ⊢; cases ho : ops[i]? with
   | none => rw [ho] at h2; exact h2
   | some o =>
     rw [ho] at h2; simp only at h2 ⊢
     split
     · rename_i hw
       rw [if_pos hw] at h2; refine ⟨h2.1, ?_⟩; have h3 := h2.2; generalize (o.semAt (wideR ro).round a.eval).run P w = r at *; cases r with
       | ok x w' =>
         cases x <;> simp only [Oper.uponIn] at h3 ⊢ <;>
           first
           | exact h3
           | exact ⟨h3.1, CallsIn.mono h3.2 (fun e w'' he => by cases e <;> first | exact he | exact (hx _ _ _ (by simp) he).elim | exact (hL he).elim)⟩
           | exact ⟨h3.1, RoundIn.mono h3.2 (fun e w'' he => by cases e <;> first | exact he | exact (hx _ _ _ (by simp) he).elim | exact (hL he).elim)⟩
       | halt x w' => cases x <;> simp only [Oper.uponIn] at h3 ⊢ <;> first | exact (hx _ _ _ (by simp) h3).elim | exact h3
     · rename_i hw
       rw [if_neg hw] at h2; exact h2
theorem wpAny_in (hd : ∀ o ∈ ops, noDefer o = true) (hL : ¬ LetsOut Q) {md : Region.Mode} : ∀ (fuel : Nat) (listed : Array Bool) (a : Act) (w : World), wpAny P md ops Q fuel listed a w -> wpAnyIn (wideR ro) n P md ops Q fuel listed a w
 | 0, listed, a, w, h => h
 | fuel + 1, listed, a, w, h => ⟨h.1, fun i hi => wpOp_in hd hL (fun a w h => wpAny_in hd hL fuel _ a w h) (fun _ _ _ h => h) (h.2 i hi)⟩
end
section
variable {P : Program} {S0 C0 : Nat -> Prop} {w0 : World} {ρ : Nat -> Nat} {D : Nat -> Prop} {st : St} {a : Act} {w : World} {T : TT} {K : KT} {n : Nat} {ro : Option Nat}
theorem region_in (hm : P.follows .mixedOrders = true) (hT : TOK P T) (hK : KOK P K) (R : Rel S0 C0 w0 ρ D st a w) {id : Nat} {ops : Array Oper} {draw : Bool} {ov ov' : Ovs} {st' : St} {ob : List Prop} (hd : ops.all noDefer = true)
   (he : aregion T K ops draw ov st = some (st', ob, ov')) (ho : AllP ob) {Q : Exit -> Act -> World -> Prop} (hQ : ∀ ρ' D' a' w', Rel S0 C0 w0 ρ' D' st' a' w' -> Q .normal a' w') :
   (Code.region id ops draw).wpIn (wideR ro) n P Q a w := by
 have hd' : ∀ o ∈ ops, noDefer o = true := by
   intro o ho; obtain ⟨i, hi, e⟩ := Array.mem_iff_getElem.1 ho; exact e ▸ Array.all_eq_true.1 hd i hi
 suffices hs : (Code.region id ops draw).wpIn (wideR ro) n P (fun e a' w' => e = Exit.normal /\ ∃ ρ' D', Rel S0 C0 w0 ρ' D' st' a' w') a w by
   intro b k cs hro hb hr; obtain ⟨e, a', w', ⟨rfl, ρ', D', R'⟩, harr⟩ := hs b k cs hro hb hr; exact ⟨_, _, _, hQ _ _ _ _ R', harr⟩
 clear hQ; unfold aregion at he
 split at he
 · rename_i st2 rs hrun
   have R1 := R.more (news ops.toList); obtain ⟨hnid, hap⟩ := annot_nid ops.toList 0 ov st.h.length
   have hpend : Pend D (st.h ++ List.replicate (news ops.toList) none) (annot 0 ops.toList ov st.h.length) := by
     refine ⟨fun p hp hn => ?_, hap⟩; obtain ⟨h1, h2⟩ := hnid p hp hn; refine ⟨?_, fun h => ?_⟩
     · rw [List.getElem?_append_right h1, List.getElem?_replicate, if_pos (by omega)]
     · have := R.dlt _ h; omega
   have hops : ∀ p ∈ annot 0 ops.toList ov st.h.length, ops[p.1]? = some p.2.o := by
     intro p hp; obtain ⟨k, h1, h2⟩ := annot_mem _ _ _ _ p hp; rw [h1, Nat.zero_add]; simpa using h2
   have hL : ¬ LetsOut (fun e a' w' => e = Exit.normal /\ ∃ ρ' D', Rel S0 C0 w0 ρ' D' st2 a' w') := by
     rintro ⟨_, _, h, _⟩; cases h
   have hfin : ∀ ρ' D' a' w', Rel S0 C0 w0 ρ' D' st2 a' w' -> (fun e a' w' => e = Exit.normal /\ ∃ ρ' D', Rel S0 C0 w0 ρ' D' st2 a' w') .normal a' w' := fun ρ' D' a' w' h => ⟨rfl, ρ', D', h⟩
   cases draw with
   | false =>
     simp only [Bool.false_eq_true, if_false] at he; injection he with he; simp only [Prod.mk.injEq] at he; obtain ⟨rfl, rfl, rfl⟩ := he; refine wpIn_region ?_
     have := arun_seq (P := P) (ops := ops) (Q := fun e a' w' => e = Exit.normal /\ ∃ ρ' D', Rel S0 C0 w0 ρ' D' st2 a' w') hT hK _ ρ D _ _ a w rs R1 hpend hops hrun (obsOf_all rs ho) hfin; rw [annot_fst] at this; rw [List.range_eq_range']; have h2 := wpOps_in (ro := ro) (n := n) (Q' := fun e a' w' => e = Exit.normal /\ ∃ ρ' D', Rel S0 C0 w0 ρ' D' st2 a' w') hd' hL (fun _ _ _ _ h => h) [] (fun a w h => h) _ a w this (fun e a w hn h => hn h.1); simpa using h2
   | true =>
     simp only [if_true] at he
     split at he
     · rename_i hc
       rw [Bool.and_eq_true] at hc; injection he with he; simp only [Prod.mk.injEq] at he; obtain ⟨rfl, rfl, rfl⟩ := he; refine wpIn_region_any hm (wpAny_in hd' hL _ _ _ _ ?_); refine any_order (P := P) hT hK hc.1 hfin ops.size _ (annot 0 ops.toList ov st.h.length) rs ⟨st.σ, st.h ++ List.replicate (news ops.toList) none⟩ a _ ρ D (by rw [annot_length]; simp) ?_
       exact {
         rel := R1.draw
         run := hrun
         obs := obsOf_all rs ho
         pend := hpend
         size := by simp
         mem := fun i hi => ⟨fun _ => by have := annot_all ops.toList 0 ov st.h.length i (by simpa using hi); simpa using this, fun _ => by simp [Array.getD, hi]⟩
         sorted := annot_sorted _ _ _ _
         ops_ := hops
         closed := fun k o hk hl => by
           have := (Array.getElem?_eq_some_iff.1 hk).1; simp [Array.getD, this] at hl
         pairs := pairsOK_spec hc.2 }
     · cases he
 · cases he
def OwnB (ρ : Nat -> Nat) (h : List (Option ABlk)) : Nat -> Prop := fun k => ∃ l b, h[l]? = some (some b) /\ ρ l = k
theorem Rel.turnW (R : Rel S0 C0 w0 ρ D ⟨σ, h⟩ a w) (hsz : w.heap.size <= w'.heap.size)
   (hheap : ∀ k, k < w.heap.size -> ¬ S0 k -> w'.heap[k]? = w.heap[k]?) (hrow : ∀ (k : Nat) (arr : Array Value) (ty : TypeId), w.heap[k]? = some (Obj.cells arr ty (0, 0)) -> w'.heap[k]? = w.heap[k]?)
   (hS : ∀ k, k < w.heap.size -> S' k -> S0 k) (hS2 : ∀ k, S' k -> k < w'.heap.size)
   (hmine : ∀ k, ¬ S0 k -> (C0 k \/ w0.heap.size <= k) -> OwnB ρ h k -> (C' k \/ w1.heap.size <= k)) (hchg : Chg C' w1 w')
   (hd : a'.defers = []) (hl : a'.tmps.size = σ'.length) (ht : ∀ t v, a'.tmps[t]? = some v -> RelV ρ (Sof S0 ρ h) w D (σ'.getD t .any) v) : Rel S' C' w1 ρ D ⟨σ', h⟩ a' w' := by
 have hm : ∀ l b, h[l]? = some (some b) -> ¬ S0 (ρ l) := fun l b hb => (R.mine l b hb).2.1
 have hlt : ∀ l b, h[l]? = some (some b) -> ρ l < w.heap.size := fun l b hb => R.Slt (.inr ⟨l, b, hb, rfl⟩)
 have hk : ∀ D', Keep ρ (Sof S0 ρ h) w D' ρ (Sof S' ρ h) w' := fun D' => by
   refine ⟨hsz, fun i hi => ⟨rfl, fun arr ty hc => ⟨arr, ty, by rw [hrow _ _ _ hc]; exact hc, Nat.le_refl _⟩⟩, fun k hk hs => ⟨?_, hheap k hk fun h => hs (.inl h)⟩⟩; rintro (hs' | hs')
   · exact hs (.inl (hS k hk hs'))
   · exact hs (.inr hs')
 exact {
   defers := hd
   len := hl
   tmps := fun t v hv => (ht t v hv).keep (fun _ h => h) (hk D)
   heap := fun l b hb => ⟨(R.heap l b hb).1, (R.heap l b hb).2.keep (fun _ h => h) (hk D) rfl (hheap _ (hlt l b hb) (hm l b hb))⟩
   inj := R.inj
   lt := hS2
   dlt := R.dlt
   chg := hchg
   mine := fun l b hb => by
     obtain ⟨h1, h2, h3⟩ := R.mine l b hb
     refine ⟨hmine _ h2 h1 ⟨l, b, hb, rfl⟩, fun hs => h2 (hS _ (hlt l b hb) hs), h3⟩ }
theorem Rel.carry (R : Rel S0 C0 w0 ρ D st a w) (hC : ∀ k, C0 k -> Sx k) (hS : ∀ k, S0 k -> Sx k) (hnt : notTup V = true) (hn : noRefV V = true) (hv : RelV ρx Sx w0 Dx V v) :
   RelV ρ (Sof S0 ρ st.h) w D V v := by
 have h1 : RelV0 ρx Sx w0 No V v := by
   exact RelV0.noRef hv hn ρx
 have hk : Keep ρx Sx w0 No ρ (Sof S0 ρ st.h) w := by
   refine ⟨R.chg.size, fun i hi => hi.elim, fun k hk hs => ⟨?_, R.chg.block k hk fun h => hs (hC k h)⟩⟩; rintro (h | ⟨l, b, hb, rfl⟩)
   · exact hs (hS k h)
   · rcases (R.mine l b hb).1 with h | h
     · exact hs (hC _ h)
     · omega
 exact RelV.of0 (h1.keep (fun _ h => h.elim) hk)
theorem Rel.ptrPin (R : Rel S0 C0 w0 ρ D st a w) (hl : st.h[l]? = some (some b)) (hp : b.pin = some k) : RelV ρ (Sof S0 ρ st.h) w D (.ptr l b.e i o) (.pointer (some ⟨k, i * b.e + o, none⟩)) := by
 have hk := (R.mine l b hl).2.2 k hp; rw [<- hk]; exact RelCs.ptr (R.heap l b hl).1 .done
end
end Go.Av
namespace Go.Av
open Go.Proofs Go.RowKit
def k36 : KF
 | [.agg [.q px B, .q pz D], .agg [.q qx C, .q qz E]] => some (.agg [.q (px + qx) (B + C + 2), .q (pz + qz) (D + E + 2)], [B + D + C + E + 300 <= LIM])
 | _ => none
theorem a36 : Ctr 36 k36 := by
 refine ctr Tryz.f36 fun _ _ _ S w0 h ho => ?_
 unfold k36 at h; split at h <;> cases h; rename_i px B pz D qx C qz E; have o1 := ho.one; have L := limE; have K := kn.cons a26; exact rR K [] (.a2 (om (B + C + 200 <= LIM)) (om (D + E + 200 <= LIM)))
def k37 : KF
 | [.agg [.q px B, .q pz D], .agg [.q c C, .q s E]] => some (.agg [.q (c * px - s * pz) (B + D + C + E + 6), .q (s * px + c * pz) (B + D + C + E + 6)], [B + D + C + E + 300 <= LIM])
 | _ => none
theorem a37 : Ctr 37 k37 := by
 refine ctr Tryz.f37 fun _ _ _ S w0 h ho => ?_
 unfold k37 at h; split at h <;> cases h; rename_i px B pz D c C s E; have o1 := ho.one; have L := limE; have K := ((kn.cons a29).cons a28).cons a26; exact rV K [] (.c6 (om (C + B + 200 <= LIM)) (om (E + D + 200 <= LIM)) (om ((C + B + 2) + (E + D + 2) + 200 <= LIM)) (om (E + B + 200 <= LIM)) (om (C + D + 200 <= LIM)) (om ((E + B + 2) + (C + D + 2) + 200 <= LIM)) (.a2 (om ((C + B + 2) + (E + D + 2) + 2 <= B + D + C + E + 6)) (om ((E + B + 2) + (C + D + 2) + 2 <= B + D + C + E + 6))))
def k119 : KF
 | [.agg [.q ax A, .q az D, .q c C, .q s E], .agg [.q px B, .q pz F]] => some (.agg [.q (ax + (c * px - s * pz)) (A + (B + F + C + E + 6) + 2), .q (az + (s * px + c * pz)) (D + (B + F + C + E + 6) + 2)], [A + D + 2 * B + 2 * F + 2 * C + 2 * E + 400 <= LIM])
 | _ => none
theorem a119 : Ctr 119 k119 := by
 refine ctr Tryz.f119 fun _ _ _ S w0 h ho => ?_
 unfold k119 at h; split at h <;> cases h; rename_i ax A az D c C s E px B pz F; have o1 := ho.one; have L := limE; have K := (kn.cons a37).cons a36; exact rR K [] (.a2 (om (B + F + C + E + 300 <= LIM)) (om (A + D + (B + F + C + E + 6) + (B + F + C + E + 6) + 300 <= LIM)))
def k116 : KF
 | [.agg [.q x B], .agg [.q y C]] => some (.agg [.q (x / y) (B + C + 2)], [B + C + 200 <= LIM, y ≠ 0])
 | _ => none
theorem a116 : Ctr 116 k116 := by
 refine ctr Tryz.f116 fun _ _ _ S w0 h ho => ?_
 unfold k116 at h; split at h <;> cases h; rename_i x B y C; obtain ⟨o1, o2⟩ := ho.e2; have L := limE; have K := (((kn.cons a115).cons a112).cons a111).cons a109; refine rF K [] (.a6 (om (max C 64 + 1 <= LIM)) (om (B + (C + 1) + 128 <= LIM)) (om (max B 64 + 1 <= LIM)) (om ((B + 1) + C + 128 <= LIM)) (show 0 < (x.den * y.num.natAbs) by exact Nat.mul_pos x.den_pos (Int.natAbs_pos.2 fun h => o2 (Rat.num_eq_zero.1 h))) (om (max (B + (C + 1)) ((B + 1) + C) + 128 <= LIM))) (V := .agg [.q (mkRat (sgn (!((decide (x.num < 0)) == (decide (y.num < 0)))) (x.num.natAbs * y.den)) (x.den * y.num.natAbs)) (max (B + (C + 1)) ((B + 1) + C))]) ?_
 refine Ref.q1 ?_ (by omega); rw [neq_xor, div_mk x y o2]
def k108 : KF
 | [.agg [.z n B]] => some (.agg [.q (n : Rat) B], [])
 | _ => none
theorem a108 : Ctr 108 k108 := by
 refine ctr Tryz.f108 fun _ _ _ S w0 h ho => ?_
 unfold k108 at h; split at h <;> cases h; rename_i n B; exact rF .nil [] .nil (V := .agg [.z n B, .nat 0 0]) (Ref.agg (RefC.mkq (rl _) (Nat.zero_le _) rfl rfl))
def k25 : KF
 | [.int .i64 n] => some (.agg [.q (n : Rat) 64], [(-9223372036854775808 : Int) <= n, n <= (9223372036854775807 : Int)])
 | _ => none
theorem a25 : Ctr 25 k25 := by
 refine ctr Tryz.f25 fun _ _ _ S w0 h ho => ?_
 unfold k25 at h; split at h <;> cases h; rename_i n; obtain ⟨o1, o2⟩ := ho.e2; have K := ((kn.cons a110).cons a109).cons a108; exact rF K [] (.a2 o1 o2) (V := .agg [.q ((sgn (decide (n < (0 : Int))) n.natAbs) : Rat) 64]) (Ref.q1 (congrArg _ (sgn_self n)) (rl _))
theorem sq_nonneg (t : Rat) : 0 <= t * t := by
 rcases Rat.nonneg_total t with h | h
 · exact Rat.mul_nonneg h h
 · have := Rat.mul_nonneg h h
   rwa [Rat.neg_mul, Rat.mul_neg, Rat.neg_neg] at this
theorem one_sq (t : Rat) : (1 : Rat) + t * t ≠ 0 := by
 have := sq_nonneg t
 grind
def k38 : KF
 | [.agg [.q t B]] => some (.agg [.q ((1 - t * t) / (1 + t * t)) (4 * B + 200), .q ((t + t) / (1 + t * t)) (4 * B + 200)], [4 * B + 800 <= LIM])
 | _ => none
theorem a38 : Ctr 38 k38 := by
 refine ctr Tryz.f38 fun _ _ _ S w0 h ho => ?_
 unfold k38 at h; split at h <;> cases h; rename_i t B; have o1 := ho.one; have L := limE; have K := ((((kn.cons a116).cons a29).cons a28).cons a26).cons a25; have v0 : ((1 : Rat) + (t * t)) ≠ 0 := by exact one_sq t
 have v1 : (-9223372036854775808 : Int) <= 1 := by decide
 have v2 : 1 <= (9223372036854775807 : Int) := by decide
 have v3 : 64 + (B + B + 2) + 200 <= LIM := by omega
 exact rV K [] (.c6 (om (B + B + 200 <= LIM)) v1 v2 v3 v1 v2 (.c6 v3 (om ((64 + (B + B + 2) + 2) + (64 + (B + B + 2) + 2) + 200 <= LIM)) v0 (om (B + B + 200 <= LIM)) (om ((B + B + 2) + (64 + (B + B + 2) + 2) + 200 <= LIM)) v0 (.a2 (om ((64 + (B + B + 2) + 2) + (64 + (B + B + 2) + 2) + 2 <= 4 * B + 200)) (om ((B + B + 2) + (64 + (B + B + 2) + 2) + 2 <= 4 * B + 200)))))
def k94 : KF
 | [.agg [.q c B, .q s D], .agg [.q e C, .q t E]] => some (.agg [.q (c * e - s * t) (C + E + B + D + 6), .q (s * e + c * t) (C + E + B + D + 6)], [C + E + B + D + 300 <= LIM])
 | _ => none
theorem a94 : Ctr 94 k94 := by
 refine ctr Tryz.f94 fun _ _ _ S w0 h ho => ?_
 unfold k94 at h; split at h <;> cases h; rename_i c B s D e C t E; have o1 := ho.one; have K := kn.cons a37; exact rR K [] (.a1 o1)
noncomputable abbrev n209T0 : List Item := [.code (nav [1, 0, 1] (bodyOf Tryz.f209)), .code (nav [1, 1] (bodyOf Tryz.f209))]
def KT209_ok := ((kn.cons a119).cons a94).cons a38
abbrev n209_0 : ABlk := ⟨175, 12, false, [[.q 0 0, .q 0 0, .q 0 0, .q 0 0]], none⟩
abbrev n209_1 (r : Nat) (m : MachD) (jb : Nat) (p : PoseD) : List AV := [.cptr [.lit (.map (some r))] 0, AV.any, .cptr (unMach 300 m) 0, .cptr (unPose jb p) 0]
abbrev n209_2 : AV := (.tup [.agg [.q 0 0, .q 0 0, .q 0 0, .q 0 0], .bool false])
abbrev n209_3 (ff : Func) : List Item := [.code (nav [1, 0, 0] (bodyOf ff)), .code (nav [1, 0, 1] (bodyOf ff)), .code (nav [1, 1] (bodyOf ff))]
section
variable {S0 C0 : Nat -> Prop} {w0 : World} {Post : Value -> World -> Prop}
theorem x209_hit {B B' : Base -> Prop} (i r jb : Nat) (m : MachD) (p : PoseD) (clo : AV) (s : Nat) (f : FrameD)
   (hB : B ⟨S0, C0, w0⟩) (hX : ∀ (Q : Exit -> Act -> World -> Prop) β ρ D σ h a w, B β -> Rel β.S β.C β.w ρ D ⟨σ, h⟩ a w -> (∀ τ ∈ [11, 12], σ.getD τ .any = (slots 50 [(0, .i6 (i : Int)), (1, (.cptr [(.lit (.map (some r)))] 0)), (2, clo), (3, .cptr (unMach 300 m) 0), (4, (.cptr [(.q p.at_.x jb), (.q p.at_.z jb), (.q p.turn jb), (.list 3 (p.joints.map (unQ jb)))] 0)), (6, .ptr 0 12 0 0), (7, .ptr 1 12 0 0), (8, .bool true), (10, (.tup [(.agg [(.q f.at_.x (2 * s)), (.q f.at_.z (2 * s)), (.q f.c s), (.q f.s s)]), (.bool true)])), (11, .lit (.map (some r))), (12, .i6 (i : Int)), (13, (.tup [(.agg [(.q f.at_.x (2 * s)), (.q f.at_.z (2 * s)), (.q f.c s), (.q f.s s)]), (.bool true)])), (14, .agg [(.q f.at_.x (2 * s)), (.q f.at_.z (2 * s)), (.q f.c s), (.q f.s s)]), (15, .bool true)]).getD τ .any) -> wpOp Tryz.prog (regOps (nav [1, 0, 0] (bodyOf Tryz.f209))) Q 2 (fun a' w' => ∃ β', B' β' /\ Rel β'.S β'.C β'.w ρ D ⟨put σ (some 13) (.tup [.agg (unF s f), .bool true]), h⟩ a' w') a w)
   (hg : ∀ β, B' β -> Good Tryz.prog 209 β.S β.C β.w Post n209T0 ⟨slots 50 [(0, .i6 (i : Int)), (1, .cptr [.lit (.map (some r))] 0), (2, clo), (3, .cptr (unMach 300 m) 0), (4, .cptr (unPose jb p) 0), (6, .ptr 0 12 0 0), (7, .ptr 1 12 0 0), (8, .bool true), (10, .tup [.agg (unF s f), .bool true]), (11, .lit (.map (some r))), (12, .i6 (i : Int)), (13, .tup [.agg (unF s f), .bool true]), (14, .agg (unF s f)), (15, .bool true)], [some (n209_0), some ⟨175, 12, false, [(unF s f)], none⟩]⟩) :
   Good Tryz.prog 209 S0 C0 w0 Post (n209_3 Tryz.f209) ⟨slots 50 [(0, .i6 (i : Int)), (1, .cptr [.lit (.map (some r))] 0), (2, clo), (3, .cptr (unMach 300 m) 0), (4, .cptr (unPose jb p) 0), (6, .ptr 0 12 0 0)], [some (n209_0)]⟩ :=
 Good.regX mixed TT0_ok KT209_ok 2 (c := nav [1, 0, 0] (bodyOf Tryz.f209)) (oX := ((regOps (nav [1, 0, 0] (bodyOf Tryz.f209))).toList[2]?).getD default) (dX := some 13) (V := (.tup [.agg (unF s f), .bool true])) (ov := [(13, (.tup [.agg (unF s f), .bool true]))]) (ob := []) [11, 12] (by kernel_rfl) (by kernel_rfl) (by kernel_rfl) (by kernel_rfl) (by kernel_rfl)
   (AllP.nil) (Or.inr (by kernel_rfl)) (by kernel_rfl) hX hB hg
theorem x209_miss {B B' : Base -> Prop} (i r jb : Nat) (m : MachD) (p : PoseD) (clo : AV)
   (hB : B ⟨S0, C0, w0⟩) (hX : ∀ (Q : Exit -> Act -> World -> Prop) β ρ D σ h a w, B β -> Rel β.S β.C β.w ρ D ⟨σ, h⟩ a w -> (∀ τ ∈ [11, 12], σ.getD τ .any = (slots 50 [(0, .i6 (i : Int)), (1, (.cptr [(.lit (.map (some r)))] 0)), (2, clo), (3, .cptr (unMach 300 m) 0), (4, (.cptr [(.q p.at_.x jb), (.q p.at_.z jb), (.q p.turn jb), (.list 3 (p.joints.map (unQ jb)))] 0)), (6, .ptr 0 12 0 0), (7, .ptr 1 12 0 0), (8, .bool false), (10, .tup [(.agg [(.q 0 0), (.q 0 0), (.q 0 0), (.q 0 0)]), (.bool false)]), (11, .lit (.map (some r))), (12, .i6 (i : Int)), (13, .tup [(.agg [(.q 0 0), (.q 0 0), (.q 0 0), (.q 0 0)]), (.bool false)]), (14, .agg [(.q 0 0), (.q 0 0), (.q 0 0), (.q 0 0)]), (15, .bool false)]).getD τ .any) -> wpOp Tryz.prog (regOps (nav [1, 0, 0] (bodyOf Tryz.f209))) Q 2 (fun a' w' => ∃ β', B' β' /\ Rel β'.S β'.C β'.w ρ D ⟨put σ (some 13) (n209_2), h⟩ a' w') a w)
   (hg : ∀ β, B' β -> Good Tryz.prog 209 β.S β.C β.w Post n209T0 ⟨slots 50 [(0, .i6 (i : Int)), (1, .cptr [.lit (.map (some r))] 0), (2, clo), (3, .cptr (unMach 300 m) 0), (4, .cptr (unPose jb p) 0), (6, .ptr 0 12 0 0), (7, .ptr 1 12 0 0), (8, .bool false), (10, (n209_2)), (11, .lit (.map (some r))), (12, .i6 (i : Int)), (13, (n209_2)), (14, .agg [.q 0 0, .q 0 0, .q 0 0, .q 0 0]), (15, .bool false)], [some (n209_0), some (n209_0)]⟩) :
   Good Tryz.prog 209 S0 C0 w0 Post (n209_3 Tryz.f209) ⟨slots 50 [(0, .i6 (i : Int)), (1, .cptr [.lit (.map (some r))] 0), (2, clo), (3, .cptr (unMach 300 m) 0), (4, .cptr (unPose jb p) 0), (6, .ptr 0 12 0 0)], [some (n209_0)]⟩ :=
 Good.regX mixed TT0_ok KT209_ok 2 (c := nav [1, 0, 0] (bodyOf Tryz.f209)) (oX := ((regOps (nav [1, 0, 0] (bodyOf Tryz.f209))).toList[2]?).getD default) (dX := some 13) (V := (n209_2)) (ov := [(13, (n209_2))]) (ob := []) [11, 12] (by kernel_rfl) (by kernel_rfl) (by kernel_rfl) (by kernel_rfl) (by kernel_rfl)
   (AllP.nil) (Or.inr (by kernel_rfl)) (by kernel_rfl) hX hB hg
theorem x209_call {B B' : Base -> Prop} (i r jb : Nat) (m : MachD) (p : PoseD) (v : BodyD) (s : Nat) (f : FrameD) (o : (Ref (.cptr ((m.bodies.map (unBody 300)).getD i []) 0) (.cptr (unBody 300 v) 0)) /\ ((i : Int) < ((m.bodies.map (unBody 300)).length : Int)))
   (hB : B ⟨S0, C0, w0⟩) (hX : ∀ (Q : Exit -> Act -> World -> Prop) β ρ D σ h a w, B β -> Rel β.S β.C β.w ρ D ⟨σ, h⟩ a w -> (∀ τ ∈ [18, 24], σ.getD τ .any = (slots 50 [(0, .i6 (i : Int)), (1, (.cptr [(.lit (.map (some r)))] 0)), (2, (.cptr [(.fn 209 [(.cptr [(.lit (.map (some r)))] 0), .any, (.cptr (unMach 300 m) 0), (.cptr [(.q p.at_.x jb), (.q p.at_.z jb), (.q p.turn jb), (.list 3 (p.joints.map (unQ jb)))] 0)])] 0)), (3, .cptr (unMach 300 m) 0), (4, (.cptr [(.q p.at_.x jb), (.q p.at_.z jb), (.q p.turn jb), (.list 3 (p.joints.map (unQ jb)))] 0)), (6, .ptr 0 12 0 0), (9, .ptr 1 12 0 0), (18, (.fn 209 [(.cptr [(.lit (.map (some r)))] 0), .any, (.cptr (unMach 300 m) 0), (.cptr [(.q p.at_.x jb), (.q p.at_.z jb), (.q p.turn jb), (.list 3 (p.joints.map (unQ jb)))] 0)])), (19, .cptr (unMach 300 m) 1), (20, .list 27 (m.bodies.map (unBody 300))), (21, .i6 (i : Int)), (22, (.cptr [(.str v.name), (.i6 v.par), (.q v.at_.x 300), (.q v.at_.z 300), (.q v.ma 300), (.q v.inr 300), (.q v.c.x 300), (.q v.c.z 300), (.q v.low 300), (.q v.high 300), (.list 6 (v.shape.map (unP 300)))] 0)), (23, (.cptr [(.str v.name), (.i6 v.par), (.q v.at_.x 300), (.q v.at_.z 300), (.q v.ma 300), (.q v.inr 300), (.q v.c.x 300), (.q v.c.z 300), (.q v.low 300), (.q v.high 300), (.list 6 (v.shape.map (unP 300)))] 1)), (24, .i6 v.par), (25, .agg [(.q f.at_.x (2 * s)), (.q f.at_.z (2 * s)), (.q f.c s), (.q f.s s)])]).getD τ .any) -> wpOp Tryz.prog (regOps (nav [1, 1, 0] (bodyOf Tryz.f209))) Q 7 (fun a' w' => ∃ β', B' β' /\ Rel β'.S β'.C β'.w ρ D ⟨put σ (some 25) (.agg (unF s f)), h⟩ a' w') a w)
   (hg : ∀ β, B' β -> Good Tryz.prog 209 β.S β.C β.w Post [.code (nav [1, 1, 1] (bodyOf Tryz.f209))] ⟨slots 50 [(0, .i6 (i : Int)), (1, .cptr [.lit (.map (some r))] 0), (2, .cptr [.fn 209 (n209_1 r m jb p)] 0), (3, .cptr (unMach 300 m) 0), (4, .cptr (unPose jb p) 0), (6, .ptr 0 12 0 0), (9, .ptr 1 12 0 0), (18, .fn 209 (n209_1 r m jb p)), (19, .cptr (unMach 300 m) 1), (20, .list 27 (m.bodies.map (unBody 300))), (21, .i6 (i : Int)), (22, .cptr (unBody 300 v) 0), (23, .cptr (unBody 300 v) 1), (24, .i6 v.par), (25, .agg (unF s f))], [some (n209_0), some ⟨175, 12, false, [(unF s f)], none⟩]⟩) :
   Good Tryz.prog 209 S0 C0 w0 Post [.code (nav [1, 1, 0] (bodyOf Tryz.f209)), .code (nav [1, 1, 1] (bodyOf Tryz.f209))] ⟨slots 50 [(0, .i6 (i : Int)), (1, .cptr [.lit (.map (some r))] 0), (2, .cptr [.fn 209 (n209_1 r m jb p)] 0), (3, .cptr (unMach 300 m) 0), (4, .cptr (unPose jb p) 0), (6, .ptr 0 12 0 0)], [some (n209_0)]⟩ :=
 Good.regX mixed TT0_ok KT209_ok 7 (c := nav [1, 1, 0] (bodyOf Tryz.f209)) (oX := ((regOps (nav [1, 1, 0] (bodyOf Tryz.f209))).toList[7]?).getD default) (dX := some 25) (V := (.agg (unF s f))) (ov := [(22, (.cptr (unBody 300 v) 0)), (25, (.agg (unF s f)))]) (ob := [Ref (.cptr ((m.bodies.map (unBody 300)).getD i []) 0) (.cptr (unBody 300 v) 0), 0 <= (i : Int), (i : Int) < ((m.bodies.map (unBody 300)).length : Int)]) [18, 24] (by kernel_rfl) (by kernel_rfl) (by kernel_rfl) (by kernel_rfl) (by kernel_rfl)
   (.cons (o.1) (.cons (Int.natCast_nonneg _) (.cons (o.2) (AllP.nil)))) (Or.inr (by kernel_rfl)) (by kernel_rfl) hX hB hg
theorem x209_upd {B B' : Base -> Prop} (i r jb : Nat) (m : MachD) (p : PoseD) (v : BodyD) (s e : Nat) (f g : FrameD) (t : Rat) (o : (Ref (.cptr ((m.bodies.map (unBody 300)).getD i []) 0) (.cptr (unBody 300 v) 0)) /\ ((i : Int) < ((m.bodies.map (unBody 300)).length : Int)) /\ ((2 * s) + (2 * s) + 2 * 300 + 2 * 300 + 2 * s + 2 * s + 400 <= LIM) /\ (-9223372036854775808 <= (i : Int) - (1 : Int) /\ (i : Int) - (1 : Int) <= 9223372036854775807) /\ (Ref (.cptr ((p.joints.map (unQ jb)).getD (((i : Int) - (1 : Int)).toNat) []) 0) (.cptr [.q t jb] 0)) /\ (0 <= ((i : Int) - (1 : Int))) /\ (((i : Int) - (1 : Int)) < ((p.joints.map (unQ jb)).length : Int)) /\ (4 * jb + 800 <= LIM) /\ ((4 * jb + 200) + (4 * jb + 200) + s + s + 300 <= LIM) /\ (Ref (.agg [.q (f.at_.x + (f.c * v.at_.x - f.s * v.at_.z)) ((2 * s) + (300 + 300 + s + s + 6) + 2), .q (f.at_.z + (f.s * v.at_.x + f.c * v.at_.z)) ((2 * s) + (300 + 300 + s + s + 6) + 2), .q (f.c * ((1 - t * t) / (1 + t * t)) - f.s * ((t + t) / (1 + t * t))) ((4 * jb + 200) + (4 * jb + 200) + s + s + 6), .q (f.s * ((1 - t * t) / (1 + t * t)) + f.c * ((t + t) / (1 + t * t))) ((4 * jb + 200) + (4 * jb + 200) + s + s + 6)]) (.agg (unF e g))))
   (hB : B ⟨S0, C0, w0⟩) (hX : ∀ (Q : Exit -> Act -> World -> Prop) β ρ D σ h a w, B β -> Rel β.S β.C β.w ρ D ⟨σ, h⟩ a w -> (∀ τ ∈ [26, 27, 46], σ.getD τ .any = (slots 50 [(0, .i6 (i : Int)), (1, (.cptr [(.lit (.map (some r)))] 0)), (2, (.cptr [(.fn 209 [(.cptr [(.lit (.map (some r)))] 0), .any, (.cptr (unMach 300 m) 0), (.cptr [(.q p.at_.x jb), (.q p.at_.z jb), (.q p.turn jb), (.list 3 (p.joints.map (unQ jb)))] 0)])] 0)), (3, .cptr (unMach 300 m) 0), (4, (.cptr [(.q p.at_.x jb), (.q p.at_.z jb), (.q p.turn jb), (.list 3 (p.joints.map (unQ jb)))] 0)), (6, .ptr 0 12 0 0), (9, .ptr 1 12 0 0), (26, .lit (.map (some r))), (27, .i6 (i : Int)), (28, .agg [(.q f.at_.x (2 * s)), (.q f.at_.z (2 * s)), (.q f.c s), (.q f.s s)]), (29, .cptr (unMach 300 m) 1), (30, .list 27 (m.bodies.map (unBody 300))), (31, .i6 (i : Int)), (32, (.cptr [(.str v.name), (.i6 v.par), (.q v.at_.x 300), (.q v.at_.z 300), (.q v.ma 300), (.q v.inr 300), (.q v.c.x 300), (.q v.c.z 300), (.q v.low 300), (.q v.high 300), (.list 6 (v.shape.map (unP 300)))] 0)), (33, (.cptr [(.str v.name), (.i6 v.par), (.q v.at_.x 300), (.q v.at_.z 300), (.q v.ma 300), (.q v.inr 300), (.q v.c.x 300), (.q v.c.z 300), (.q v.low 300), (.q v.high 300), (.list 6 (v.shape.map (unP 300)))] 2)), (34, .agg [(.q v.at_.x 300), (.q v.at_.z 300)]), (35, (.agg [(.q (f.at_.x + (f.c * v.at_.x - f.s * v.at_.z)) ((2 * s) + (300 + 300 + s + s + 6) + 2)), (.q (f.at_.z + (f.s * v.at_.x + f.c * v.at_.z)) ((2 * s) + (300 + 300 + s + s + 6) + 2))])), (36, .ptr 1 12 0 6), (37, .agg [(.q f.c s), (.q f.s s)]), (38, (.cptr [(.q p.at_.x jb), (.q p.at_.z jb), (.q p.turn jb), (.list 3 (p.joints.map (unQ jb)))] 9)), (39, .list 3 (p.joints.map (unQ jb))), (40, .i6 (i : Int)), (41, .i6 ((i : Int) - (1 : Int))), (42, .cptr [(.q t jb)] 0), (43, .agg [(.q t jb)]), (44, (.agg [(.q ((1 - t * t) / (1 + t * t)) (4 * jb + 200)), (.q ((t + t) / (1 + t * t)) (4 * jb + 200))])), (45, (.agg [(.q (f.c * ((1 - t * t) / (1 + t * t)) - f.s * ((t + t) / (1 + t * t))) ((4 * jb + 200) + (4 * jb + 200) + s + s + 6)), (.q (f.s * ((1 - t * t) / (1 + t * t)) + f.c * ((t + t) / (1 + t * t))) ((4 * jb + 200) + (4 * jb + 200) + s + s + 6))])), (46, .agg [(.q g.at_.x (2 * e)), (.q g.at_.z (2 * e)), (.q g.c e), (.q g.s e)])]).getD τ .any) -> wpOp Tryz.prog (regOps (nav [1, 1, 1, 0] (bodyOf Tryz.f209))) Q 21 (fun a' w' => ∃ β', B' β' /\ Rel β'.S β'.C β'.w ρ D ⟨put σ (none) AV.any, h⟩ a' w') a w)
   (hg : ∀ β, B' β -> Good Tryz.prog 209 β.S β.C β.w Post [.code (nav [1, 1, 1, 1] (bodyOf Tryz.f209))] ⟨slots 50 [(0, .i6 (i : Int)), (1, .cptr [.lit (.map (some r))] 0), (2, .cptr [.fn 209 (n209_1 r m jb p)] 0), (3, .cptr (unMach 300 m) 0), (4, .cptr (unPose jb p) 0), (6, .ptr 0 12 0 0), (9, .ptr 1 12 0 0), (26, .lit (.map (some r))), (27, .i6 (i : Int)), (28, .agg (unF s f)), (29, .cptr (unMach 300 m) 1), (30, .list 27 (m.bodies.map (unBody 300))), (31, .i6 (i : Int)), (32, .cptr (unBody 300 v) 0), (33, .cptr (unBody 300 v) 2), (34, .agg [.q v.at_.x 300, .q v.at_.z 300]), (35, .agg [.q (f.at_.x + (f.c * v.at_.x - f.s * v.at_.z)) ((2 * s) + (300 + 300 + s + s + 6) + 2), .q (f.at_.z + (f.s * v.at_.x + f.c * v.at_.z)) ((2 * s) + (300 + 300 + s + s + 6) + 2)]), (36, .ptr 1 12 0 6), (37, .agg [.q f.c s, .q f.s s]), (38, .cptr (unPose jb p) 9), (39, .list 3 (p.joints.map (unQ jb))), (40, .i6 (i : Int)), (41, .i6 ((i : Int) - (1 : Int))), (42, .cptr [.q t jb] 0), (43, .agg [.q t jb]), (44, .agg [.q ((1 - t * t) / (1 + t * t)) (4 * jb + 200), .q ((t + t) / (1 + t * t)) (4 * jb + 200)]), (45, (.agg [.q (f.c * ((1 - t * t) / (1 + t * t)) - f.s * ((t + t) / (1 + t * t))) ((4 * jb + 200) + (4 * jb + 200) + s + s + 6), .q (f.s * ((1 - t * t) / (1 + t * t)) + f.c * ((t + t) / (1 + t * t))) ((4 * jb + 200) + (4 * jb + 200) + s + s + 6)])), (46, .agg (unF e g))], [some (n209_0), some ⟨175, 12, false, [(unF s f)], none⟩, none, none, none]⟩) :
   Good Tryz.prog 209 S0 C0 w0 Post [.code (nav [1, 1, 1, 0] (bodyOf Tryz.f209)), .code (nav [1, 1, 1, 1] (bodyOf Tryz.f209))] ⟨slots 50 [(0, .i6 (i : Int)), (1, .cptr [.lit (.map (some r))] 0), (2, .cptr [.fn 209 (n209_1 r m jb p)] 0), (3, .cptr (unMach 300 m) 0), (4, .cptr (unPose jb p) 0), (6, .ptr 0 12 0 0), (9, .ptr 1 12 0 0)], [some (n209_0), some ⟨175, 12, false, [(unF s f)], none⟩]⟩ :=
 Good.regX mixed TT0_ok KT209_ok 21 (c := nav [1, 1, 1, 0] (bodyOf Tryz.f209)) (oX := ((regOps (nav [1, 1, 1, 0] (bodyOf Tryz.f209))).toList[21]?).getD default) (dX := none) (V := AV.any) (ov := [(32, (.cptr (unBody 300 v) 0)), (41, (.i6 ((i : Int) - (1 : Int)))), (42, (.cptr [.q t jb] 0)), (46, (.agg (unF e g)))]) (ob := [Ref (.cptr ((m.bodies.map (unBody 300)).getD i []) 0) (.cptr (unBody 300 v) 0), 0 <= (i : Int), (i : Int) < ((m.bodies.map (unBody 300)).length : Int), (2 * s) + (2 * s) + 2 * 300 + 2 * 300 + 2 * s + 2 * s + 400 <= LIM, Ref (.i6 (IntKind.i64.wrap ((i : Int) - (1 : Int)))) (.i6 ((i : Int) - (1 : Int))), Ref (.cptr ((p.joints.map (unQ jb)).getD (((i : Int) - (1 : Int)).toNat) []) 0) (.cptr [.q t jb] 0), 0 <= ((i : Int) - (1 : Int)), ((i : Int) - (1 : Int)) < ((p.joints.map (unQ jb)).length : Int), 4 * jb + 800 <= LIM, (4 * jb + 200) + (4 * jb + 200) + s + s + 300 <= LIM, Ref (.agg [.q (f.at_.x + (f.c * v.at_.x - f.s * v.at_.z)) ((2 * s) + (300 + 300 + s + s + 6) + 2), .q (f.at_.z + (f.s * v.at_.x + f.c * v.at_.z)) ((2 * s) + (300 + 300 + s + s + 6) + 2), .q (f.c * ((1 - t * t) / (1 + t * t)) - f.s * ((t + t) / (1 + t * t))) ((4 * jb + 200) + (4 * jb + 200) + s + s + 6), .q (f.s * ((1 - t * t) / (1 + t * t)) + f.c * ((t + t) / (1 + t * t))) ((4 * jb + 200) + (4 * jb + 200) + s + s + 6)]) (.agg (unF e g))]) [26, 27, 46] (by kernel_rfl) (by kernel_rfl) (by kernel_rfl) (by kernel_rfl) (by kernel_rfl)
   (.cons (o.1) (.cons (Int.natCast_nonneg _) (.cons (o.2.1) (.cons (o.2.2.1) (.cons ((Ref.wr o.2.2.2.1).trans (Ref.int (by rfl))) (.cons (o.2.2.2.2.1) (.cons (o.2.2.2.2.2.1) (.cons (o.2.2.2.2.2.2.1) (.cons (o.2.2.2.2.2.2.2.1) (.cons (o.2.2.2.2.2.2.2.2.1) (.cons (o.2.2.2.2.2.2.2.2.2) (AllP.nil)))))))))))) (Or.inl rfl) (by kernel_rfl) hX hB hg
theorem x209_last {B B' : Base -> Prop} (i r e : Nat) (g : FrameD)
   (hB : B ⟨S0, C0, w0⟩) (hX : ∀ (Q : Exit -> Act -> World -> Prop) β ρ D σ h a w, B β -> Rel β.S β.C β.w ρ D ⟨σ, h⟩ a w -> (∀ τ ∈ [47, 48], σ.getD τ .any = (slots 50 [(0, .i6 (i : Int)), (1, (.cptr [(.lit (.map (some r)))] 0)), (6, .ptr 0 12 0 0), (47, .lit (.map (some r))), (48, .i6 (i : Int)), (49, .agg [(.q g.at_.x (2 * e)), (.q g.at_.z (2 * e)), (.q g.c e), (.q g.s e)])]).getD τ .any) -> wpOp Tryz.prog (regOps (nav [1, 1, 1, 1, 0] (bodyOf Tryz.f209))) Q 2 (fun a' w' => ∃ β', B' β' /\ Rel β'.S β'.C β'.w ρ D ⟨put σ (some 49) (.agg (unF e g)), h⟩ a' w') a w)
   (hg : ∀ β, B' β -> Good Tryz.prog 209 β.S β.C β.w Post [.code .ret] ⟨slots 50 [(0, .i6 (i : Int)), (1, .cptr [.lit (.map (some r))] 0), (6, .ptr 0 12 0 0), (47, .lit (.map (some r))), (48, .i6 (i : Int)), (49, .agg (unF e g))], [some ⟨175, 12, false, [(unF e g)], none⟩]⟩) :
   Good Tryz.prog 209 S0 C0 w0 Post [.code (nav [1, 1, 1, 1, 0] (bodyOf Tryz.f209)), .code .ret] ⟨slots 50 [(0, .i6 (i : Int)), (1, .cptr [.lit (.map (some r))] 0), (6, .ptr 0 12 0 0)], [some (n209_0)]⟩ :=
 Good.regX mixed TT0_ok KT209_ok 2 (c := nav [1, 1, 1, 1, 0] (bodyOf Tryz.f209)) (oX := ((regOps (nav [1, 1, 1, 1, 0] (bodyOf Tryz.f209))).toList[2]?).getD default) (dX := some 49) (V := (.agg (unF e g))) (ov := [(49, (.agg (unF e g)))]) (ob := []) [47, 48] (by kernel_rfl) (by kernel_rfl) (by kernel_rfl) (by kernel_rfl) (by kernel_rfl)
   (AllP.nil) (Or.inr (by kernel_rfl)) (by kernel_rfl) hX hB hg
end
noncomputable abbrev c209T0 : List Item := [.code (nav [1, 0, 0] (bodyOf Tryz.f209)), .code (nav [1, 0, 1] (bodyOf Tryz.f209)), .code (nav [1, 1] (bodyOf Tryz.f209))]
def turnC (t : Rat) : Rat := (1 - t * t) / (1 + t * t)
def turnS' (t : Rat) : Rat := (t + t) / (1 + t * t)
def stepF (f : FrameD) (v : BodyD) (t : Rat) : FrameD :=
 ⟨⟨f.at_.x + (f.c * v.at_.x - f.s * v.at_.z), f.at_.z + (f.s * v.at_.x + f.c * v.at_.z)⟩, f.c * turnC t - f.s * turnS' t, f.s * turnC t + f.c * turnS' t⟩
def frF (m : MachD) (p : PoseD) : Nat -> Nat -> FrameD
 | 0, _ => ⟨p.at_, turnC p.turn, turnS' p.turn⟩
 | n + 1, i => if i = 0 then ⟨p.at_, turnC p.turn, turnS' p.turn⟩ else stepF (frF m p n (m.bodies.getD i default).par.toNat) (m.bodies.getD i default) (p.joints.getD (i - 1) default)
def fr (m : MachD) (p : PoseD) (i : Nat) : FrameD := frF m p i i
def rz (jb : Nat) : Nat -> Nat
 | 0 => 4 * jb + 200
 | n + 1 => 2 * rz jb n + 8 * jb + 1000
def SZ (jb : Nat) : Nat := 1536 * jb + 153600
def frs (jb : Nat) (m : MachD) (p : PoseD) (i : Nat) : List AV := unF (rz jb i) (fr m p i)
def MachD.tree (m : MachD) : Prop := ∀ i, 0 < i -> i < m.bodies.length -> 0 <= (m.bodies.getD i default).par /\ (m.bodies.getD i default).par < ((i : Nat) : Int)
theorem frF_eq {m : MachD} {p : PoseD} (ht : m.tree) : ∀ (i n : Nat), i < m.bodies.length -> i <= n -> frF m p n i = frF m p i i := by
 intro i
 induction i using Nat.strongRecOn with
 | _ i ih =>
   intro n hi hn; cases n with
   | zero => have : i = 0 := by omega
             subst this; rfl
   | succ n =>
     cases i with
     | zero => simp [frF]
     | succ i =>
       obtain ⟨h1, h2⟩ := ht (i + 1) (by omega) hi; have hj : (m.bodies.getD (i + 1) default).par.toNat < i + 1 := by omega
       rw [frF, frF, ih _ hj n (by omega) (by omega), ih _ hj i (by omega) (by omega)]
theorem fr_step {m : MachD} {p : PoseD} (ht : m.tree) {i : Nat} (h0 : 0 < i) (hi : i < m.bodies.length) :
   fr m p i = stepF (fr m p (m.bodies.getD i default).par.toNat) (m.bodies.getD i default) (p.joints.getD (i - 1) default) := by
 obtain ⟨h1, h2⟩ := ht i h0 hi; have hj : (m.bodies.getD i default).par.toNat < i := by omega
 unfold fr; obtain ⟨n, rfl⟩ : ∃ n, i = n + 1 := ⟨i - 1, by omega⟩; rw [frF, if_neg (by omega), frF_eq ht _ n (by omega) (by omega)]
theorem rz_mono {jb i j : Nat} (h : i <= j) : rz jb i <= rz jb j := by
 induction h with
 | refl => exact Nat.le_refl _
 | step _ ih => simp only [rz]; omega
theorem rz_le {jb i : Nat} (h : i <= 7) : rz jb i <= SZ jb := Nat.le_trans (rz_mono h) (by simp only [rz, SZ]; omega)
abbrev kbA (r : Nat) : AV := .cptr [.lit (.map (some r))] 0
abbrev cloA (jb r : Nat) (m : MachD) (p : PoseD) : AV := .cptr [.fn 209 [kbA r, .any, .cptr (unMach 300 m) 0, .cptr (unPose jb p) 0]] 0
theorem und366 : Tryz.prog.underlying 366 = some (.map 3 175) := by kernel_rfl
theorem und3 : Tryz.prog.underlying 3 = some (.int .i64) := by kernel_rfl
theorem op209_1 : ∃ oX : Oper, (regOps (nav [1, 0, 0] (bodyOf Tryz.f209)))[2]? = some oX /\ oX.guard = none /\ oX.op = Op.lookup 366 (Operand.tmp 11) (Operand.tmp 12) true /\ oX.dst = some 13 :=
 ⟨((regOps (nav [1, 0, 0] (bodyOf Tryz.f209))).toList[2]?).getD default, by kernel_rfl, by kernel_rfl, by kernel_rfl, by kernel_rfl⟩
theorem hit209 (jb : Nat) (m : MachD) (p : PoseD) {S : Nat -> Prop} {w : World} {vals : List Value} {i n r : Nat} {clo : AV} (hS : ∀ k, S k -> k < w.heap.size) (M : Memo (frs jb m p) n S w r) (hi : i < n)
   (hargs : RelVs ρ0 S w No [.i6 ((i : Nat) : Int), kbA r, clo, .cptr (unMach 300 m) 0, .cptr (unPose jb p) 0] vals) :
   Calls Tryz.prog 209 vals.toArray w fun e w' => ∃ v, e = .returned v /\ PostF S w (.agg (frs jb m p i)) v w' := by
 refine calls_of (fn := Tryz.f209) (c := bodyOf Tryz.f209) (by kernel_rfl) (by kernel_rfl) hS hargs ?_; have e : st0 [.i6 ((i : Nat) : Int), kbA r, clo, .cptr (unMach 300 m) 0, .cptr (unPose jb p) 0] Tryz.f209.ntmps = ⟨slots 50 [(0, .i6 ((i : Nat) : Int)), (1, kbA r), (2, clo), (3, .cptr (unMach 300 m) 0), (4, .cptr (unPose jb p) 0)], []⟩ := by kernel_rfl
 rw [e]; clear e; refine gS KT209_ok (some 1) [0, 1, 2, 3, 4, 6] [] .nil (t := c209T0) (σ := slots 50 [(0, .i6 (i : Int)), (1, .cptr [.lit (.map (some r))] 0), (2, clo), (3, .cptr (unMach 300 m) 0), (4, .cptr (unPose jb p) 0), (6, .ptr 0 12 0 0)]) (h := [some ⟨175, 12, false, [[.q 0 0, .q 0 0, .q 0 0, .q 0 0]], none⟩]) ?_
 refine x209_hit (B := fun β => β = ⟨S, No, w⟩) (B' := fun β => β = ⟨S, No, w⟩) i r jb m p clo (rz jb i) (fr m p i) rfl ?_ ?_
 · rintro Q β ρ D σ h a w1 rfl R hA
   have h1 := R.eval (.tmp 11); have h2 := R.eval (.tmp 12); have e1 : aval σ (.tmp 11) = .lit (.map (some r)) := (hA 11 (by simp)).trans (by kernel_rfl); have e2 : aval σ (.tmp 12) = .i6 ((i : Nat) : Int) := (hA 12 (by simp)).trans (by kernel_rfl); rw [e1] at h1; rw [e2] at h2; have M1 := (M.keep (S' := fun k => S k \/ No k) (rl _) rfl fun k _ hs => ⟨fun h => h.elim hs id, rfl⟩).now R (fun h => h); obtain ⟨vs, hrun, hrel⟩ := M1.look und366 und3 hi; obtain ⟨oX, hoX, hg, hop, hd⟩ := op209_1; refine wpOp_run hoX hg (v := .tuple #[.agg vs.toArray, .bool true]) (w' := w1) ?_ ?_
   · rw [execOp, hop]
     have := hrun true; simp only [if_true] at this; simp only [h1.lit_inv, h2.int_inv, Sem.run_bind, this]; rfl
   · rw [hd]
     refine ⟨_, rfl, R.val ⟨[.agg vs.toArray, .bool true], rfl, ⟨vs, rfl, toD hrel⟩, ?_, trivial⟩⟩; exact .bool .done
 · rintro β rfl
   refine Good.pk 50 [(6, .ptr 0 12 0 0), (7, .ptr 1 12 0 0), (8, .bool true)] ?_; exact rR KT209_ok [] .nil
theorem op209_4 : ∃ (oX : Oper) (c : Call), (regOps (nav [1, 1, 0] (bodyOf Tryz.f209)))[7]? = some oX /\ oX.guard = none /\ oX.op = Op.call c /\ c.callee = Callee.value (Operand.tmp 18) /\ c.args = #[Operand.tmp 24] /\ oX.dst = some 25 :=
 ⟨((regOps (nav [1, 1, 0] (bodyOf Tryz.f209))).toList[7]?).getD default, ⟨Callee.value (Operand.tmp 18), #[Operand.tmp 24], #[3]⟩, by kernel_rfl, by kernel_rfl, by kernel_rfl, rfl, rfl, by kernel_rfl⟩
theorem op209_5 : ∃ oX : Oper, (regOps (nav [1, 1, 1, 0] (bodyOf Tryz.f209)))[21]? = some oX /\ oX.guard = none /\ oX.op = Op.mapUpdate 366 (Operand.tmp 26) (Operand.tmp 27) (Operand.tmp 46) /\ oX.dst = none :=
 ⟨((regOps (nav [1, 1, 1, 0] (bodyOf Tryz.f209))).toList[21]?).getD default, by kernel_rfl, by kernel_rfl, by kernel_rfl, by kernel_rfl⟩
theorem op209_6 : ∃ oX : Oper, (regOps (nav [1, 1, 1, 1, 0] (bodyOf Tryz.f209)))[2]? = some oX /\ oX.guard = none /\ oX.op = Op.lookup 366 (Operand.tmp 47) (Operand.tmp 48) false /\ oX.dst = some 49 :=
 ⟨((regOps (nav [1, 1, 1, 1, 0] (bodyOf Tryz.f209))).toList[2]?).getD default, by kernel_rfl, by kernel_rfl, by kernel_rfl, by kernel_rfl⟩
theorem has209 : HasBody Tryz.prog 209 := ⟨Tryz.f209, by kernel_rfl, by kernel_rfl, by kernel_rfl⟩
theorem zero175 : ∃ vs : List Value, (∀ w, (zeroValue 175).run Tryz.prog w = .ok (.agg vs.toArray) w) /\ ∀ ρ S w D, RelCs ρ S w D [.q 0 0, .q 0 0, .q 0 0, .q 0 0] vs := by
 obtain ⟨z, h1, _, h3⟩ := zero_run (TT0_ok 175 ⟨12, 224, [.q 0 0, .q 0 0, .q 0 0, .q 0 0], .struct [(0, 6, 58), (6, 6, 98)]⟩ (by kernel_rfl)); obtain ⟨vs, hv⟩ : ∃ vs : List Value, ∀ w, (zeroValue 175).run Tryz.prog w = .ok (.agg vs.toArray) w := ⟨[.bool false, .slice none 0 0, .slice none 0 0, .bool false, .slice none 0 0, .slice none 0 0, .bool false, .slice none 0 0, .slice none 0 0, .bool false, .slice none 0 0, .slice none 0 0], fun w => by kernel_rfl⟩
 have : z = .agg vs.toArray := by
   have h := h1 default; rw [hv default] at h; injection h with h; exact h.symm
 subst this; exact ⟨vs, hv, fun ρ S w D => by simpa [Value.cells] using h3 ρ S w D⟩
def After (F : Nat -> List AV) (n r : Nat) (S : Nat -> Prop) (w : World) (β : Base) : Prop :=
 β.S = S /\ (∀ k, β.C k -> w.heap.size <= k) /\ Chg (· = r) w β.w /\ Memo F n (fun k => S k \/ β.C k) β.w r
theorem miss209 {jb : Nat} (hjb : jb <= 100000) (m : MachD) (p : PoseD) (ht : m.tree) {S : Nat -> Prop} {w : World} {vals : List Value} {i r : Nat} (hS : ∀ k, S k -> k < w.heap.size) (hr : S r) (M : Memo (frs jb m p) i S w r) (h0 : 0 < i) (hi : i < m.bodies.length) (h12 : i <= 7) (hj : i <= p.joints.length)
   (hargs : RelVs ρ0 S w No [.i6 ((i : Nat) : Int), kbA r, cloA jb r m p, .cptr (unMach 300 m) 0, .cptr (unPose jb p) 0] vals) :
   Calls Tryz.prog 209 vals.toArray w fun e w' => ∃ v, e = .returned v /\ RelV ρ0 S w' No (.agg (frs jb m p i)) v /\ Chg (· = r) w w' /\ Memo (frs jb m p) (i + 1) S w' r := by
 refine (calls_of (Post := fun v w' => RelV ρ0 S w' No (.agg (frs jb m p i)) v /\ Chg (· = r) w w' /\ Memo (frs jb m p) (i + 1) S w' r) (fn := Tryz.f209) (c := bodyOf Tryz.f209) (by kernel_rfl) (by kernel_rfl) hS hargs ?_); have e : st0 [.i6 ((i : Nat) : Int), kbA r, cloA jb r m p, .cptr (unMach 300 m) 0, .cptr (unPose jb p) 0] Tryz.f209.ntmps = ⟨slots 50 [(0, .i6 ((i : Nat) : Int)), (1, kbA r), (2, cloA jb r m p), (3, .cptr (unMach 300 m) 0), (4, .cptr (unPose jb p) 0)], []⟩ := by kernel_rfl
 rw [e]; clear e; have hrw : r < w.heap.size := hS r hr; have M0 : Memo (frs jb m p) i (fun k => S k \/ No k) w r := M.keep (rl _) rfl fun k _ hs => ⟨fun h => h.elim hs id, rfl⟩
 obtain ⟨hp0, hp1⟩ := ht i h0 hi; obtain ⟨v, hv⟩ : ∃ v, v = m.bodies.getD i default := ⟨_, rfl⟩; rw [<- hv] at hp0 hp1; obtain ⟨j, hjp⟩ : ∃ j : Nat, v.par = ((j : Nat) : Int) := ⟨v.par.toNat, by omega⟩; have hji : j < i := by omega
 have hbody : Ref (.cptr ((m.bodies.map (unBody 300)).getD i []) 0) (.cptr (unBody 300 v) 0) := by rw [hv]; exact Ref.cmap hi
 have hlen : (m.bodies.map (unBody 300)).length = m.bodies.length := lmE ..; have hjl : (p.joints.map (unQ jb)).length = p.joints.length := lmE ..
 have hstep : fr m p i = stepF (fr m p j) v (p.joints.getD (i - 1) default) := by
   rw [fr_step ht h0 hi, <- hv, hjp]; rfl
 have hszj : rz jb j <= SZ jb := rz_le (by omega); have hjb1 : jb <= rz jb j := Nat.le_trans (by simp only [rz]; omega) (rz_mono (Nat.zero_le j)); unfold SZ at hszj
 have hszi : 2 * rz jb j + 8 * jb + 1000 <= rz jb i := by
   have := rz_mono (jb := jb) (show j + 1 <= i from hji); simpa [rz] using this
 refine gS KT209_ok (some 1) [0, 1, 2, 3, 4, 6] [] .nil (t := c209T0) (σ := slots 50 [(0, .i6 (i : Int)), (1, .cptr [.lit (.map (some r))] 0), (2, (cloA jb r m p)), (3, .cptr (unMach 300 m) 0), (4, .cptr (unPose jb p) 0), (6, .ptr 0 12 0 0)]) (h := [some ⟨175, 12, false, [[.q 0 0, .q 0 0, .q 0 0, .q 0 0]], none⟩]) ?_
 refine x209_miss (B := fun β => β = ⟨S, No, w⟩) (B' := fun β => β = ⟨S, No, w⟩) i r jb m p _ rfl ?_ ?_
 · rintro Q β ρ D σ h a w1 rfl R hA
   have h1 := R.eval (.tmp 11); have h2 := R.eval (.tmp 12); have e1 : aval σ (.tmp 11) = .lit (.map (some r)) := (hA 11 (by simp)).trans (by kernel_rfl); have e2 : aval σ (.tmp 12) = .i6 ((i : Nat) : Int) := (hA 12 (by simp)).trans (by kernel_rfl); rw [e1] at h1; rw [e2] at h2; have M1 := M0.now R (fun h => h); obtain ⟨vs, hz, hrel⟩ := zero175; have hrun := M1.miss und366 und3 (rl _) (hz w1); obtain ⟨oX, hoX, hg, hop, hd⟩ := op209_1; refine wpOp_run hoX hg (v := .tuple #[.agg vs.toArray, .bool false]) (w' := w1) ?_ ?_
   · rw [execOp, hop]
     simp only [h1.lit_inv, h2.int_inv, Sem.run_bind, hrun]; rfl
   · rw [hd]
     refine ⟨_, rfl, R.val ⟨[.agg vs.toArray, .bool false], rfl, ⟨vs, rfl, hrel _ _ _ _⟩, ?_, trivial⟩⟩; exact .bool .done
 rintro β rfl; refine Good.pk 50 [(0, .i6 ((i : Nat) : Int)), (1, kbA r), (2, cloA jb r m p), (3, .cptr (unMach 300 m) 0), (4, .cptr (unPose jb p) 0), (6, .ptr 0 12 0 0), (7, .ptr 1 12 0 0), (8, .bool false)] ?_; refine gR KT209_ok (some 4) [0, 1, 2, 3, 4, 6] [0] [] .nil (t := [.code (nav [1, 1, 0] (bodyOf Tryz.f209)), .code (nav [1, 1, 1] (bodyOf Tryz.f209))]) (σ := slots 50 [(0, .i6 (i : Int)), (1, .cptr [.lit (.map (some r))] 0), (2, .cptr [.fn 209 [.cptr [.lit (.map (some r))] 0, .any, .cptr (unMach 300 m) 0, .cptr (unPose jb p) 0]] 0), (3, .cptr (unMach 300 m) 0), (4, .cptr (unPose jb p) 0), (6, .ptr 0 12 0 0)]) (h := [some ⟨175, 12, false, [[.q 0 0, .q 0 0, .q 0 0, .q 0 0]], none⟩]) ?_
 refine x209_call (B := fun β => β = ⟨S, No, w⟩) (B' := fun β => β = ⟨S, No, w⟩) i r jb m p v (rz jb j) (fr m p j) ⟨hbody, by rw [hlen]; omega⟩ rfl ?_ ?_
 · rintro Q β ρ D σ h a w1 rfl R hA
   have e1 : aval σ (.tmp 18) = .fn 209 [kbA r, .any, .cptr (unMach 300 m) 0, .cptr (unPose jb p) 0] := (hA 18 (by simp)).trans (by kernel_rfl); have e2 : aval σ (.tmp 24) = .i6 v.par := (hA 24 (by simp)).trans (by kernel_rfl); obtain ⟨oX, c, hoX, hg, hop, hc, hargs, hd⟩ := op209_4; have M1 := M0.now R (fun h => h); have hmap : c.args.toList.map (aval σ) = [.i6 ((j : Nat) : Int)] := by rw [hargs]; simp [e2, hjp]
   have hcall := wpOp_call (Q := Q) (J := PostF (Sof S ρ h) w1 (.agg (frs jb m p j))) R hoX hg hop hc e1 (by rw [hmap]; simp [noRefV, noRef, noRef0, isCap, wd]) has209 (fun vals hvals => by
     rw [hmap] at hvals
     exact hit209 jb m p (fun k => R.Slt) M1 hji hvals)
   refine wpOp_mono ?_ hcall; rintro a' w' ⟨u, ⟨hu, hch⟩, rfl⟩; rw [hd]; refine ⟨_, rfl, R.called hch ?_⟩; obtain ⟨us, h1, h2⟩ := hu; exact ⟨us, h1, toD h2⟩
 rintro β rfl; refine Good.pk 50 [(0, .i6 ((i : Nat) : Int)), (1, kbA r), (2, cloA jb r m p), (3, .cptr (unMach 300 m) 0), (4, .cptr (unPose jb p) 0), (6, .ptr 0 12 0 0), (9, .ptr 1 12 0 0)] ?_; refine gS KT209_ok (some 5) [0, 1, 2, 3, 4, 6, 9] [] .nil (t := [.code (nav [1, 1, 1, 0] (bodyOf Tryz.f209)), .code (nav [1, 1, 1, 1] (bodyOf Tryz.f209))]) (σ := slots 50 [(0, .i6 (i : Int)), (1, .cptr [.lit (.map (some r))] 0), (2, .cptr [.fn 209 [.cptr [.lit (.map (some r))] 0, .any, .cptr (unMach 300 m) 0, .cptr (unPose jb p) 0]] 0), (3, .cptr (unMach 300 m) 0), (4, .cptr (unPose jb p) 0), (6, .ptr 0 12 0 0), (9, .ptr 1 12 0 0)]) (h := [some ⟨175, 12, false, [[.q 0 0, .q 0 0, .q 0 0, .q 0 0]], none⟩, some ⟨175, 12, false, [(unF (rz jb j) (fr m p j))], none⟩]) ?_
 refine x209_upd (B := fun β => β = ⟨S, No, w⟩) (B' := After (frs jb m p) (i + 1) r S w) i r jb m p v (rz jb j) (rz jb i) (fr m p j) (fr m p i) (p.joints.getD (i - 1) default)
   ⟨hbody, by rw [hlen]; omega, by unfold LIM; omega, by omega, ?_, by omega, by rw [hjl]; omega, by unfold LIM; omega, by unfold LIM; omega, ?_⟩ rfl ?_ ?_
 · have : (((i : Nat) : Int) - 1).toNat = i - 1 := by omega
   rw [this]; exact Ref.cmap (f := unQ jb) (by omega)
 · rw [hstep]
   exact Ref.agg (RefC.cons (RefC.q_le (by omega)) (RefC.cons (RefC.q_le (by omega)) (RefC.cons (RefC.q_le (by omega)) (RefC.q_le (by omega)))))
 · rintro Q β ρ D σ h a w1 rfl R hA
   have h1 := R.eval (.tmp 26); have h2 := R.eval (.tmp 27); have h3 := R.eval (.tmp 46); have e1 : aval σ (.tmp 26) = .lit (.map (some r)) := (hA 26 (by simp)).trans (by kernel_rfl); have e2 : aval σ (.tmp 27) = .i6 ((i : Nat) : Int) := (hA 27 (by simp)).trans (by kernel_rfl); have e3 : aval σ (.tmp 46) = .agg (frs jb m p i) := (hA 46 (by simp)).trans (by kernel_rfl); rw [e1] at h1; rw [e2] at h2; rw [e3] at h3; have M1 := M0.now R (fun h => h); obtain ⟨us, k1, k2⟩ := RelV0.noRef h3 (by rfl) ρ0; obtain ⟨w2, hrun, hch, M2⟩ := M1.upd und366 und3 k2 (.inl hr); obtain ⟨oX, hoX, hg, hop, hd⟩ := op209_5; refine wpOp_skip hoX hg (w' := w2) ?_ ?_
   · rw [execOp, hop]
     simp only [h1.lit_inv, h2.int_inv, k1, Sem.run_bind, hrun]; rfl
   · rw [hd]
     refine ⟨⟨S, ownC ρ h, w2⟩, ⟨rfl, ?_, ?_, M2⟩, R.turn hch (fun k hk => by subst hk; exact hr) (.inl rfl)⟩
     · rintro k ⟨l, b, hb, rfl⟩
       exact (R.mine l b hb).1.elim (fun h => h.elim) id
     · exact (R.chg.mono (fun _ h => h.elim)).trans hch fun _ _ h => h
 rintro β hβ; refine Good.pk 50 [(0, .i6 ((i : Nat) : Int)), (1, kbA r), (6, .ptr 0 12 0 0)] ?_; refine Good.tidy [0] (by decide) (σ' := slots 50 [(0, .i6 ((i : Nat) : Int)), (1, kbA r), (6, .ptr 0 12 0 0)]) (h' := [some ⟨175, 12, false, [[(.q 0 0), (.q 0 0), (.q 0 0), (.q 0 0)]], none⟩]) (by kernel_rfl) (by kernel_rfl) ?_; refine gS KT209_ok (some 6) [0, 1, 6] [] .nil (t := [.code (nav [1, 1, 1, 1, 0] (bodyOf Tryz.f209)), .code .ret]) (σ := slots 50 [(0, .i6 (i : Int)), (1, .cptr [.lit (.map (some r))] 0), (6, .ptr 0 12 0 0)]) (h := [some ⟨175, 12, false, [[.q 0 0, .q 0 0, .q 0 0, .q 0 0]], none⟩]) ?_
 refine x209_last (B := After (frs jb m p) (i + 1) r S w) (B' := After (frs jb m p) (i + 1) r S w) i r (rz jb i) (fr m p i) hβ ?_ ?_
 · rintro Q β ρ D σ h a w1 ⟨rfl, b1, b2, b3⟩ R hA
   have h1 := R.eval (.tmp 47); have h2 := R.eval (.tmp 48); have e1 : aval σ (.tmp 47) = .lit (.map (some r)) := (hA 47 (by simp)).trans (by kernel_rfl); have e2 : aval σ (.tmp 48) = .i6 ((i : Nat) : Int) := (hA 48 (by simp)).trans (by kernel_rfl); rw [e1] at h1; rw [e2] at h2; have M1 := b3.now R (fun h => by have := b1 r h; omega); obtain ⟨vs, hrun, hrel⟩ := M1.look und366 und3 (Nat.lt_succ_self i); obtain ⟨oX, hoX, hg, hop, hd⟩ := op209_6; refine wpOp_run hoX hg (v := .agg vs.toArray) (w' := w1) ?_ ?_
   · rw [execOp, hop]
     have := hrun false; simp only [Bool.false_eq_true, if_false] at this; simp only [h1.lit_inv, h2.int_inv, Sem.run_bind, this]; rfl
   · rw [hd]
     exact ⟨_, ⟨rfl, b1, b2, b3⟩, R.val ⟨vs, rfl, toD hrel⟩⟩
 · rintro β ⟨rfl, b1, b2, b3⟩
   refine good_end TT0_ok (fn := Tryz.f209) (by kernel_rfl) (.inr ⟨_, rfl⟩) (Vs := [.agg (frs jb m p i)]) (by kernel_rfl) (.inl rfl) fun ρ D a w2 u R hu => ⟨outer_rel hu rfl (fun k h => .inl h), ?_, ?_⟩
   · exact b2.trans R.chg fun k hk hc => absurd hk (by have := b1 k hc; omega)
   · exact b3.keep R.chg.size (R.chg.block r (by obtain ⟨es, clk, g, _⟩ := b3; exact heap_lt g) fun h => by have := b1 r h; omega) fun k hk hs => ⟨fun h => hs (.inl h), R.chg.block k hk fun h => hs (.inr h)⟩
end Go.Av
namespace Go.Av
open Go.RowKit
section
theorem Good.regOne (hm : P.follows .mixedOrders = true) (hT : TOK P T) (hK : KOK P K) (ids m : List Nat) (ov : Ovs)
   (hc : c = .region (regId c) (regOps c) (regDraw c)) (hnd : m.Nodup)
   (he : (aregion T K (regOps c) (regDraw c) ov st).map (fun r => ((keepS ids 0 r.1.σ).map (renC (at_ m)), renH (at_ m) r.1.h m, r.2.1)) = some (σ', h', ob)) (ho : AllP ob)
   (hg : Good P f S0 C0 w0 Post k ⟨σ', h'⟩) : Good P f S0 C0 w0 Post (.code c :: k) st := by
 obtain ⟨⟨st1, ob1, ov1⟩, h1, h2⟩ := Option.map_eq_some_iff.1 he; simp only [Prod.mk.injEq] at h2; obtain ⟨rfl, rfl, rfl⟩ := h2; rw [hc]; refine cstep_ok (st1 := st1) (t1 := k) (ov := ov) (ov1 := ov1) (ob := ob1) hm hT hK ?_ ho (Good.keep ids (Good.ren m hnd hg)); simp only [cstep]; rw [h1]
theorem region_inK (hm : P.follows .mixedOrders = true) (hT : TOK P T) (hK : KOK P K) (ids : List Nat) (ov : Ovs)
   (R : Rel S0 C0 w0 ρ D st a w)
   (hc : c = .region (regId c) (regOps c) (regDraw c)) (hd : (regOps c).all noDefer = true)
   (he : (aregion T K (regOps c) (regDraw c) ov st).map (fun r => (keepS ids 0 r.1.σ, r.1.h, r.2.1)) = some (σ', h', ob)) (ho : AllP ob)
   (hQ : ∀ ρ' D' a' w', Rel S0 C0 w0 ρ' D' ⟨σ', h'⟩ a' w' -> Q .normal a' w') : c.wpIn (wideR ro) n P Q a w := by
 obtain ⟨⟨st1, ob1, ov1⟩, h1, h2⟩ := Option.map_eq_some_iff.1 he; simp only [Prod.mk.injEq] at h2; obtain ⟨rfl, rfl, rfl⟩ := h2; rw [hc]; refine region_in hm hT hK R hd h1 ho fun ρ' D' a' w' R' => hQ ρ' D' a' w' ?_
 exact R'.slots keepS_length fun t => by
   rw [keepS_get]
   split
   · exact Ref.rfl'
   · exact Ref.any
theorem Good.regRound (hm : P.follows .mixedOrders = true) (hT : TOK P T) (hK : KOK P K) (iX : Nat) (ov : Ovs)
   (hc : c = .region (regId c) (regOps c) false) (hd : (regOps c).all noDefer = true) (hlt : iX < (regOps c).size)
   (hnew : ((annot 0 (regOps c).toList ov st.h.length).take iX ++ (annot 0 (regOps c).toList ov st.h.length).drop (iX + 1)).all (fun p => !newOp p.2.o.op) = true)
   (he1 : (arun T K (regOps c) ((annot 0 (regOps c).toList ov st.h.length).take iX) st).map (fun r => (r.1.σ, r.1.h, obsOf r.2)) = some (σ1, h1, ob1)) (ho1 : AllP ob1)
   (hX : ∀ ρ D a w Q, Rel S0 C0 w0 ρ D ⟨σ1, h1⟩ a w -> wpOpIn (wideR none) 0 P (regOps c) Q iX (fun a' w' => ∃ ρ' D', Rel S0 C0 w0 ρ' D' st2 a' w') a w)
   (he2 : (arun T K (regOps c) ((annot 0 (regOps c).toList ov st.h.length).drop (iX + 1)) st2).map (fun r => (r.1, obsOf r.2)) = some (st3, ob2)) (ho2 : AllP ob2)
   (hg : Good P f S0 C0 w0 Post k st3) : Good P f S0 C0 w0 Post (.code c :: k) st := by
 obtain ⟨⟨st1, rs1⟩, e1, e2⟩ := Option.map_eq_some_iff.1 he1; simp only [Prod.mk.injEq] at e2; obtain ⟨rfl, rfl, rfl⟩ := e2; obtain ⟨⟨st4, rs2⟩, e3, e4⟩ := Option.map_eq_some_iff.1 he2; simp only [Prod.mk.injEq] at e4; obtain ⟨rfl, rfl⟩ := e4
 have hd' : ∀ o ∈ regOps c, noDefer o = true := by
   intro o ho; obtain ⟨i, hi, e⟩ := Array.mem_iff_getElem.1 ho; exact e ▸ Array.all_eq_true.1 hd i hi
 generalize hxs : annot 0 (regOps c).toList ov st.h.length = xs at *
 have hops : ∀ p ∈ xs, (regOps c)[p.1]? = some p.2.o := by
   intro p hp; rw [<- hxs] at hp; obtain ⟨k, h1, h2⟩ := annot_mem _ _ _ _ p hp; rw [h1, Nat.zero_add]; simpa using h2
 have hfst : xs.map (·.1) = List.range (regOps c).size := by
   rw [<- hxs, annot_fst, List.range_eq_range']; simp
 have hlen : xs.length = (regOps c).size := by
   have := congrArg List.length hfst; simpa using this
 have hrange : List.range (regOps c).size = (xs.take iX).map (·.1) ++ iX :: ((xs.drop (iX + 1)).map (·.1) ++ []) := by
   rw [<- hfst, List.append_nil]
   have h3 : xs = xs.take iX ++ xs[iX]'(by omega) :: xs.drop (iX + 1) := by
     rw [<- List.drop_eq_getElem_cons (by omega), List.take_append_drop]
   conv => lhs; rw [h3]
   rw [List.map_append, List.map_cons]
   have : (xs[iX]'(by omega)).1 = iX := by
     have h4 : (xs.map (·.1))[iX]? = some iX := by rw [hfst]; simp [hlt]
     rw [List.getElem?_map, List.getElem?_eq_getElem (by omega)] at h4; simpa using h4
   rw [this]
 have hnone : ∀ (D : Nat -> Prop) (h : List (Option ABlk)) (ys : List (Nat × AOp)), (∀ p ∈ ys, newOp p.2.o.op = false) -> Pend D h ys := by
   intro D h ys hy; refine ⟨fun p hp hn => (by rw [hy p hp] at hn; cases hn), ?_⟩
   exact List.pairwise_iff_forall_sublist.2 fun {p q} hs h1 _ => by
     have hp := hy p (hs.subset (by simp)); rw [hp] at h1; cases h1
 have hn' : ∀ p ∈ xs.take iX ++ xs.drop (iX + 1), newOp p.2.o.op = false := fun p hp => by simpa using List.all_eq_true.1 hnew p hp
 intro ρ D a w R b cs hb hk
 have hw : (Code.region (regId c) (regOps c) false).wpIn (wideR none) 0 P (fun e a' w' => e = .normal /\ ∃ ρ' D', Rel S0 C0 w0 ρ' D' st4 a' w') a w := by
   refine wpIn_region ?_; rw [hrange]; have s1 := arun_seq (P := P) (ops := regOps c) (Q := fun e a' w' => e = Exit.normal /\ ∃ ρ' D', Rel S0 C0 w0 ρ' D' st1 a' w') hT hK _ ρ D _ _ a w rs1 R (hnone D st.h _ fun p hp => hn' p (by simp [hp])) (fun p hp => hops p (List.mem_of_mem_take hp)) e1 (obsOf_all rs1 ho1) (fun ρ' D' a' w' h => ⟨rfl, ρ', D', h⟩); refine wpOps_in (Q := fun e a' w' => e = Exit.normal /\ ∃ ρ' D', Rel S0 C0 w0 ρ' D' st1 a' w') hd' (by rintro ⟨_, _, h, _⟩; cases h) (fun e a w hn h => absurd h.1 hn) _ ?_ _ a w s1 (fun e a w hn h => hn h.1); rintro a1 w1 ⟨_, ρ1, D1, R1⟩; rw [wpOpsIn_cons]; refine wpOpIn_mono ?_ (hX ρ1 D1 a1 w1 _ R1); rintro a2 w2 ⟨ρ2, D2, R2⟩; have s2 := arun_seq (P := P) (ops := regOps c) (Q := fun e a' w' => e = Exit.normal /\ ∃ ρ' D', Rel S0 C0 w0 ρ' D' st4 a' w') hT hK _ ρ2 D2 _ _ a2 w2 rs2 R2 (hnone D2 st2.h _ fun p hp => hn' p (by simp [hp])) (fun p hp => hops p (List.mem_of_mem_drop hp)) e3 (obsOf_all rs2 ho2) (fun ρ' D' a' w' h => ⟨rfl, ρ', D', h⟩); exact wpOps_in (Q' := fun e a' w' => e = .normal /\ ∃ ρ' D', Rel S0 C0 w0 ρ' D' st4 a' w') hd' (by rintro ⟨_, _, h, _⟩; cases h) (fun e a w hn h => absurd h.1 hn) [] (fun a w h => h) _ a2 w2 s2 (fun e a w hn h => hn h.1)
 let b0 : Frame := { b with roundOf := none }
 have hat : ∀ a todo, b.at a todo = b0.atR a todo := fun a todo => by simp [b0, Frame.at, Frame.atR]
 obtain ⟨e, a', w', ⟨rfl, ρ', D', R'⟩, harr⟩ := hw b0 k cs rfl trivial (room_wide _); obtain ⟨v, w2, fr, g1, g2, g3⟩ := hg ρ' D' a' w' R' b cs hb hk; refine ⟨v, w2, fr, g1, Steps.trans ?_ g2, g3⟩
 have := StepsIn.steps harr; rw [hc, hat, hat]; exact this
theorem Rel.act (R : Rel S0 C0 w0 ρ D ⟨σ, h⟩ a w) (hd : a'.defers = []) (hl : a'.tmps.size = σ'.length)
   (ht : ∀ t v, a'.tmps[t]? = some v -> RelV ρ (Sof S0 ρ h) w D (σ'.getD t .any) v) : Rel S0 C0 w0 ρ D ⟨σ', h⟩ a' w where
 defers := hd
 len := hl
 tmps := ht
 heap := R.heap
 inj := R.inj
 lt := R.lt
 dlt := R.dlt
 chg := R.chg
 mine := R.mine
def pinsH (ρ : Nat -> Nat) : Nat -> List (Option ABlk) -> List (Option ABlk)
 | _, [] => []
 | i, x :: xs => x.map (fun b => { b with pin := some (ρ i) }) :: pinsH ρ (i + 1) xs
theorem pinsH_get : ∀ {bs : List (Option ABlk)} {i l : Nat} {b : ABlk}, (pinsH ρ i bs)[l]? = some (some b) -> ∃ c, bs[l]? = some (some c) /\ b = { c with pin := some (ρ (i + l)) }
 | [], i, l, b, h => by simp [pinsH] at h
 | c :: bs, i, 0, b, h => by
   simp only [pinsH, List.getElem?_cons_zero] at h; injection h with h; cases c with
   | none => cases h
   | some c' => injection h with h; exact ⟨c', rfl, h.symm⟩
 | c :: bs, i, l + 1, b, h => by
   simp only [pinsH, List.getElem?_cons_succ] at h; obtain ⟨c', h1, h2⟩ := pinsH_get h; exact ⟨c', by simpa using h1, by rw [h2, show i + (l + 1) = i + 1 + l from by omega]⟩
theorem pinsH_get' : ∀ {bs : List (Option ABlk)} {i l : Nat} {c : ABlk}, bs[l]? = some (some c) -> (pinsH ρ i bs)[l]? = some (some { c with pin := some (ρ (i + l)) })
 | [], i, l, c, h => by simp at h
 | c :: bs, i, 0, c', h => by simp at h; subst h; rfl
 | c :: bs, i, l + 1, c', h => by
   simp only [pinsH, List.getElem?_cons_succ] at h ⊢; rw [pinsH_get' h, show i + (l + 1) = i + 1 + l from by omega]
theorem pinsH_length : ∀ {bs : List (Option ABlk)} {i : Nat}, (pinsH ρ i bs).length = bs.length
 | [], _ => rfl
 | c :: bs, i => by simp [pinsH, pinsH_length (bs := bs)]
theorem pinsH_Sof : Sof S ρ (pinsH ρ 0 h) = Sof S ρ h := by
 funext k; apply propext
 constructor
 · rintro (h | ⟨l, b, hb, e⟩)
   · exact .inl h
   · obtain ⟨c, hc, _⟩ := pinsH_get hb
     exact .inr ⟨l, c, hc, e⟩
 · rintro (h | ⟨l, b, hb, e⟩)
   · exact .inl h
   · exact .inr ⟨l, _, pinsH_get' hb, e⟩
theorem Rel.pinned (R : Rel S0 C0 w0 ρ D ⟨σ, h⟩ a w) : Rel S0 C0 w0 ρ D ⟨σ, pinsH ρ 0 h⟩ a w where
 defers := R.defers
 len := R.len
 tmps := by simp only [pinsH_Sof]; exact R.tmps
 heap := fun l b hb => by
   obtain ⟨c, hc, rfl⟩ := pinsH_get hb; rw [pinsH_Sof]; exact R.heap l c hc
 inj := fun l l' b b' hb hb' e => by
   obtain ⟨c, hc, _⟩ := pinsH_get hb; obtain ⟨c', hc', _⟩ := pinsH_get hb'; exact R.inj l l' c c' hc hc' e
 lt := R.lt
 dlt := fun l h => by rw [pinsH_length]; exact R.dlt l h
 chg := R.chg
 mine := fun l b hb => by
   obtain ⟨c, hc, rfl⟩ := pinsH_get hb; obtain ⟨h1, h2, _⟩ := R.mine l c hc; exact ⟨h1, h2, fun i hi => by simp at hi; exact hi⟩
theorem Chg.put (hn : ∀ (arr : Array Value) (ty : TypeId), w.heap[l]? ≠ some (Obj.cells arr ty (0, 0))) : Chg (· = l) w (w.putObj l o) where
 os := rfl
 tape := rfl
 output := rfl
 size := by simp
 block := fun k _ h => World.putObj_heap_other h
 row := fun k arr ty h => ⟨arr, ty, by rw [World.putObj_heap_other (fun e : k = l => hn arr ty (by rw [<- e]; exact h))]; exact h, Nat.le_refl _⟩
theorem Chg.back (h : Chg (fun k => C k \/ k = l) a b) (hl : b.heap[l]? = a.heap[l]?) : Chg C a b where
 os := h.os
 tape := h.tape
 output := h.output
 size := h.size
 block := fun k hk hn => by
   by_cases e : k = l
   · rw [e]; exact hl
   · exact h.block k hk fun hc => hc.elim hn e
 row := h.row
def KeepN (ρ : Nat -> Nat) (S : Nat -> Prop) (w : World) (D : Nat -> Prop) (ρ' : Nat -> Nat) (S' : Nat -> Prop) (w' : World) (D' : Nat -> Prop) : Prop :=
 ∀ (V : AV) (v : Value), notTup V = true -> noRefV V = true -> RelV ρ S w D V v -> RelV ρ' S' w' D' V v
theorem KeepN.trans (h : KeepN ρ S w D ρ1 S1 w1 D1) (k : KeepN ρ1 S1 w1 D1 ρ2 S2 w2 D2) : KeepN ρ S w D ρ2 S2 w2 D2 :=
 fun V v h1 h2 h3 => k V v h1 h2 (h V v h1 h2 h3)
theorem KeepN.put (hS : S l) : KeepN ρ S w D ρ S (w.putObj l o) D := by
 intro V v h1 h2 h3; have hk : Keep ρ S w No ρ S (w.putObj l o) := ⟨by simp, fun i hi => hi.elim, fun k hk hs => ⟨hs, World.putObj_heap_other fun e => hs (e ▸ hS)⟩⟩; exact RelV.of0 ((RelV0.noRef h3 h2 ρ).keep (fun _ h => h.elim) hk)
theorem round_ok (R : Rel S1 C1 w1 ρ D ⟨σ, h⟩ a w)
   (hl1 : w1.heap[l]? = some (.loop rec)) (hSl : S1 l) (hCl : ¬ C1 l) (hst : rec.state = .ready) (hpd : rec.pending = none)
   (hlen : tmps.size = σr.length) (hslots : ∀ t v, tmps[t]? = some v -> RelV ρ (Sof S1 ρ h) w D (σr.getD t .any) v)
   (hA : ∀ C' W0 ρ D a, Rel S1 C' W0 ρ D ⟨σr, h⟩ a W0 -> ∀ Q : Exit -> Act -> World -> Prop, (∀ ρ' D' a' W', Rel S1 C' W0 ρ' D' ⟨σa, h⟩ a' W' -> Q .normal a' W') -> assign.wpIn (wideR (some l)) 0 P Q a W0)
   (hB : ∀ C' W1 ρ D a, Rel S1 C' W1 ρ D ⟨σa, h⟩ a W1 -> ∀ Q : Exit -> Act -> World -> Prop, (∀ ρ' D' a' W', Rel S1 C' W1 ρ' D' ⟨σb, h'⟩ a' W' -> Q .normal a' W') -> body.wpIn (wideR (some l)) 0 P Q a W1) :
   RoundIn (wideR none) 0 P l f tmps assign body w (fun e W => e = .returned (.bool true) /\ ∃ ρ' D', Rel S1 C1 w1 ρ' D' ⟨[], h'⟩ ⟨#[], []⟩ W /\ KeepN ρ (Sof S1 ρ h) w D ρ' (Sof S1 ρ' h') W D') := by
 have hlw : l < w1.heap.size := lt_of_heap hl1; have hlw0 : w.heap[l]? = some (.loop rec) := by rw [R.chg.block l hlw hCl]; exact hl1
 have hno : ∀ {C2 : Nat -> Prop} {W2 : World} {ρ2 : Nat -> Nat} {D2 : Nat -> Prop} {σ2 : List AV} {h2 : List (Option ABlk)} {a2 : Act} {W3 : World}, Rel S1 C2 W2 ρ2 D2 ⟨σ2, h2⟩ a2 W3 -> ¬ OwnB ρ2 h2 l := by
   rintro C2 W2 ρ2 D2 σ2 h2 a2 W3 R' ⟨i, b, hb, e⟩; exact (R'.mine i b hb).2.1 (e ▸ hSl)
 have hcar : ∀ {ρx ρ2 : Nat -> Nat} {D2 Dx : Nat -> Prop} {σ2 : List AV} {hx h2 : List (Option ABlk)} {a2 : Act} {Wa Wb : World}, Rel S1 (OwnB ρx hx) Wa ρ2 D2 ⟨σ2, h2⟩ a2 Wb -> KeepN ρx (Sof S1 ρx hx) Wa Dx ρ2 (Sof S1 ρ2 h2) Wb D2 := by
   intro ρx ρ2 D2 Dx σ2 hx h2 a2 Wa Wb R' V v h1 h2 h3; exact R'.carry (fun k hk => .inr hk) (fun k hk => .inl hk) h1 h2 h3
 have R0 : Rel S1 (OwnB ρ h) w ρ D ⟨σr, h⟩ { tmps := tmps, defers := [] } w :=
   R.turnW (Nat.le_refl _) (fun k hk hs => rfl) (fun k arr ty hc => rfl) (fun _ _ h => h) (fun k hk => R.lt k hk) (fun k _ _ ho => .inl ho) (Chg.refl _ _) rfl hlen hslots
 refine roundIn_of_wpIn trivial ?_; refine hA (OwnB ρ h) w ρ D _ R0 _ ?_; intro ρ1 D1 a1 W R1; show ∃ w₂, _ /\ _; have hlW : W.heap[l]? = some (.loop rec) := by rw [R1.chg.block l (lt_of_heap hlw0) (hno R0)]; exact hlw0
 refine ⟨_, run_beginRound hlW hst, ?_⟩; have hn1 : ∀ (arr : Array Value) (ty : TypeId), W.heap[l]? ≠ some (Obj.cells arr ty (0, 0)) := fun arr ty e => by rw [hlW] at e; cases e
 have kn1 : KeepN ρ1 (Sof S1 ρ1 h) W D1 ρ1 (Sof S1 ρ1 h) (W.putObj l (.loop { rec with state := .busy })) D1 := KeepN.put (.inl hSl); generalize hW1 : W.putObj l (.loop { rec with state := .busy }) = W1 at kn1; have c1 : Chg (· = l) W W1 := hW1 ▸ Chg.put hn1
 have hl2 : W1.heap[l]? = some (.loop { rec with state := .busy }) := by
   rw [<- hW1]; exact World.putObj_heap_same (lt_of_heap hlW)
 have oth1 : ∀ k, k ≠ l -> W1.heap[k]? = W.heap[k]? := fun k hk => by rw [<- hW1]; exact World.putObj_heap_other hk
 have sz1 : W1.heap.size = W.heap.size := by rw [<- hW1]; simp
 have R2 : Rel S1 (OwnB ρ1 h) W1 ρ1 D1 ⟨σa, h⟩ a1 W1 := by
   refine R1.turnW (by omega) (fun k hk hs => oth1 k fun e => hs (e ▸ hSl)) (fun k arr ty hc => oth1 k fun e => hn1 arr ty (e ▸ hc)) (fun _ _ h => h) (fun k hk => by rw [sz1]; exact R1.lt k hk) (fun k _ _ ho => .inl ho) (Chg.refl _ _) R1.defers R1.len R1.tmps
 refine hB (OwnB ρ1 h) W1 ρ1 D1 a1 R2 _ ?_; intro ρ2 D2 a2 W2 R3
 have hlW2 : W2.heap[l]? = some (.loop { rec with state := .busy }) := by
   rw [R3.chg.block l (lt_of_heap hl2) (hno R2)]; exact hl2
 have hn2 : ∀ (arr : Array Value) (ty : TypeId), W2.heap[l]? ≠ some (Obj.cells arr ty (0, 0)) := fun arr ty e => by rw [hlW2] at e; cases e
 refine ⟨_, _, run_endRound none hlW2, rfl, ρ2, D2, ?_⟩; have kn2 : KeepN ρ2 (Sof S1 ρ2 h') W2 D2 ρ2 (Sof S1 ρ2 h') (W2.putObj l (.loop { ({ rec with state := .busy } : Loop) with state := if (none : Option Code).isNone then .ready else .done, pending := none })) D2 := KeepN.put (.inl hSl); generalize hW3 : W2.putObj l (.loop { ({ rec with state := .busy } : Loop) with state := if (none : Option Code).isNone then .ready else .done, pending := none }) = W3 at kn2 ⊢; have c3 : Chg (· = l) W2 W3 := hW3 ▸ Chg.put hn2
 have hl3 : W3.heap[l]? = some (.loop rec) := by
   rw [<- hW3, World.putObj_heap_same (lt_of_heap hlW2)]; obtain ⟨s, p, g1, g2, g3, g4, g5, g6⟩ := rec; simp only at hst hpd; subst hst; subst hpd; rfl
 have oth3 : ∀ k, k ≠ l -> W3.heap[k]? = W2.heap[k]? := fun k hk => by rw [<- hW3]; exact World.putObj_heap_other hk
 have sz3 : W3.heap.size = W2.heap.size := by rw [<- hW3]; simp
 have hown0 : ∀ k, k < w1.heap.size -> OwnB ρ h k -> C1 k := by
   rintro k hk ⟨i, b, hb, rfl⟩; rcases (R.mine i b hb).1 with h | h
   · exact h
   · omega
 have sz0 := R.chg.size; have sz01 := R1.chg.size
 have hown : ∀ k, k < w1.heap.size -> OwnB ρ1 h k -> C1 k := by
   rintro k hk ⟨i, b, hb, rfl⟩; rcases (R1.mine i b hb).1 with h | h
   · exact hown0 _ hk h
   · omega
 have hch : Chg C1 w1 W3 := by
   refine Chg.back (l := l) ?_ (by rw [hl3, hl1]); have t0 : Chg (fun k => C1 k \/ k = l) w1 W := Chg.trans (Chg.trans (C0 := fun k => C1 k \/ k = l) (Chg.refl _ _) R.chg (fun _ _ h => .inl h)) R1.chg (fun k hk h => .inl (hown0 k hk h)); have t1 : Chg (fun k => C1 k \/ k = l) w1 W1 := Chg.trans t0 c1 (fun _ _ h => .inr h); have t2 : Chg (fun k => C1 k \/ k = l) w1 W2 := Chg.trans t1 R3.chg (fun k hk h => .inl (hown k hk h)); exact Chg.trans t2 c3 (fun _ _ h => .inr h)
 refine ⟨?_, ((hcar R1).trans kn1).trans ((hcar R3).trans kn2)⟩; refine R3.turnW (by omega) (fun k hk hs => oth3 k fun e => hs (e ▸ hSl)) (fun k arr ty hc => oth3 k fun e => hn2 arr ty (e ▸ hc)) (fun _ _ h => h) (fun k hk => by rw [sz3]; exact R3.lt k hk) ?_ hch rfl (by rfl) (fun t v hv => by simp at hv); rintro k hs hc _; rcases hc with hc | hc
 · by_cases hk : k < w1.heap.size
   · exact .inl (hown k hk hc)
   · exact .inr (by omega)
 · exact .inr (by omega)
theorem slots_rel {ρ : Nat -> Nat} {S : Nat -> Prop} {w : World} {D : Nat -> Prop} {tm : Array Value} {n : Nat} {xs : List (Nat × AV)} (h : ∀ p ∈ xs, ∀ v, tm[p.1]? = some v -> RelV ρ S w D p.2 v) :
   ∀ t v, tm[t]? = some v -> RelV ρ S w D ((slots n xs).getD t .any) v := by
 unfold slots
 have : ∀ (ys : List (Nat × AV)) (σ : List AV), (∀ p ∈ ys, ∀ v, tm[p.1]? = some v -> RelV ρ S w D p.2 v) -> (∀ t v, tm[t]? = some v -> RelV ρ S w D (σ.getD t .any) v) ->
     ∀ t v, tm[t]? = some v -> RelV ρ S w D ((ys.foldl (fun σ p => σ.set p.1 p.2) σ).getD t .any) v := by
   intro ys
   induction ys with
   | nil => intro σ _ h2; exact h2
   | cons y ys ih =>
     intro σ h1 h2; simp only [List.foldl_cons]; refine ih _ (fun p hp => h1 p (by simp [hp])) fun t v hv => ?_
     rw [set_getD]
     split
     · rename_i e; exact h1 y (by simp) v (e.1 ▸ hv)
     · exact h2 t v hv
 refine this xs _ h fun t v hv => ?_
 have : (List.replicate n AV.any).getD t .any = .any := by
   simp only [List.getD_eq_getElem?_getD, List.getElem?_replicate]
   split <;> rfl
 rw [this]; trivial
theorem round_op
   (R : Rel S0 C0 w0 ρ D st a w) (ho : ops[iX]? = some o) (hop : o.op = .call c) (hc : c.callee = .value g) (ha : c.args = #[x]) (hw : awant ops st.σ o = some true) (hg : aval st.σ g = .lit (.func (.yield l) #[] #[]))
   (hl : w.heap[l]? = some (.loop rec)) (hp : rec.params = #[t])
   (hround : RoundIn (wideR none) 0 P l rec.fn (rec.tmps.setIfInBounds t (a.eval x)) rec.assign rec.body w (fun e W => ∃ v, e = .returned v /\ next (a.put o.dst v) W)) : wpOpIn (wideR none) 0 P ops Q iX next a w := by
 unfold wpOpIn; rw [ho]; simp only; rw [awant_ok R hw, if_pos rfl]; refine ⟨fun _ _ => trivial, ?_⟩
 have hgv : a.eval g = .func (.yield l) #[] #[] := by
   have h := R.eval g; rw [hg] at h; have h' : RelCs ρ (Sof S0 ρ st.h) w D [.lit (.func (.yield l) #[] #[])] [a.eval g] := h; generalize a.eval g = v at h'; cases h' with
   | lit _ _ => rfl
 have e1 : o.semAt (wideR none).round a.eval = execOp a.eval o := rfl
 have e2 : (execOp a.eval o).run P w = .ok (.round l rec.fn (rec.tmps.setIfInBounds t (a.eval x)) rec.assign rec.body) w := by
   rw [execOp, hop]; simp only [resolve, hc, hgv, ha, Deferred.ofValue, Sem.run_bind, Sem.run_pure, Result.andThen_ok, invoke]
   have := run_yield (P := P) (args := #[a.eval x]) hl (by simp [hp]); simp [hp] at this; simpa using this
 rw [e1, e2]; refine ⟨fun h => by simp [Fence.wide] at h, RoundIn.mono hround ?_⟩; rintro e W ⟨v, rfl, h⟩; exact h
end
end Go.Av
namespace Go.Av
open Go.Proofs Go.RowKit
def k211 : KF
 | [] => some (.agg [.q ((Int.cast 1 : Rat) / (Int.cast 2 : Rat)) 64], [])
 | _ => none
theorem a211 : Ctr 211 k211 := by
 refine ctr Tryz.f211 fun _ _ _ S w0 h ho => ?_
 unfold k211 at h; split at h <;> cases h; have K := kn.cons a105; exact rR K [] (.a4 (dc ((-9223372036854775808 : Int) <= 1)) (dc (1 <= (9223372036854775807 : Int))) (dc ((-9223372036854775808 : Int) <= 2)) (dc (2 <= (9223372036854775807 : Int))))
end Go.Av
namespace Go.Av
open Go.RowKit
theorem RefC.listW (hl : ys.length = xs.length) (h : ∀ (i : Nat) (el el' : List AV), xs[i]? = some el -> ys[i]? = some el' -> RefC el el') : RefC (.list e xs :: cs) (.list e ys :: cs) := fun ρ S w D vs x => by
 cases x with
 | list f h1 h2 h3 h4 h5 h6 =>
   rw [<- hl]; refine .list f (by rw [hl]; exact h1) h2 (fun i hi => h3 i (by omega)) (fun i el hel => ?_) (fun hp => ?_) h6
   · have hi : i < xs.length := by rw [<- hl]; exact (List.getElem?_eq_some_iff.1 hel).1
     exact h i _ el (List.getElem?_eq_getElem hi) hel _ _ _ _ _ (h4 i _ (List.getElem?_eq_getElem hi))
   · obtain ⟨ad, e1, e2, e3, e4⟩ := h5 (by omega)
     exact ⟨ad, e1, e2, e3, fun i hi => e4 i (by omega)⟩
theorem Ref.listW (hl : ys.length = xs.length) (h : ∀ (i : Nat) (el el' : List AV), xs[i]? = some el -> ys[i]? = some el' -> RefC el el') : Ref (.list e xs) (.list e ys) := fun ρ S w D v x => RelV_one (RefC.listW hl h _ _ _ _ _ x)
theorem Ref.list1 (h : RefC a b) : Ref (.list e [a]) (.list e [b]) := Ref.listW rfl fun i el el' h1 h2 => by
 cases i with
 | zero => simp at h1 h2; subst h1; subst h2; exact h
 | succ i => simp at h1
theorem Ref.list2 (h : RefC a b) (k : RefC c d) : Ref (.list e [a, c]) (.list e [b, d]) := Ref.listW rfl fun i el el' h1 h2 => by
 match i, h1, h2 with
 | 0, h1, h2 => simp at h1 h2; subst h1; subst h2; exact h
 | 1, h1, h2 => simp at h1 h2; subst h1; subst h2; exact k
 | i + 2, h1, h2 => simp at h1
theorem Ref.listM {α : Type} {e : Nat} {f g : α -> List AV} (l : List α) (h : ∀ x ∈ l, RefC (f x) (g x)) : Ref (.list e (l.map f)) (.list e (l.map g)) := Ref.listW (by simp) fun i el el' h1 h2 => by
 rw [List.getElem?_map] at h1 h2; obtain ⟨x, hx, rfl⟩ := Option.map_eq_some_iff.1 h1; rw [hx] at h2; injection h2 with h2; subst h2; exact h x (List.mem_of_getElem? hx)
theorem RefC.listM {α : Type} {e : Nat} {f g : α -> List AV} {cs : List AV} (l : List α) (h : ∀ x ∈ l, RefC (f x) (g x)) : RefC (.list e (l.map f) :: cs) (.list e (l.map g) :: cs) := RefC.listW (by simp) fun i el el' h1 h2 => by
 rw [List.getElem?_map] at h1 h2; obtain ⟨x, hx, rfl⟩ := Option.map_eq_some_iff.1 h1; rw [hx] at h2; injection h2 with h2; subst h2; exact h x (List.mem_of_getElem? hx)
theorem sgn_lt {x : Rat} : Int.sign x.num = -1 ↔ x < 0 := by
 have h : x < 0 ↔ x.num < 0 := by rw [Rat.lt_iff]; simp
 rw [h]; exact Int.sign_eq_neg_one_iff_neg
theorem sgn_zero {x : Rat} : Int.sign x.num = 0 ↔ x = 0 := ⟨fun h => Rat.num_eq_zero.1 (Int.sign_eq_zero_iff_zero.1 h), fun h => by rw [h]; rfl⟩
theorem sgn_gt {x : Rat} : 0 < Int.sign x.num ↔ 0 < x := by
 have h : 0 < x ↔ 0 < x.num := by rw [Rat.lt_iff]; simp
 rw [h]; rcases Int.lt_trichotomy x.num 0 with k | k | k
 · rw [Int.sign_eq_neg_one_of_neg k]; omega
 · rw [k]; decide
 · rw [Int.sign_eq_one_of_pos k]; omega
end Go.Av
