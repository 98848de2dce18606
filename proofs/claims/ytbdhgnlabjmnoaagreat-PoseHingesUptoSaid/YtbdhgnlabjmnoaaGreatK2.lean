/- PoseHinges: a part of its proof. No condition. -/
import Derived.Test.YtbdhgnlabjmnoaaGreatK1
set_option linter.all false
set_option maxRecDepth 100000
set_option autoImplicit true
set_option relaxedAutoImplicit true
namespace Go.Av
open Go.Proofs Go.RowKit
def k205 : KF
 | [.nat n B, .nat m C] => some (.tup [.nat (n / m) B, .nat (n % m) (max B C)], [0 < m, max B C + 128 <= LIM])
 | _ => none
theorem or_two {r x : Nat} (hr : r < 4294967296) (hx : x < 4294967296) : Ref (AV.int .u64 (IntKind.u64.wrap (BitVec.ofInt 64 ((r * 2 ^ 32 % 18446744073709551616 : Nat) : Int) ||| BitVec.ofInt 64 ((x : Nat) : Int)).toNat)) (AV.int .u64 ((r * 4294967296 + x : Nat) : Int)) := by
 refine (Ref.or64 ⟨by omega, by omega⟩).trans (Ref.nat_eq ?_); have e1 : r * 2 ^ 32 % 18446744073709551616 = 2 ^ 32 * r := by rw [Nat.mod_eq_of_lt (by omega), Nat.mul_comm]
 rw [e1, or_parts hx]; omega
theorem Ref.wrI {x y : Int} (h : x = y) (b : -9223372036854775808 <= y /\ y <= 9223372036854775807) : Ref (.i6 (IntKind.i64.wrap x)) (.i6 y) := by
 subst h; exact Ref.wr b
theorem Ref.wrU {x y : Int} (h : x = y) (b : 0 <= y /\ y <= 18446744073709551615) : Ref (.int .u64 (IntKind.u64.wrap x)) (.int .u64 y) := by
 subst h; exact Ref.wr b
theorem top_le {b u2 u1 u0 v1 v0 P w w' W V : Nat} (hW : W = ((u2 * b + u1) * b + u0) * P + w) (hV : V = (v1 * b + v0) * P + w') (hw' : w' < P) (hv0 : v0 < b) (h : W < b * V) : u2 <= v1 := by
 rcases Nat.lt_or_ge v1 u2 with h' | h'
 · exfalso
   have h1 : ((v1 + 1) * b) * b <= (u2 * b + u1) * b + u0 := by
     have a := Nat.mul_le_mul_right b (Nat.mul_le_mul_right b (show v1 + 1 <= u2 from h')); have c : (u2 * b + u1) * b = u2 * b * b + u1 * b := by rw [Nat.add_mul]
     omega
   have h2 := Nat.mul_le_mul_right P h1; have h3 : v1 * b + v0 + 1 <= (v1 + 1) * b := by rw [Nat.add_mul]; omega
   have h4 := Nat.mul_le_mul_right P h3; rw [Nat.add_mul (v1 * b + v0) 1] at h4; have h5 : V < (v1 + 1) * b * P := by omega
   have h6 : b * V <= b * ((v1 + 1) * b * P) := Nat.mul_le_mul_left _ (Nat.le_of_lt h5)
   have e : b * ((v1 + 1) * b * P) = (v1 + 1) * b * b * P := by
     rw [<- Nat.mul_assoc, Nat.mul_comm b]
   omega
 · exact h'
theorem row_lt {x b X V : Nat} (hx : x < b) (hX : X < V) : x + b * X < b * V := by
 have := Nat.mul_le_mul_left b hX; rw [Nat.mul_succ] at this; omega
section
variable {S : Nat -> Prop} {w0 : World}
noncomputable abbrev T205 : List Item := [.code (nav [1, 1, 1, 1, 1, 1, 1, 1, 1, 0, 1, 0, 0] (bodyOf Tryz.f205)), .inLoop (nav [1, 1, 1, 1, 1, 1, 1, 1, 1, 0, 1, 0, 0] (bodyOf Tryz.f205)), .inBlock 1, .code (nav [1, 1, 1, 1, 1, 1, 1, 1, 1, 1] (bodyOf Tryz.f205))]
noncomputable abbrev T205i : List Item := [.code (nav [1, 1, 1, 1, 1, 1, 1, 1, 1, 0, 1, 0, 0, 1, 0, 0, 1, 1, 0, 0, 0] (bodyOf Tryz.f205)), .inLoop (nav [1, 1, 1, 1, 1, 1, 1, 1, 1, 0, 1, 0, 0, 1, 0, 0, 1, 1, 0, 0, 0] (bodyOf Tryz.f205)), .inBlock 3, .code (nav [1, 1, 1, 1, 1, 1, 1, 1, 1, 0, 1, 0, 0, 1, 0, 0, 1, 1, 1] (bodyOf Tryz.f205)), .inBlock 2, .code (nav [1, 1, 1, 1, 1, 1, 1, 1, 1, 0, 1, 0, 0, 1, 1] (bodyOf Tryz.f205)), .inLoop (nav [1, 1, 1, 1, 1, 1, 1, 1, 1, 0, 1, 0, 0] (bodyOf Tryz.f205)), .inBlock 1, .code (nav [1, 1, 1, 1, 1, 1, 1, 1, 1, 1] (bodyOf Tryz.f205))]
noncomputable abbrev T205t : List Item := [.code (nav [1, 1, 1, 1, 1, 1, 1, 1, 1, 0, 1, 0, 0, 1, 0, 0, 1, 1, 1, 0, 0] (bodyOf Tryz.f205)), .code (nav [1, 1, 1, 1, 1, 1, 1, 1, 1, 0, 1, 0, 0, 1, 0, 0, 1, 1, 1, 0, 1] (bodyOf Tryz.f205)), .code (nav [1, 1, 1, 1, 1, 1, 1, 1, 1, 0, 1, 0, 0, 1, 0, 0, 1, 1, 1, 1] (bodyOf Tryz.f205)), .inBlock 2, .code (nav [1, 1, 1, 1, 1, 1, 1, 1, 1, 0, 1, 0, 0, 1, 1] (bodyOf Tryz.f205)), .inLoop (nav [1, 1, 1, 1, 1, 1, 1, 1, 1, 0, 1, 0, 0] (bodyOf Tryz.f205)), .inBlock 1, .code (nav [1, 1, 1, 1, 1, 1, 1, 1, 1, 1] (bodyOf Tryz.f205))]
structure Inv205 (vs : List Nat) (p l M L2 U : Nat) (k1 : Nat) (ds qs : List Nat) : Prop where
 dl : ds.length = L2
 dd : ∀ x ∈ ds, x < b32
 ql : qs.length = M
 qd : ∀ x ∈ qs, x < b32
 val : dval b32 ds + dval b32 vs * (b32 ^ k1 * dval b32 (qs.drop k1)) = U
 low : dval b32 (ds.drop k1) < dval b32 vs
 le : k1 <= M
variable {vs : List Nat} {k p l M L2 U : Nat} {Post : Value -> World -> Prop}
theorem take205 (hvl : vs.length = p + 2) (hvd : ∀ x ∈ vs, x < b32) (hMl : M + (p + 2) = l) (hlL : l <= L2) (hL : L2 <= LIM) {j g : Nat} {ds qs : List Nat} (hI : Inv205 vs p l M L2 U (j + 1) ds qs) (hg : g < b32)
   (h1 : dval b32 (ds.drop j) < (g + 1) * dval b32 vs) (h2 : g * dval b32 vs <= dval b32 (ds.drop j) + dval b32 vs)
   (next : ∀ ds qs, Inv205 vs p l M L2 U j ds qs -> Good Tryz.prog 205 S No w0 Post T205 ⟨slots 164 [(6, .i6 ((k : Nat) : Int)), (7, .list 1 (d32 vs)), (8, .i6 ((p + 2 : Nat) : Int)), (9, .own 0 1 0 l), (10, .own 1 1 0 M), (11, (.i6 (((j : Nat) : Int) - (1 : Int))))], [some ⟨362, 1, true, (d32 ds), none⟩, some ⟨362, 1, true, (d32 qs), none⟩]⟩) :
   Good Tryz.prog 205 S No w0 Post T205t ⟨slots 164 [(6, .i6 ((k : Nat) : Int)), (7, .list 1 (d32 vs)), (8, .i6 ((p + 2 : Nat) : Int)), (9, .own 0 1 0 l), (10, .own 1 1 0 M), (11, .i6 ((j : Nat) : Int)), (13, .int .u64 ((g : Nat) : Int))], [some ⟨362, 1, true, (d32 ds), none⟩, some ⟨362, 1, true, (d32 qs), none⟩]⟩ := by
 have hj := hI.le
 have hW : dval b32 (ds.drop j) < b32 ^ (vs.length + 1) := by
   rw [dval_drop_succ (by rw [hI.dl]; omega), Nat.pow_succ, Nat.mul_comm (b32 ^ vs.length)]; have a := row_lt (getD_lt (by decide) hI.dd j) hI.low; have c := Nat.mul_le_mul_left b32 (Nat.le_of_lt (dval_lt (by decide) hvd)); exact Nat.lt_of_lt_of_le a c
 rcases hR : takeS g vs j 0 0 ds with ⟨R, β⟩; obtain ⟨r1, r2, r3, r4, r5, r6⟩ := knuth_digit hI.dd hvd (by rw [hI.dl]; omega) hg hW h1 h2 hR rfl; unfold LIM at hL; unfold b32 at hg
 have step : ∀ (D : List Nat) (q : Nat), D.length = ds.length -> (∀ x ∈ D, x < b32) -> q < 4294967296 -> dval b32 D + b32 ^ j * (q * dval b32 vs) = dval b32 ds /\ dval b32 (D.drop j) < dval b32 vs -> Inv205 vs p l M L2 U j D (qs.set j q) := by
   intro D q e1 e2 e3 ⟨e4, e5⟩; refine ⟨by rw [e1, hI.dl], e2, by simp [hI.ql], set_lt hI.qd e3, ?_, e5, by omega⟩; rw [dval_drop_succ (by simp; rw [hI.ql]; omega), set_getD_self (by rw [hI.ql]; omega), drop_set_lt (by omega)]; have v := hI.val; rw [Nat.pow_succ] at v; exact quot_step e4 v
 cases β with
 | true =>
   obtain ⟨g0, q⟩ := r6 rfl; refine have_ (p := ((d32 vs) = d32 (un32 (d32 vs))) /\ ((d32 ds) = d32 (un32 (d32 ds))) /\ (∀ x ∈ un32 (d32 vs), x < b32) /\ (∀ x ∈ un32 (d32 ds), x < b32) /\ (g < b32) /\ (j + (un32 (d32 vs)).length < l) /\ (l <= (un32 (d32 ds)).length) /\ (l <= LIM) /\ (Ref (.int .u64 (IntKind.u64.wrap ((g : Int) - (1 : Int)))) (.int .u64 ((g - 1 : Nat) : Int))) /\ ((d32 (takeS g (un32 (d32 vs)) j 0 0 (un32 (d32 ds))).1) = d32 (un32 (d32 (takeS g (un32 (d32 vs)) j 0 0 (un32 (d32 ds))).1))) /\ (∀ x ∈ un32 (d32 (takeS g (un32 (d32 vs)) j 0 0 (un32 (d32 ds))).1), x < b32) /\ (l <= (un32 (d32 (takeS g (un32 (d32 vs)) j 0 0 (un32 (d32 ds))).1)).length) /\ (0 <= ((g - 1 : Nat) : Int) /\ ((g - 1 : Nat) : Int) <= 4294967295) /\ ((j : Int) < (M : Int)) /\ (0 + j < (d32 qs).length) /\ (-9223372036854775808 <= (j : Int) - (1 : Int) /\ (j : Int) - (1 : Int) <= 9223372036854775807)) ?_ fun ⟨q0, q1, q2, q3, q4, q5, q6, q7, q8, q9, q10, q11, q12, q13, q14, q15⟩ => gR KT205_ok none [4, 5, 6, 7, 8, 9, 10, 11] [0, 1] [(144, tt), (146, .int .u64 ((g - 1 : Nat) : Int)), (154, .int .u32 ((g - 1 : Nat) : Int)), (70, .i6 ((j : Int) - (1 : Int)))] (.c6 (show Ref (.bool ((takeS g (un32 (d32 vs)) j 0 0 (un32 (d32 ds))).2)) (.bool true) from Ref.bool (show ((takeS g (un32 (d32 vs)) j 0 0 (un32 (d32 ds))).2) = true by rw [un32_d32, un32_d32, hR])) (nn g) (nn j) q0 q1 q2 (.c6 q3 q4 q5 q6 q7 q8 (.c6 (nn j) q0 q9 q2 q10 q5 (.c6 q11 q7 (wV ((g - 1 : Nat) : Int) ((g - 1 : Nat) : Int) q12) (nn j) q13 q14 (.a1 (wI ((j : Int) - (1 : Int)) ((j : Int) - (1 : Int)) q15)))))) (t := T205) (σ := slots 164 [(6, .i6 (k : Int)), (7, .list 1 (d32 vs)), (8, .i6 ((p + 2 : Nat) : Int)), (9, .own 0 1 0 l), (10, .own 1 1 0 M), (11, .i6 ((j : Int) - (1 : Int)))]) (h := [some ⟨362, 1, true, (d32 (giveS (un32 (d32 vs)) j 0 (un32 (d32 (takeS g (un32 (d32 vs)) j 0 0 (un32 (d32 ds))).1)))), none⟩, some ⟨362, 1, true, ((d32 qs).set (0 + j) [.int .u32 ((g - 1 : Nat) : Int)]), none⟩]) ?_
   · simp only [un32_d32, d32_length, hR]
     refine ⟨trivial, trivial, hvd, hI.dd, hg, by omega, by rw [hI.dl]; exact hlL, by unfold LIM; omega, Ref.wrU (by omega) (by omega), trivial, r2, by rw [r1, hI.dl]; exact hlL, by omega, by omega, by rw [hI.ql]; omega, by omega⟩
   · simp only [un32_d32, hR]
     rw [d32_set, Nat.zero_add]; exact next _ _ (step _ _ r3 r4 (by omega) q)
 | false =>
   refine have_ (p := ((d32 vs) = d32 (un32 (d32 vs))) /\ ((d32 ds) = d32 (un32 (d32 ds))) /\ (∀ x ∈ un32 (d32 vs), x < b32) /\ (∀ x ∈ un32 (d32 ds), x < b32) /\ (g < b32) /\ (j + (un32 (d32 vs)).length < l) /\ (l <= (un32 (d32 ds)).length) /\ (l <= LIM) /\ (0 <= (g : Int) /\ (g : Int) <= 4294967295) /\ ((j : Int) < (M : Int)) /\ (0 + j < (d32 qs).length) /\ (-9223372036854775808 <= (j : Int) - (1 : Int) /\ (j : Int) - (1 : Int) <= 9223372036854775807)) ?_ fun ⟨q0, q1, q2, q3, q4, q5, q6, q7, q8, q9, q10, q11⟩ => gR KT205_ok none [4, 5, 6, 7, 8, 9, 10, 11] [0, 1] [(144, ff), (154, .int .u32 (g : Int)), (70, .i6 ((j : Int) - (1 : Int)))] (.c6 (show Ref (.bool ((takeS g (un32 (d32 vs)) j 0 0 (un32 (d32 ds))).2)) (.bool false) from Ref.bool (show ((takeS g (un32 (d32 vs)) j 0 0 (un32 (d32 ds))).2) = false by rw [un32_d32, un32_d32, hR])) (nn g) (nn j) q0 q1 q2 (.c6 q3 q4 q5 q6 q7 (wV (g : Int) (g : Int) q8) (.a4 (nn j) q9 q10 (wI ((j : Int) - (1 : Int)) ((j : Int) - (1 : Int)) q11)))) (t := T205) (σ := slots 164 [(6, .i6 (k : Int)), (7, .list 1 (d32 vs)), (8, .i6 ((p + 2 : Nat) : Int)), (9, .own 0 1 0 l), (10, .own 1 1 0 M), (11, .i6 ((j : Int) - (1 : Int)))]) (h := [some ⟨362, 1, true, (d32 (takeS g (un32 (d32 vs)) j 0 0 (un32 (d32 ds))).1), none⟩, some ⟨362, 1, true, ((d32 qs).set (0 + j) [.int .u32 (g : Int)]), none⟩]) ?_
   · simp only [un32_d32, d32_length]
     refine ⟨trivial, trivial, hvd, hI.dd, hg, by omega, by rw [hI.dl]; exact hlL, by unfold LIM; omega, by omega, by omega, by rw [hI.ql]; omega, by omega⟩
   · simp only [un32_d32, hR]
     rw [d32_set, Nat.zero_add]; exact next _ _ (step _ _ r1 r2 hg (r5 rfl))
theorem inner205 (hvl : vs.length = p + 2) (hvd : ∀ x ∈ vs, x < b32) (hv1 : 2147483648 <= vs.getD (p + 1) 0) (hMl : M + (p + 2) = l) (hlL : l <= L2) (hL : L2 <= LIM) {j : Nat} {ds qs : List Nat} (hI : Inv205 vs p l M L2 U (j + 1) ds qs)
   (next : ∀ ds qs, Inv205 vs p l M L2 U j ds qs -> Good Tryz.prog 205 S No w0 Post T205 ⟨slots 164 [(6, .i6 ((k : Nat) : Int)), (7, .list 1 (d32 vs)), (8, .i6 ((p + 2 : Nat) : Int)), (9, .own 0 1 0 l), (10, .own 1 1 0 M), (11, (.i6 (((j : Nat) : Int) - (1 : Int))))], [some ⟨362, 1, true, (d32 ds), none⟩, some ⟨362, 1, true, (d32 qs), none⟩]⟩) :
   ∀ (g r : Nat), g * vs.getD (p + 1) 0 + r = ds.getD (j + p + 2) 0 * b32 + ds.getD (j + p + 1) 0 -> dval b32 (ds.drop j) < (g + 1) * dval b32 vs -> g <= b32 + 1 -> r < b32 ->
   Good Tryz.prog 205 S No w0 Post T205i ⟨slots 164 [(6, .i6 ((k : Nat) : Int)), (7, .list 1 (d32 vs)), (8, .i6 ((p + 2 : Nat) : Int)), (9, .own 0 1 0 l), (10, .own 1 1 0 M), (11, .i6 ((j : Nat) : Int)), (13, .int .u64 ((g : Nat) : Int)), (14, .int .u64 ((r : Nat) : Int))], [some ⟨362, 1, true, (d32 ds), none⟩, some ⟨362, 1, true, (d32 qs), none⟩]⟩ := by
 have hj := hI.le
 have hWb : dval b32 (ds.drop j) < b32 * dval b32 vs := by
   rw [dval_drop_succ (by rw [hI.dl]; omega)]; exact row_lt (getD_lt (by decide) hI.dd j) hI.low
 have hW : dval b32 (ds.drop j) < b32 ^ (p + 3) := by
   have c := Nat.mul_le_mul_left b32 (Nat.le_of_lt (dval_lt (b := b32) (by decide) hvd)); rw [hvl, Nat.mul_comm b32 (b32 ^ (p + 2)), <- Nat.pow_succ] at c; exact Nat.lt_of_lt_of_le hWb c
 obtain ⟨w, hw, hWe⟩ := three_top hW hI.dd; obtain ⟨w', hw', hVe⟩ := two_top hvl hvd; have hu0 := getD_lt (b := b32) (by decide) hI.dd (j + p); have hu1 := getD_lt (b := b32) (by decide) hI.dd (j + p + 1); have hu2 := getD_lt (b := b32) (by decide) hI.dd (j + p + 2); have hv0 := getD_lt (b := b32) (by decide) hvd p; have hv1' := getD_lt (b := b32) (by decide) hvd (p + 1); have htop := top_le hWe hVe hw' hv0 hWb
 have hPV : b32 * b32 ^ p <= dval b32 vs := by
   rw [hVe, Nat.add_mul, Nat.add_assoc]; have : 1 * b32 <= vs.getD (p + 1) 0 * b32 := Nat.mul_le_mul_right _ (by omega)
   have := Nat.mul_le_mul_right (b32 ^ p) this; rw [Nat.one_mul] at this; omega
 intro g; have v4 : 0 <= (32 : Int) := by decide
 induction g with
 | zero =>
   intro r h1 h2 h3 h4; simp only [Nat.zero_mul] at h1; have hz : (0 : Nat) * dval b32 vs <= dval b32 (ds.drop j) + dval b32 vs := by rw [Nat.zero_mul]; omega
   unfold LIM at hL; unfold b32 at h4 hu0 hu1 hu2 hv0 hv1'; refine have_ (p := (Ref (.i6 (IntKind.i64.wrap (((p + 2 : Nat) : Int) - (2 : Int)))) (.i6 (p : Int))) /\ (p < vs.length) /\ ((p : Int) < ((d32 vs).length : Int)) /\ (0 <= (vs.getD p 0 : Int) /\ (vs.getD p 0 : Int) <= 18446744073709551615) /\ (0 <= (0 : Int) * (vs.getD p 0 : Int) /\ (0 : Int) * (vs.getD p 0 : Int) <= 18446744073709551615) /\ (32 <= 64) /\ (-9223372036854775808 <= (j : Int) + ((p + 2 : Nat) : Int) /\ (j : Int) + ((p + 2 : Nat) : Int) <= 9223372036854775807) /\ (Ref (.i6 (IntKind.i64.wrap (((j + p + 2 : Nat) : Int) - (2 : Int)))) (.i6 ((j + p : Nat) : Int))) /\ (((j + p : Nat) : Int) < (l : Int)) /\ (0 + (j + p) < ds.length) /\ (0 + (j + p) < (d32 ds).length) /\ (0 <= (ds.getD (0 + (j + p)) 0 : Int) /\ (ds.getD (0 + (j + p)) 0 : Int) <= 18446744073709551615) /\ (Ref (.int .u64 (IntKind.u64.wrap (BitVec.ofInt 64 ((r * 2 ^ 32 % 18446744073709551616 : Nat) : Int) ||| BitVec.ofInt 64 (ds.getD (0 + (j + p)) 0 : Int)).toNat)) (.int .u64 ((r * 4294967296 + ds.getD (0 + (j + p)) 0 : Nat) : Int)))) ?_ fun ⟨q0, q1, q2, q3, q4, q5, q6, q7, q8, q9, q10, q11, q12⟩ => gS KT205_ok (some 21) [4, 5, 6, 7, 8, 9, 10, 11, 13, 14] [(106, ff), (110, .i6 (p : Int)), (111, .cptr [.int .u32 (vs.getD p 0 : Int)] 0), (113, .int .u64 (vs.getD p 0 : Int)), (114, .int .u64 ((0 * (vs.getD p 0) : Nat) : Int)), (116, .int .u64 ((r * 2 ^ 32 % 18446744073709551616 : Nat) : Int)), (120, .i6 ((j + p + 2 : Nat) : Int)), (121, .i6 ((j + p : Nat) : Int)), (123, .int .u32 (ds.getD (0 + (j + p)) 0 : Int)), (124, .int .u64 (ds.getD (0 + (j + p)) 0 : Int)), (125, .int .u64 ((r * 4294967296 + ds.getD (0 + (j + p)) 0 : Nat) : Int)), (127, ff)] (.c6 (iF (om (¬ ((4294967296 : Int) <= (0 : Int))))) q0 (Ref.cd32 q1) (nn p) q2 (wU (vs.getD p 0 : Int) (vs.getD p 0 : Int) q3) (.c6 (wU ((0 : Int) * (vs.getD p 0 : Int)) ((0 * (vs.getD p 0) : Nat) : Int) q4) (show Ref (.int .u64 (IntKind.u64.wrap ((r : Int) * 2 ^ (min (32 : Int).toNat 64)))) (.int .u64 ((r * 2 ^ 32 % 18446744073709551616 : Nat) : Int)) from Ref.shl64 (x := r) (k := 32) q5) v4 (wI ((j : Int) + ((p + 2 : Nat) : Int)) ((j + p + 2 : Nat) : Int) q6) q7 (nn (j + p)) (.a6 q8 (Ref.cd32h q9) q10 (wU (ds.getD (0 + (j + p)) 0 : Int) (ds.getD (0 + (j + p)) 0 : Int) q11) q12 (iF (show ¬ (((r * 4294967296 + ds.getD (0 + (j + p)) 0 : Nat) : Int) < ((0 * (vs.getD p 0) : Nat) : Int)) by rw [Nat.zero_mul]; omega))))) (t := T205t) (σ := slots 164 [(6, .i6 (k : Int)), (7, .list 1 (d32 vs)), (8, .i6 ((p + 2 : Nat) : Int)), (9, .own 0 1 0 l), (10, .own 1 1 0 M), (11, .i6 (j : Int)), (13, .int .u64 (0 : Int)), (14, .int .u64 (r : Int))]) (h := [some ⟨362, 1, true, (d32 ds), none⟩, some ⟨362, 1, true, (d32 qs), none⟩]) ?_
   · simp only [Nat.zero_add, d32_length]
     refine ⟨Ref.wrI (by omega) (by omega), by omega, by omega, by omega, by omega, by omega, by omega, Ref.wrI (by omega) (by omega), by omega, by rw [hI.dl]; omega, by rw [hI.dl]; omega, by omega, or_two h4 hu0⟩
   · refine Good.weak 164 [(6, _), (7, _), (8, _), (9, _), (10, _), (11, _), (13, _)] (by kernel_rfl) (.r (.r (.r (.r (.r (.r (.r .nil))))))) ?_
     exact take205 hvl hvd hMl hlL (by unfold LIM; omega) hI (by decide) h2 hz next
 | succ g ih =>
   intro r h1 h2 h3 h4
   have hgv : (g + 1) * vs.getD p 0 <= 18446744073709551615 := by
     have a : (g + 1) * vs.getD p 0 <= 4294967297 * 4294967295 := Nat.mul_le_mul h3 (by unfold b32 at hv0; omega); omega
   have hsucc : (g + 1) * vs.getD (p + 1) 0 = g * vs.getD (p + 1) 0 + vs.getD (p + 1) 0 := by rw [Nat.add_mul, Nat.one_mul]
   have hgo : g * vs.getD (p + 1) 0 + (r + vs.getD (p + 1) 0) = ds.getD (j + p + 2) 0 * b32 + ds.getD (j + p + 1) 0 := by omega
   have brk : dval b32 (ds.drop j) < (g + 1) * dval b32 vs -> b32 <= r + vs.getD (p + 1) 0 -> Good Tryz.prog 205 S No w0 Post T205t ⟨slots 164 [(6, .i6 ((k : Nat) : Int)), (7, .list 1 (d32 vs)), (8, .i6 ((p + 2 : Nat) : Int)), (9, .own 0 1 0 l), (10, .own 1 1 0 M), (11, .i6 ((j : Nat) : Int)), (13, .int .u64 ((g : Nat) : Int))], [some ⟨362, 1, true, (d32 ds), none⟩, some ⟨362, 1, true, (d32 qs), none⟩]⟩ := by
     intro hlt hbr
     have hgb : g < b32 := by
       rcases Nat.lt_or_ge g b32 with h | h
       · exact h
       · exfalso
         have a := Nat.mul_le_mul_right (vs.getD (p + 1) 0) h; have c := Nat.mul_le_mul_right b32 htop; rw [Nat.mul_comm] at a; omega
     refine take205 hvl hvd hMl hlL hL hI hgb hlt ?_ next; refine knuth_low (r := r + vs.getD (p + 1) 0) hWe hVe hw' hPV (Nat.le_of_lt hgb) ⟨_, _, rfl, hgo, ?_⟩; have a : g * vs.getD p 0 <= b32 * b32 := Nat.mul_le_mul (Nat.le_of_lt hgb) (Nat.le_of_lt hv0); have c := Nat.mul_le_mul_right b32 hbr; omega
   have hor := or_two (r := r) (x := ds.getD (j + p) 0) (by unfold b32 at h4; exact h4) (by unfold b32 at hu0; exact hu0); have hL' := hL; unfold LIM at hL'; have fb : b32 = 4294967296 := rfl; have e1 : Ref (AV.int .u64 (IntKind.u64.wrap (((g + 1 : Nat) : Int) - (1 : Int)))) (AV.int .u64 ((g + 1 - 1 : Nat) : Int)) := Ref.wrU (by omega) (by omega); have hcast : ((g + 1 : Nat) : Int) * ((vs.getD p 0 : Nat) : Int) = (((g + 1) * vs.getD p 0 : Nat) : Int) := by simp
   by_cases c1 : b32 <= g + 1
   · have hlt : dval b32 (ds.drop j) < (g + 1) * dval b32 vs := Nat.lt_of_lt_of_le hWb (Nat.mul_le_mul_right _ c1)
     have v0 : Ref (.i6 (IntKind.i64.wrap (((p + 2 : Nat) : Int) - (1 : Int)))) (.i6 ((p + 1 : Nat) : Int)) := Ref.wrI (by omega) (by omega); have v1 : Ref (.cptr ((d32 vs).getD (p + 1) []) 0) (.cptr [.int .u32 (vs.getD (p + 1) 0 : Int)] 0) := Ref.cd32 ((om (p + 1 < vs.length))); have v5 : ((p + 1 : Nat) : Int) < ((d32 vs).length : Int) := by rw [d32_length]; omega
     have v6 : (4294967296 : Int) <= (((g + 1) : Nat) : Int) := by omega
     by_cases c2 : b32 <= r + vs.getD (p + 1) 0
     · refine gS KT205_ok (some 21) [4, 5, 6, 7, 8, 9, 10, 11, 13, 14] [(106, tt), (129, .int .u64 (((g + 1) - 1 : Nat) : Int)), (133, .i6 ((p + 1 : Nat) : Int)), (134, .cptr [.int .u32 (vs.getD (p + 1) 0 : Int)] 0), (136, .int .u64 (vs.getD (p + 1) 0 : Int)), (137, .int .u64 ((r + vs.getD (p + 1) 0 : Nat) : Int)), (139, tt)] (.c6 (iT v6) e1 v0 v1 (nn (p + 1)) v5 (.a3 (wU (vs.getD (p + 1) 0 : Int) (vs.getD (p + 1) 0 : Int)) (wU ((r : Int) + (vs.getD (p + 1) 0 : Int)) ((r + vs.getD (p + 1) 0 : Nat) : Int)) (iT (om ((4294967296 : Int) <= ((r + vs.getD (p + 1) 0 : Nat) : Int)))))) (t := T205t) (σ := slots 164 [(6, .i6 (k : Int)), (7, .list 1 (d32 vs)), (8, .i6 ((p + 2 : Nat) : Int)), (9, .own 0 1 0 l), (10, .own 1 1 0 M), (11, .i6 (j : Int)), (13, (.int .u64 (((g + 1) - 1 : Nat) : Int))), (14, (.int .u64 ((r + vs.getD (p + 1) 0 : Nat) : Int)))]) (h := [some ⟨362, 1, true, (d32 ds), none⟩, some ⟨362, 1, true, (d32 qs), none⟩]) ?_
       refine Good.weak 164 [(6, _), (7, _), (8, _), (9, _), (10, _), (11, _), (13, _)] (by kernel_rfl) (.r (.r (.r (.r (.r (.r (.r .nil))))))) ?_; exact brk hlt c2
     · exact gS KT205_ok (some 21) [4, 5, 6, 7, 8, 9, 10, 11, 13, 14] [(106, tt), (129, .int .u64 (((g + 1) - 1 : Nat) : Int)), (133, .i6 ((p + 1 : Nat) : Int)), (134, .cptr [.int .u32 (vs.getD (p + 1) 0 : Int)] 0), (136, .int .u64 (vs.getD (p + 1) 0 : Int)), (137, .int .u64 ((r + vs.getD (p + 1) 0 : Nat) : Int)), (139, ff)] (.c6 (iT v6) e1 v0 v1 (nn (p + 1)) v5 (.a3 (wU (vs.getD (p + 1) 0 : Int) (vs.getD (p + 1) 0 : Int)) (wU ((r : Int) + (vs.getD (p + 1) 0 : Int)) ((r + vs.getD (p + 1) 0 : Nat) : Int)) (iF (om (¬ ((4294967296 : Int) <= ((r + vs.getD (p + 1) 0 : Nat) : Int))))))) (ih _ hgo hlt (by omega) (by omega))
   · have v3 : ¬ ((4294967296 : Int) <= (((g + 1) : Nat) : Int)) := by omega
     by_cases c3 : r * 4294967296 + ds.getD (j + p) 0 < (g + 1) * vs.getD p 0
     · have hlt : dval b32 (ds.drop j) < (g + 1) * dval b32 vs := knuth_high (r := r) hWe hw hVe ⟨_, _, rfl, h1, c3⟩
       have v2 : ((r * 4294967296 + ds.getD (0 + (j + p)) 0 : Nat) : Int) < (((g + 1) * (vs.getD p 0) : Nat) : Int) := by rw [Nat.zero_add]; omega
       by_cases c2 : b32 <= r + vs.getD (p + 1) 0
       · refine have_ (p := (Ref (.i6 (IntKind.i64.wrap (((p + 2 : Nat) : Int) - (2 : Int)))) (.i6 (p : Int))) /\ (p < vs.length) /\ ((p : Int) < ((d32 vs).length : Int)) /\ (0 <= (vs.getD p 0 : Int) /\ (vs.getD p 0 : Int) <= 18446744073709551615) /\ (0 <= (((g + 1) : Nat) : Int) * (vs.getD p 0 : Int) /\ (((g + 1) : Nat) : Int) * (vs.getD p 0 : Int) <= 18446744073709551615) /\ (32 <= 64) /\ (-9223372036854775808 <= (j : Int) + ((p + 2 : Nat) : Int) /\ (j : Int) + ((p + 2 : Nat) : Int) <= 9223372036854775807) /\ (Ref (.i6 (IntKind.i64.wrap (((j + p + 2 : Nat) : Int) - (2 : Int)))) (.i6 ((j + p : Nat) : Int))) /\ (((j + p : Nat) : Int) < (l : Int)) /\ (0 + (j + p) < ds.length) /\ (0 + (j + p) < (d32 ds).length) /\ (0 <= (ds.getD (0 + (j + p)) 0 : Int) /\ (ds.getD (0 + (j + p)) 0 : Int) <= 18446744073709551615) /\ (Ref (.int .u64 (IntKind.u64.wrap (BitVec.ofInt 64 ((r * 2 ^ 32 % 18446744073709551616 : Nat) : Int) ||| BitVec.ofInt 64 (ds.getD (0 + (j + p)) 0 : Int)).toNat)) (.int .u64 ((r * 4294967296 + ds.getD (0 + (j + p)) 0 : Nat) : Int))) /\ (Ref (.int .u64 (IntKind.u64.wrap ((((g + 1) : Nat) : Int) - (1 : Int)))) (.int .u64 (((g + 1) - 1 : Nat) : Int))) /\ (Ref (.i6 (IntKind.i64.wrap (((p + 2 : Nat) : Int) - (1 : Int)))) (.i6 ((p + 1 : Nat) : Int))) /\ (p + 1 < vs.length) /\ (((p + 1 : Nat) : Int) < ((d32 vs).length : Int)) /\ (0 <= (vs.getD (p + 1) 0 : Int) /\ (vs.getD (p + 1) 0 : Int) <= 18446744073709551615) /\ (0 <= (r : Int) + (vs.getD (p + 1) 0 : Int) /\ (r : Int) + (vs.getD (p + 1) 0 : Int) <= 18446744073709551615)) ?_ fun ⟨q0, q1, q2, q3, q4, q5, q6, q7, q8, q9, q10, q11, q12, q13, q14, q15, q16, q17, q18⟩ => gS KT205_ok (some 21) [4, 5, 6, 7, 8, 9, 10, 11, 13, 14] [(106, ff), (110, .i6 (p : Int)), (111, .cptr [.int .u32 (vs.getD p 0 : Int)] 0), (113, .int .u64 (vs.getD p 0 : Int)), (114, .int .u64 (((g + 1) * (vs.getD p 0) : Nat) : Int)), (116, .int .u64 ((r * 2 ^ 32 % 18446744073709551616 : Nat) : Int)), (120, .i6 ((j + p + 2 : Nat) : Int)), (121, .i6 ((j + p : Nat) : Int)), (123, .int .u32 (ds.getD (0 + (j + p)) 0 : Int)), (124, .int .u64 (ds.getD (0 + (j + p)) 0 : Int)), (125, .int .u64 ((r * 4294967296 + ds.getD (0 + (j + p)) 0 : Nat) : Int)), (127, tt), (129, .int .u64 (((g + 1) - 1 : Nat) : Int)), (133, .i6 ((p + 1 : Nat) : Int)), (134, .cptr [.int .u32 (vs.getD (p + 1) 0 : Int)] 0), (136, .int .u64 (vs.getD (p + 1) 0 : Int)), (137, .int .u64 ((r + vs.getD (p + 1) 0 : Nat) : Int)), (139, tt)] (.c6 (iF v3) q0 (Ref.cd32 q1) (nn p) q2 (wU (vs.getD p 0 : Int) (vs.getD p 0 : Int) q3) (.c6 (wU ((((g + 1) : Nat) : Int) * (vs.getD p 0 : Int)) (((g + 1) * (vs.getD p 0) : Nat) : Int) q4) (show Ref (.int .u64 (IntKind.u64.wrap ((r : Int) * 2 ^ (min (32 : Int).toNat 64)))) (.int .u64 ((r * 2 ^ 32 % 18446744073709551616 : Nat) : Int)) from Ref.shl64 (x := r) (k := 32) q5) v4 (wI ((j : Int) + ((p + 2 : Nat) : Int)) ((j + p + 2 : Nat) : Int) q6) q7 (nn (j + p)) (.c6 q8 (Ref.cd32h q9) q10 (wU (ds.getD (0 + (j + p)) 0 : Int) (ds.getD (0 + (j + p)) 0 : Int) q11) q12 (iT v2) (.c6 q13 q14 (Ref.cd32 q15) (nn (p + 1)) q16 (wU (vs.getD (p + 1) 0 : Int) (vs.getD (p + 1) 0 : Int) q17) (.a2 (wU ((r : Int) + (vs.getD (p + 1) 0 : Int)) ((r + vs.getD (p + 1) 0 : Nat) : Int) q18) (iT (om ((4294967296 : Int) <= ((r + vs.getD (p + 1) 0 : Nat) : Int))))))))) (t := T205t) (σ := slots 164 [(6, .i6 (k : Int)), (7, .list 1 (d32 vs)), (8, .i6 ((p + 2 : Nat) : Int)), (9, .own 0 1 0 l), (10, .own 1 1 0 M), (11, .i6 (j : Int)), (13, (.int .u64 (((g + 1) - 1 : Nat) : Int))), (14, (.int .u64 ((r + vs.getD (p + 1) 0 : Nat) : Int)))]) (h := [some ⟨362, 1, true, (d32 ds), none⟩, some ⟨362, 1, true, (d32 qs), none⟩]) ?_
         · simp only [Nat.zero_add, d32_length, hcast]
           exact ⟨Ref.wrI (by omega) (by omega), by omega, by omega, by omega, by omega, by omega, by omega, Ref.wrI (by omega) (by omega), by omega, by rw [hI.dl]; omega, by rw [hI.dl]; omega, by omega, hor, e1, Ref.wrI (by omega) (by omega), by omega, by omega, by omega, by omega⟩
         · refine Good.weak 164 [(6, _), (7, _), (8, _), (9, _), (10, _), (11, _), (13, _)] (by kernel_rfl) (.r (.r (.r (.r (.r (.r (.r .nil))))))) ?_
           exact brk hlt c2
       · refine have_ (p := (Ref (.i6 (IntKind.i64.wrap (((p + 2 : Nat) : Int) - (2 : Int)))) (.i6 (p : Int))) /\ (p < vs.length) /\ ((p : Int) < ((d32 vs).length : Int)) /\ (0 <= (vs.getD p 0 : Int) /\ (vs.getD p 0 : Int) <= 18446744073709551615) /\ (0 <= (((g + 1) : Nat) : Int) * (vs.getD p 0 : Int) /\ (((g + 1) : Nat) : Int) * (vs.getD p 0 : Int) <= 18446744073709551615) /\ (32 <= 64) /\ (-9223372036854775808 <= (j : Int) + ((p + 2 : Nat) : Int) /\ (j : Int) + ((p + 2 : Nat) : Int) <= 9223372036854775807) /\ (Ref (.i6 (IntKind.i64.wrap (((j + p + 2 : Nat) : Int) - (2 : Int)))) (.i6 ((j + p : Nat) : Int))) /\ (((j + p : Nat) : Int) < (l : Int)) /\ (0 + (j + p) < ds.length) /\ (0 + (j + p) < (d32 ds).length) /\ (0 <= (ds.getD (0 + (j + p)) 0 : Int) /\ (ds.getD (0 + (j + p)) 0 : Int) <= 18446744073709551615) /\ (Ref (.int .u64 (IntKind.u64.wrap (BitVec.ofInt 64 ((r * 2 ^ 32 % 18446744073709551616 : Nat) : Int) ||| BitVec.ofInt 64 (ds.getD (0 + (j + p)) 0 : Int)).toNat)) (.int .u64 ((r * 4294967296 + ds.getD (0 + (j + p)) 0 : Nat) : Int))) /\ (Ref (.int .u64 (IntKind.u64.wrap ((((g + 1) : Nat) : Int) - (1 : Int)))) (.int .u64 (((g + 1) - 1 : Nat) : Int))) /\ (Ref (.i6 (IntKind.i64.wrap (((p + 2 : Nat) : Int) - (1 : Int)))) (.i6 ((p + 1 : Nat) : Int))) /\ (p + 1 < vs.length) /\ (((p + 1 : Nat) : Int) < ((d32 vs).length : Int)) /\ (0 <= (vs.getD (p + 1) 0 : Int) /\ (vs.getD (p + 1) 0 : Int) <= 18446744073709551615) /\ (0 <= (r : Int) + (vs.getD (p + 1) 0 : Int) /\ (r : Int) + (vs.getD (p + 1) 0 : Int) <= 18446744073709551615)) ?_ fun ⟨q0, q1, q2, q3, q4, q5, q6, q7, q8, q9, q10, q11, q12, q13, q14, q15, q16, q17, q18⟩ => gS KT205_ok (some 21) [4, 5, 6, 7, 8, 9, 10, 11, 13, 14] [(106, ff), (110, .i6 (p : Int)), (111, .cptr [.int .u32 (vs.getD p 0 : Int)] 0), (113, .int .u64 (vs.getD p 0 : Int)), (114, .int .u64 (((g + 1) * (vs.getD p 0) : Nat) : Int)), (116, .int .u64 ((r * 2 ^ 32 % 18446744073709551616 : Nat) : Int)), (120, .i6 ((j + p + 2 : Nat) : Int)), (121, .i6 ((j + p : Nat) : Int)), (123, .int .u32 (ds.getD (0 + (j + p)) 0 : Int)), (124, .int .u64 (ds.getD (0 + (j + p)) 0 : Int)), (125, .int .u64 ((r * 4294967296 + ds.getD (0 + (j + p)) 0 : Nat) : Int)), (127, tt), (129, .int .u64 (((g + 1) - 1 : Nat) : Int)), (133, .i6 ((p + 1 : Nat) : Int)), (134, .cptr [.int .u32 (vs.getD (p + 1) 0 : Int)] 0), (136, .int .u64 (vs.getD (p + 1) 0 : Int)), (137, .int .u64 ((r + vs.getD (p + 1) 0 : Nat) : Int)), (139, ff)] (.c6 (iF v3) q0 (Ref.cd32 q1) (nn p) q2 (wU (vs.getD p 0 : Int) (vs.getD p 0 : Int) q3) (.c6 (wU ((((g + 1) : Nat) : Int) * (vs.getD p 0 : Int)) (((g + 1) * (vs.getD p 0) : Nat) : Int) q4) (show Ref (.int .u64 (IntKind.u64.wrap ((r : Int) * 2 ^ (min (32 : Int).toNat 64)))) (.int .u64 ((r * 2 ^ 32 % 18446744073709551616 : Nat) : Int)) from Ref.shl64 (x := r) (k := 32) q5) v4 (wI ((j : Int) + ((p + 2 : Nat) : Int)) ((j + p + 2 : Nat) : Int) q6) q7 (nn (j + p)) (.c6 q8 (Ref.cd32h q9) q10 (wU (ds.getD (0 + (j + p)) 0 : Int) (ds.getD (0 + (j + p)) 0 : Int) q11) q12 (iT v2) (.c6 q13 q14 (Ref.cd32 q15) (nn (p + 1)) q16 (wU (vs.getD (p + 1) 0 : Int) (vs.getD (p + 1) 0 : Int) q17) (.a2 (wU ((r : Int) + (vs.getD (p + 1) 0 : Int)) ((r + vs.getD (p + 1) 0 : Nat) : Int) q18) (iF (om (¬ ((4294967296 : Int) <= ((r + vs.getD (p + 1) 0 : Nat) : Int)))))))))) (t := T205i) (σ := slots 164 [(6, .i6 (k : Int)), (7, .list 1 (d32 vs)), (8, .i6 ((p + 2 : Nat) : Int)), (9, .own 0 1 0 l), (10, .own 1 1 0 M), (11, .i6 (j : Int)), (13, (.int .u64 (((g + 1) - 1 : Nat) : Int))), (14, (.int .u64 ((r + vs.getD (p + 1) 0 : Nat) : Int)))]) (h := [some ⟨362, 1, true, (d32 ds), none⟩, some ⟨362, 1, true, (d32 qs), none⟩]) ?_
         · simp only [Nat.zero_add, d32_length, hcast]
           exact ⟨Ref.wrI (by omega) (by omega), by omega, by omega, by omega, by omega, by omega, by omega, Ref.wrI (by omega) (by omega), by omega, by rw [hI.dl]; omega, by rw [hI.dl]; omega, by omega, hor, e1, Ref.wrI (by omega) (by omega), by omega, by omega, by omega, by omega⟩
         · exact ih _ hgo hlt (by omega) (by omega)
     · refine have_ (p := (Ref (.i6 (IntKind.i64.wrap (((p + 2 : Nat) : Int) - (2 : Int)))) (.i6 (p : Int))) /\ (p < vs.length) /\ ((p : Int) < ((d32 vs).length : Int)) /\ (0 <= (vs.getD p 0 : Int) /\ (vs.getD p 0 : Int) <= 18446744073709551615) /\ (0 <= (((g + 1) : Nat) : Int) * (vs.getD p 0 : Int) /\ (((g + 1) : Nat) : Int) * (vs.getD p 0 : Int) <= 18446744073709551615) /\ (32 <= 64) /\ (-9223372036854775808 <= (j : Int) + ((p + 2 : Nat) : Int) /\ (j : Int) + ((p + 2 : Nat) : Int) <= 9223372036854775807) /\ (Ref (.i6 (IntKind.i64.wrap (((j + p + 2 : Nat) : Int) - (2 : Int)))) (.i6 ((j + p : Nat) : Int))) /\ (((j + p : Nat) : Int) < (l : Int)) /\ (0 + (j + p) < ds.length) /\ (0 + (j + p) < (d32 ds).length) /\ (0 <= (ds.getD (0 + (j + p)) 0 : Int) /\ (ds.getD (0 + (j + p)) 0 : Int) <= 18446744073709551615) /\ (Ref (.int .u64 (IntKind.u64.wrap (BitVec.ofInt 64 ((r * 2 ^ 32 % 18446744073709551616 : Nat) : Int) ||| BitVec.ofInt 64 (ds.getD (0 + (j + p)) 0 : Int)).toNat)) (.int .u64 ((r * 4294967296 + ds.getD (0 + (j + p)) 0 : Nat) : Int)))) ?_ fun ⟨q0, q1, q2, q3, q4, q5, q6, q7, q8, q9, q10, q11, q12⟩ => gS KT205_ok (some 21) [4, 5, 6, 7, 8, 9, 10, 11, 13, 14] [(106, ff), (110, .i6 (p : Int)), (111, .cptr [.int .u32 (vs.getD p 0 : Int)] 0), (113, .int .u64 (vs.getD p 0 : Int)), (114, .int .u64 (((g + 1) * (vs.getD p 0) : Nat) : Int)), (116, .int .u64 ((r * 2 ^ 32 % 18446744073709551616 : Nat) : Int)), (120, .i6 ((j + p + 2 : Nat) : Int)), (121, .i6 ((j + p : Nat) : Int)), (123, .int .u32 (ds.getD (0 + (j + p)) 0 : Int)), (124, .int .u64 (ds.getD (0 + (j + p)) 0 : Int)), (125, .int .u64 ((r * 4294967296 + ds.getD (0 + (j + p)) 0 : Nat) : Int)), (127, ff)] (.c6 (iF v3) q0 (Ref.cd32 q1) (nn p) q2 (wU (vs.getD p 0 : Int) (vs.getD p 0 : Int) q3) (.c6 (wU ((((g + 1) : Nat) : Int) * (vs.getD p 0 : Int)) (((g + 1) * (vs.getD p 0) : Nat) : Int) q4) (show Ref (.int .u64 (IntKind.u64.wrap ((r : Int) * 2 ^ (min (32 : Int).toNat 64)))) (.int .u64 ((r * 2 ^ 32 % 18446744073709551616 : Nat) : Int)) from Ref.shl64 (x := r) (k := 32) q5) v4 (wI ((j : Int) + ((p + 2 : Nat) : Int)) ((j + p + 2 : Nat) : Int) q6) q7 (nn (j + p)) (.a6 q8 (Ref.cd32h q9) q10 (wU (ds.getD (0 + (j + p)) 0 : Int) (ds.getD (0 + (j + p)) 0 : Int) q11) q12 (iF (show ¬ (((r * 4294967296 + ds.getD (0 + (j + p)) 0 : Nat) : Int) < (((g + 1) * (vs.getD p 0) : Nat) : Int)) by rw [Nat.zero_add]; omega))))) (t := T205t) (σ := slots 164 [(6, .i6 (k : Int)), (7, .list 1 (d32 vs)), (8, .i6 ((p + 2 : Nat) : Int)), (9, .own 0 1 0 l), (10, .own 1 1 0 M), (11, .i6 (j : Int)), (13, (.int .u64 (((g + 1) : Nat) : Int))), (14, .int .u64 (r : Int))]) (h := [some ⟨362, 1, true, (d32 ds), none⟩, some ⟨362, 1, true, (d32 qs), none⟩]) ?_
       · simp only [Nat.zero_add, d32_length, hcast]
         exact ⟨Ref.wrI (by omega) (by omega), by omega, by omega, by omega, by omega, by omega, by omega, Ref.wrI (by omega) (by omega), by omega, by rw [hI.dl]; omega, by rw [hI.dl]; omega, by omega, hor⟩
       · refine Good.weak 164 [(6, _), (7, _), (8, _), (9, _), (10, _), (11, _), (13, _)] (by kernel_rfl) (.r (.r (.r (.r (.r (.r (.r .nil))))))) ?_
         exact take205 hvl hvd hMl hlL hL hI (by omega) h2 (knuth_low (r := r) hWe hVe hw' hPV (by omega) ⟨_, _, rfl, h1, by rw [fb]; omega⟩) next
theorem outer205 (hvl : vs.length = p + 2) (hvd : ∀ x ∈ vs, x < b32) (hv1 : 2147483648 <= vs.getD (p + 1) 0) (hMl : M + (p + 2) = l) (hlL : l <= L2) (hL32 : 32 * L2 <= LIM) (hk : k < 32) {n m B C : Nat} (hU : U = n * 2 ^ k) (hV : dval b32 vs = m * 2 ^ k) (hn : n < 2 ^ B) (hm : m < 2 ^ C) :
   ∀ (k1 : Nat) (ds qs : List Nat), Inv205 vs p l M L2 U k1 ds qs -> GF 205 S w0 (.tup [.nat (n / m) B, .nat (n % m) (max B C)]) T205
     ⟨slots 164 [(6, .i6 ((k : Nat) : Int)), (7, .list 1 (d32 vs)), (8, .i6 ((p + 2 : Nat) : Int)), (9, .own 0 1 0 l), (10, .own 1 1 0 M), (11, (.i6 (((k1 : Nat) : Int) - (1 : Int))))], [some ⟨362, 1, true, (d32 ds), none⟩, some ⟨362, 1, true, (d32 qs), none⟩]⟩ := by
 have fb : b32 = 4294967296 := rfl; have hL : L2 <= LIM := by omega
 intro k1
 induction k1 with
 | zero =>
   intro ds qs hI; have hv := hI.val; have hlow := hI.low; simp only [List.drop_zero, Nat.pow_zero, Nat.one_mul] at hv hlow
   have hlt : dval b32 ds < b32 ^ (p + 2) := by
     have := dval_lt (b := b32) (by decide) hvd; rw [hvl] at this; omega
   have hcut : dval b32 (ds.take (p + 2)) = dval b32 ds := by
     have h1 := dval_split b32 (p + 2) ds; rcases Nat.eq_zero_or_pos (dval b32 (ds.drop (p + 2))) with h' | h'
     · rw [h'] at h1; omega
     · have := Nat.mul_le_mul_left (b32 ^ (p + 2)) h'
       omega
   have e1 : ((d32 qs).drop 0).take M = d32 qs := by rw [List.drop_zero, tkE (by rw [d32_length, hI.ql]; omega)]
   have e2 : ((d32 ds).drop 0).take (p + 2) = d32 (ds.take (p + 2)) := by rw [List.drop_zero, d32_take]
   rw [show (((0 : Nat) : Int) - (1 : Int)) = -1 from rfl]; have hdl := hI.dl; unfold LIM at hL hL32; refine rF KT205_ok [] (.c6 (show 0 + M <= (d32 qs).length by rw [d32_length, hI.ql]; omega) (show (((d32 qs).drop 0).take M) = d32 (un32 (((d32 qs).drop 0).take M)) by rw [e1, un32_d32]) (show ∀ x ∈ un32 (((d32 qs).drop 0).take M), x < b32 by rw [e1, un32_d32]; exact hI.qd) (nn (p + 2)) (om (((p + 2 : Nat) : Int) <= (l : Int))) (show 0 + (p + 2) <= (d32 ds).length by rw [d32_length]; omega) (.a5 (show (((d32 ds).drop 0).take (p + 2)) = d32 (un32 (((d32 ds).drop 0).take (p + 2))) by rw [e2, un32_d32]) (show ∀ x ∈ un32 (((d32 ds).drop 0).take (p + 2)), x < b32 by rw [e2, un32_d32]; exact fun x hx => hI.dd x (List.mem_of_mem_take hx)) (nn k) (show (32 * (((d32 ds).drop 0).take (p + 2)).length) <= LIM by rw [e2, d32_length, List.length_take]; unfold LIM; omega) (om ((k : Int) <= 9223372036854775807)))) (V := .tup [.nat (dval b32 (un32 (((d32 qs).drop 0).take M))) (32 * (((d32 qs).drop 0).take M).length), .nat ((dval b32 (un32 (((d32 ds).drop 0).take (p + 2)))) / 2 ^ k) (32 * (((d32 ds).drop 0).take (p + 2)).length)]) ?_
   rw [e1, e2, un32_d32, un32_d32, hcut]; have h2k := Nat.two_pow_pos k; have hdm : n * 2 ^ k = dval b32 qs * (m * 2 ^ k) + dval b32 ds := by rw [<- hU, <- hv, hV, Nat.mul_comm (m * 2 ^ k)]; omega
   rw [hV] at hlow; obtain ⟨q1, q2⟩ := div_val hdm hlow; rw [Nat.mul_div_mul_right _ _ h2k] at q1; rw [Nat.mul_mod_mul_right] at q2; rw [<- q1, <- q2, Nat.mul_div_cancel _ h2k]; refine Ref.tup2 (Ref.natB (Nat.lt_of_le_of_lt (Nat.div_le_self _ _) hn)) (Ref.natB ?_) rfl rfl rfl rfl; rcases Nat.eq_zero_or_pos m with h0 | h0
   · rw [h0, Nat.mod_zero]; exact pow_le hn (Nat.le_max_left _ _)
   · exact pow_le (Nat.lt_trans (Nat.mod_lt n h0) hm) (Nat.le_max_right _ _)
 | succ j ih =>
   intro ds qs hI; have hj := hI.le; rw [show (((j + 1 : Nat) : Int) - (1 : Int)) = ((j : Nat) : Int) by omega]; have hu0 := getD_lt (b := b32) (by decide) hI.dd (j + p); have hu1 := getD_lt (b := b32) (by decide) hI.dd (j + p + 1); have hu2 := getD_lt (b := b32) (by decide) hI.dd (j + p + 2); have hv0 := getD_lt (b := b32) (by decide) hvd p; have hv1' := getD_lt (b := b32) (by decide) hvd (p + 1)
   have hWb : dval b32 (ds.drop j) < b32 * dval b32 vs := by
     rw [dval_drop_succ (by rw [hI.dl]; omega)]; exact row_lt (getD_lt (by decide) hI.dd j) hI.low
   have hW : dval b32 (ds.drop j) < b32 ^ (p + 3) := by
     have c := Nat.mul_le_mul_left b32 (Nat.le_of_lt (dval_lt (b := b32) (by decide) hvd)); rw [hvl, Nat.mul_comm b32 (b32 ^ (p + 2)), <- Nat.pow_succ] at c; exact Nat.lt_of_lt_of_le hWb c
   obtain ⟨w, hw, hWe⟩ := three_top hW hI.dd; obtain ⟨w', hw', hVe⟩ := two_top hvl hvd; have htop := top_le hWe hVe hw' hv0 hWb; have hfirst := knuth_first hWe hw hVe (by decide) (om (0 < vs.getD (p + 1) 0)) rfl hu0; have hL' := hL; unfold LIM at hL'; refine have_ (p := (-9223372036854775808 <= (j : Int) + ((p + 2 : Nat) : Int) /\ (j : Int) + ((p + 2 : Nat) : Int) <= 9223372036854775807) /\ (((j + p + 2 : Nat) : Int) < (l : Int)) /\ (0 + (j + p + 2) < ds.length) /\ (0 + (j + p + 2) < (d32 ds).length) /\ (0 <= (ds.getD (0 + (j + p + 2)) 0 : Int) /\ (ds.getD (0 + (j + p + 2)) 0 : Int) <= 18446744073709551615) /\ (32 <= 64) /\ (Ref (.i6 (IntKind.i64.wrap (((j + p + 2 : Nat) : Int) - (1 : Int)))) (.i6 ((j + p + 1 : Nat) : Int))) /\ (((j + p + 1 : Nat) : Int) < (l : Int)) /\ (0 + (j + p + 1) < ds.length) /\ (0 + (j + p + 1) < (d32 ds).length) /\ (0 <= (ds.getD (0 + (j + p + 1)) 0 : Int) /\ (ds.getD (0 + (j + p + 1)) 0 : Int) <= 18446744073709551615) /\ (Ref (.int .u64 (IntKind.u64.wrap (BitVec.ofInt 64 (((ds.getD (0 + (j + p + 2)) 0) * 2 ^ 32 % 18446744073709551616 : Nat) : Int) ||| BitVec.ofInt 64 (ds.getD (0 + (j + p + 1)) 0 : Int)).toNat)) (.int .u64 ((ds.getD (0 + (j + p + 2)) 0 * 4294967296 + ds.getD (0 + (j + p + 1)) 0 : Nat) : Int))) /\ (Ref (.i6 (IntKind.i64.wrap (((p + 2 : Nat) : Int) - (1 : Int)))) (.i6 ((p + 1 : Nat) : Int))) /\ (p + 1 < vs.length) /\ (((p + 1 : Nat) : Int) < ((d32 vs).length : Int)) /\ (0 <= (vs.getD (p + 1) 0 : Int) /\ (vs.getD (p + 1) 0 : Int) <= 18446744073709551615) /\ (((ds.getD (0 + (j + p + 2)) 0 * 4294967296 + ds.getD (0 + (j + p + 1)) 0 : Nat) : Int) <= 18446744073709551615) /\ (((vs.getD (p + 1) 0 : Nat) : Int) ≠ 0)) ?_ fun ⟨q0, q1, q2, q3, q4, q5, q6, q7, q8, q9, q10, q11, q12, q13, q14, q15, q16, q17⟩ => gN KT205_ok [4, 5, 6, 7, 8, 9, 10, 11, 13, 14] [(68, tt), (74, .i6 ((j + p + 2 : Nat) : Int)), (76, .int .u32 (ds.getD (0 + (j + p + 2)) 0 : Int)), (77, .int .u64 (ds.getD (0 + (j + p + 2)) 0 : Int)), (78, .int .u64 (((ds.getD (0 + (j + p + 2)) 0) * 2 ^ 32 % 18446744073709551616 : Nat) : Int)), (82, .i6 ((j + p + 2 : Nat) : Int)), (83, .i6 ((j + p + 1 : Nat) : Int)), (85, .int .u32 (ds.getD (0 + (j + p + 1)) 0 : Int)), (86, .int .u64 (ds.getD (0 + (j + p + 1)) 0 : Int)), (87, .int .u64 ((ds.getD (0 + (j + p + 2)) 0 * 4294967296 + ds.getD (0 + (j + p + 1)) 0 : Nat) : Int)), (91, .i6 ((p + 1 : Nat) : Int)), (92, .cptr [.int .u32 (vs.getD (p + 1) 0 : Int)] 0), (94, .int .u64 (vs.getD (p + 1) 0 : Int)), (95, .int .u64 (((ds.getD (0 + (j + p + 2)) 0 * 4294967296 + ds.getD (0 + (j + p + 1)) 0) / (vs.getD (p + 1) 0) : Nat) : Int)), (99, .i6 ((p + 1 : Nat) : Int)), (100, .cptr [.int .u32 (vs.getD (p + 1) 0 : Int)] 0), (102, .int .u64 (vs.getD (p + 1) 0 : Int)), (103, .int .u64 (((ds.getD (0 + (j + p + 2)) 0 * 4294967296 + ds.getD (0 + (j + p + 1)) 0) % (vs.getD (p + 1) 0) : Nat) : Int))] (.c6 (iT (om ((0 : Int) <= (j : Int)))) (wI ((j : Int) + ((p + 2 : Nat) : Int)) ((j + p + 2 : Nat) : Int) q0) (nn (j + p + 2)) q1 (Ref.cd32h q2) q3 (.c6 (wU (ds.getD (0 + (j + p + 2)) 0 : Int) (ds.getD (0 + (j + p + 2)) 0 : Int) q4) (show Ref (.int .u64 (IntKind.u64.wrap (((ds.getD (0 + (j + p + 2)) 0 : Nat) : Int) * 2 ^ (min (32 : Int).toNat 64)))) (.int .u64 (((ds.getD (0 + (j + p + 2)) 0) * 2 ^ 32 % 18446744073709551616 : Nat) : Int)) from Ref.shl64 (x := ds.getD (0 + (j + p + 2)) 0) (k := 32) q5) (dc (0 <= (32 : Int))) (wI ((j : Int) + ((p + 2 : Nat) : Int)) ((j + p + 2 : Nat) : Int) q0) q6 (nn (j + p + 1)) (.c6 q7 (Ref.cd32h q8) q9 (wU (ds.getD (0 + (j + p + 1)) 0 : Int) (ds.getD (0 + (j + p + 1)) 0 : Int) q10) q11 q12 (.c6 (Ref.cd32 q13) (nn (p + 1)) q14 (wU (vs.getD (p + 1) 0 : Int) (vs.getD (p + 1) 0 : Int) q15) (show Ref (.int .u64 (IntKind.u64.wrap (((ds.getD (0 + (j + p + 2)) 0 * 4294967296 + ds.getD (0 + (j + p + 1)) 0 : Nat) : Int).tdiv (vs.getD (p + 1) 0 : Int)))) (.int .u64 (((ds.getD (0 + (j + p + 2)) 0 * 4294967296 + ds.getD (0 + (j + p + 1)) 0) / (vs.getD (p + 1) 0) : Nat) : Int)) from Ref.quo (a := ds.getD (0 + (j + p + 2)) 0 * 4294967296 + ds.getD (0 + (j + p + 1)) 0) (b := vs.getD (p + 1) 0) rfl rfl (by decide) q16) q17 (.c6 q12 (Ref.cd32 q13) (nn (p + 1)) q14 (wU (vs.getD (p + 1) 0 : Int) (vs.getD (p + 1) 0 : Int) q15) (show Ref (.int .u64 (((ds.getD (0 + (j + p + 2)) 0 * 4294967296 + ds.getD (0 + (j + p + 1)) 0 : Nat) : Int).tmod (vs.getD (p + 1) 0 : Int))) (.int .u64 (((ds.getD (0 + (j + p + 2)) 0 * 4294967296 + ds.getD (0 + (j + p + 1)) 0) % (vs.getD (p + 1) 0) : Nat) : Int)) from Ref.rem (a := ds.getD (0 + (j + p + 2)) 0 * 4294967296 + ds.getD (0 + (j + p + 1)) 0) (b := vs.getD (p + 1) 0) rfl rfl) (.a1 q17)))))) (t := T205i) (σ := slots 164 [(6, .i6 (k : Int)), (7, .list 1 (d32 vs)), (8, .i6 ((p + 2 : Nat) : Int)), (9, .own 0 1 0 l), (10, .own 1 1 0 M), (11, .i6 (j : Int)), (13, (.int .u64 (((ds.getD (0 + (j + p + 2)) 0 * 4294967296 + ds.getD (0 + (j + p + 1)) 0) / (vs.getD (p + 1) 0) : Nat) : Int))), (14, (.int .u64 (((ds.getD (0 + (j + p + 2)) 0 * 4294967296 + ds.getD (0 + (j + p + 1)) 0) % (vs.getD (p + 1) 0) : Nat) : Int)))]) (h := [some ⟨362, 1, true, (d32 ds), none⟩, some ⟨362, 1, true, (d32 qs), none⟩]) ?_
   · simp only [Nat.zero_add, d32_length]
     rw [fb] at hu0 hu1 hu2 hv0 hv1'; exact ⟨by omega, by omega, by rw [hI.dl]; omega, by rw [hI.dl]; omega, by omega, by omega, Ref.wrI (by omega) (by omega), by omega, by rw [hI.dl]; omega, by rw [hI.dl]; omega, by omega, or_two hu2 hu1, Ref.wrI (by omega) (by omega), by omega, by omega, by omega, by omega, by omega⟩
   · simp only [Nat.zero_add]
     refine inner205 hvl hvd hv1 hMl hlL hL hI ih _ _ ?_ hfirst ?_ ?_
     · have := Nat.div_add_mod (ds.getD (j + p + 2) 0 * 4294967296 + ds.getD (j + p + 1) 0) (vs.getD (p + 1) 0)
       rw [Nat.mul_comm] at this; rw [fb]; omega
     · rw [fb] at hu1 ⊢
       refine Nat.le_of_lt_succ ((Nat.div_lt_iff_lt_mul (by omega)).2 ?_); omega
     · rw [fb] at hv1' ⊢
       have := Nat.mod_lt (ds.getD (j + p + 2) 0 * 4294967296 + ds.getD (j + p + 1) 0) (om (0 < vs.getD (p + 1) 0)); omega
theorem rows205 {us : List Nat} {l : Nat} (h : us.length <= l) : (List.take 0 (d32 (List.replicate l 0)) ++ (d32 us).take (min (d32 us).length l) ++ (d32 (List.replicate l 0)).drop (0 + (min (d32 us).length l))) = d32 (us ++ List.replicate (l - us.length) 0) := by
 rw [d32_length, Nat.min_eq_left h, Nat.zero_add, List.take_zero, List.nil_append, d32_drop, List.drop_replicate, tkE (by rw [d32_length]; omega), d32_append]
theorem norm205 {ys : List Nat} {p : Nat} (hy : Dig b32 ys) (hl : ys.length = p + 2) : ∃ k, k = 32 - bitLen (ys.getD (p + 1) 0) /\ k < 32 /\ 2147483648 * b32 ^ (p + 1) <= dval b32 ys * 2 ^ k /\ dval b32 ys * 2 ^ k < b32 ^ (p + 2) := by
 have ht := getD_lt (b := b32) (by decide) hy.1 (p + 1)
 have h0 : ys.getD (p + 1) 0 ≠ 0 := by
   have := hy.2; rw [List.getLast?_eq_getElem?, hl, show p + 2 - 1 = p + 1 by omega] at this; intro h; apply this; rw [gdE] at h; rw [List.getElem?_eq_getElem (by omega)] at h ⊢; simpa using h
 have h1 := dval_take_succ b32 ys (p + 1); rw [tkE (by omega)] at h1; have h2 := dval_take_lt (b := b32) (by decide) hy.1 (p + 1); obtain ⟨b1, b2, b3⟩ := bitLen_spec h0; have b4 : bitLen (ys.getD (p + 1) 0) <= 32 := bitLen_le ht; refine ⟨_, rfl, by omega, ?_, ?_⟩
 · have e1 : 2 ^ (bitLen (ys.getD (p + 1) 0) - 1) * 2 ^ (32 - bitLen (ys.getD (p + 1) 0)) = 2147483648 := by
     rw [<- Nat.pow_add, show bitLen (ys.getD (p + 1) 0) - 1 + (32 - bitLen (ys.getD (p + 1) 0)) = 31 by omega]
   have e2 : 2147483648 <= ys.getD (p + 1) 0 * 2 ^ (32 - bitLen (ys.getD (p + 1) 0)) := by rw [<- e1]; exact Nat.mul_le_mul_right _ b2
   have e3 := Nat.mul_le_mul_right (b32 ^ (p + 1)) e2
   have e4 : ys.getD (p + 1) 0 * 2 ^ (32 - bitLen (ys.getD (p + 1) 0)) * b32 ^ (p + 1) = b32 ^ (p + 1) * ys.getD (p + 1) 0 * 2 ^ (32 - bitLen (ys.getD (p + 1) 0)) := by
     rw [Nat.mul_comm _ (b32 ^ (p + 1)), Nat.mul_assoc]
   rw [h1, Nat.add_mul]; omega
 · have e1 : 2 ^ bitLen (ys.getD (p + 1) 0) * 2 ^ (32 - bitLen (ys.getD (p + 1) 0)) = b32 := by
     rw [<- Nat.pow_add, show bitLen (ys.getD (p + 1) 0) + (32 - bitLen (ys.getD (p + 1) 0)) = 32 by omega]; rfl
   have e2 : (ys.getD (p + 1) 0 + 1) * 2 ^ (32 - bitLen (ys.getD (p + 1) 0)) <= b32 := by
     have := Nat.mul_le_mul_right (2 ^ (32 - bitLen (ys.getD (p + 1) 0))) (show ys.getD (p + 1) 0 + 1 <= 2 ^ bitLen (ys.getD (p + 1) 0) from b3); omega
   have e3 : dval b32 ys < b32 ^ (p + 1) * (ys.getD (p + 1) 0 + 1) := by rw [h1, Nat.mul_add]; omega
   have e4 := Nat.mul_lt_mul_of_pos_right e3 (Nat.two_pow_pos (32 - bitLen (ys.getD (p + 1) 0))); have e5 := Nat.mul_le_mul_left (b32 ^ (p + 1)) e2; rw [Nat.pow_succ b32 (p + 1)]; rw [Nat.mul_assoc] at e4; omega
theorem digits_norm {v p : Nat} (h1 : 2147483648 * b32 ^ (p + 1) <= v) (h2 : v < b32 ^ (p + 2)) : (digits b32 v).length = p + 2 /\ 2147483648 <= (digits b32 v).getD (p + 1) 0 := by
 obtain ⟨g1, g2⟩ := digits_spec (b := b32) (by decide) v; have l1 := digits_len_le (b := b32) (by decide) h2; have l2 := digits_lt_len (b := b32) (n := v) (by decide)
 have l3 : b32 ^ (p + 1) < b32 ^ (digits b32 v).length := by
   have : 1 * b32 ^ (p + 1) <= 2147483648 * b32 ^ (p + 1) := Nat.mul_le_mul_right _ (by decide); omega
 have l4 := (Nat.pow_lt_pow_iff_right (by decide : 1 < b32)).1 l3; have hl : (digits b32 v).length = p + 2 := by omega
 refine ⟨hl, ?_⟩; have t1 := dval_take_succ b32 (digits b32 v) (p + 1); rw [tkE (by omega), g2] at t1; have t2 := dval_take_lt (b := b32) (by decide) g1.1 (p + 1); rcases Nat.lt_or_ge ((digits b32 v).getD (p + 1) 0) 2147483648 with h | h
 · exfalso
   have := Nat.mul_le_mul_left (b32 ^ (p + 1)) (Nat.succ_le_of_lt h); rw [Nat.mul_succ, Nat.mul_comm (b32 ^ (p + 1)) 2147483648] at this; omega
 · exact h
theorem a205 : Ctr 205 k205 := by
 refine ctr Tryz.f205 fun _ _ _ S w0 h ho => ?_
 unfold k205 at h; split at h <;> cases h; rename_i n B m C; have hm0 : 0 < m := ho _ (by simp); have hL : max B C + 128 <= LIM := ho _ (by simp); have hB1 : B <= max B C := Nat.le_max_left _ _; have hC1 : C <= max B C := Nat.le_max_right _ _; refine Good.natlt (n := n) (B := B) 0 rfl fun hn => Good.natlt (n := m) (B := C) 1 rfl fun hm => ?_
 by_cases hlt : n < m
 · refine rF KT205_ok [(15, tt)] (.a1 (iT (cmpN_neg.2 hlt))) (V := .tup [AV.nil, AV.nat n B]) ?_
   rw [Nat.div_eq_of_lt hlt, Nat.mod_eq_of_lt hlt]; exact Ref.tup2 Ref.nil0 (Ref.natB (pow_le hn hB1)) rfl rfl rfl rfl
 refine gR KT205_ok (some 3) [0, 1, 4, 5] [] [(15, ff)] (.a1 (iF (fun h => hlt (cmpN_neg.1 h)))) (t := [.code (nav [1, 0, 0, 1, 1, 0] (bodyOf Tryz.f205)), .code (nav [1, 0, 0, 1, 1, 1] (bodyOf Tryz.f205)), .inBlock 0, .code (nav [1, 1] (bodyOf Tryz.f205))]) (σ := slots 164 [(0, .nat n B), (1, .nat m C), (4, .nil), (5, .nil)]) (h := []) ?_
 obtain ⟨hy, hym⟩ := digits_spec (b := b32) (by decide) m; have hly := hy.len (by rw [hym]; exact hm); have hy0 : 0 < (digits b32 m).length := (digits_pos (by decide)).2 hm0; refine Good.weak 164 [(0, _), (1, .list 1 (d32 (digits b32 m)))] (by kernel_rfl) (.r (.cons Ref.opn .nil)) ?_; generalize hys : digits b32 m = ys at *; unfold LIM at hL
 by_cases hy1 : ys.length = 1
 · have hv : m = ys.getD 0 0 := by
     have h1 := dval_take_succ b32 ys 0; rw [tkE (by omega), hym] at h1; simpa [dval] using h1
   have hlt32 := getD_lt (b := b32) (by decide) hy.1 0; unfold b32 at hlt32; refine gR KT205_ok (some 6) [0, 1, 4, 5, 6] [] [(21, tt), (27, .cptr [.int .u32 (ys.getD 0 0 : Int)] 0)] (.c6 (iT (show ((d32 ys).length : Int) = (1 : Int) by rw [d32_length]; omega)) (show Ref (.cptr ((d32 ys).getD 0 []) 0) (.cptr [.int .u32 (ys.getD 0 0 : Int)] 0) from Ref.cd32 ((om (0 < ys.length)))) (dc (0 <= (0 : Int))) (show (0 : Int) < ((d32 ys).length : Int) by rw [d32_length]; omega) (show 0 <= (ys.getD 0 0 : Int) from Int.natCast_nonneg _) (om (0 < (ys.getD 0 0))) (.a2 hlt32 (show B <= LIM by unfold LIM; omega))) (t := [.code .ret, .inBlock 0, .code (nav [1, 1] (bodyOf Tryz.f205))]) (σ := slots 164 [(0, .nat n B), (1, .list 1 (d32 ys)), (4, .nat (n / (ys.getD 0 0)) B), (5, .nat (n % (ys.getD 0 0)) 64)]) (h := []) ?_
   rw [<- hv]; refine gE [AV.nat (n / m) B, AV.nat (n % m) 64] ?_; exact Ref.tup2 rr (Ref.natB (pow_le (Nat.lt_trans (Nat.mod_lt n hm0) hm) hC1)) rfl rfl rfl rfl
 obtain ⟨p, hp⟩ : ∃ p, ys.length = p + 2 := ⟨ys.length - 2, by omega⟩; obtain ⟨k, hk, hk32, hk1, hk2⟩ := norm205 hy hp; have hidx : (((((d32 ys).length : Nat) : Int) - (1 : Int)).toNat) = p + 1 := by rw [d32_length]; omega
 have htop := getD_lt (b := b32) (by decide) hy.1 (p + 1); refine gR KT205_ok (some 6) [0, 1, 4, 5, 6] [] [(21, ff), (35, .i6 ((((d32 ys).length : Nat) : Int) - (1 : Int))), (36, .cptr [.int .u32 (ys.getD (((((d32 ys).length : Nat) : Int) - (1 : Int)).toNat) 0 : Int)] 0)] (.c6 (iF (show ¬ ((((d32 ys).length : Nat) : Int) = (1 : Int)) by rw [d32_length]; omega)) (wI ((((d32 ys).length : Nat) : Int) - (1 : Int)) ((((d32 ys).length : Nat) : Int) - (1 : Int)) (by rw [d32_length]; omega)) (show Ref (.cptr ((d32 ys).getD ((((d32 ys).length : Int) - (1 : Int)).toNat) []) 0) (.cptr [.int .u32 (ys.getD (((((d32 ys).length : Nat) : Int) - (1 : Int)).toNat) 0 : Int)] 0) from Ref.cd32 ((show ((((d32 ys).length : Nat) : Int) - (1 : Int)).toNat < ys.length by rw [hidx]; omega))) (show 0 <= ((((d32 ys).length : Nat) : Int) - (1 : Int)) by rw [d32_length]; omega) (show ((((d32 ys).length : Nat) : Int) - (1 : Int)) < ((d32 ys).length : Int) by rw [d32_length]; omega) (om (0 <= (ys.getD (((((d32 ys).length : Nat) : Int) - (1 : Int)).toNat) 0 : Int))) (.a1 (show (ys.getD ((((d32 ys).length : Int) - (1 : Int)).toNat) 0) < 4294967296 by rw [hidx]; exact htop))) (t := [.code (nav [1, 1, 1, 0] (bodyOf Tryz.f205)), .code (nav [1, 1, 1, 1] (bodyOf Tryz.f205))]) (σ := slots 164 [(0, .nat n B), (1, .list 1 (d32 ys)), (6, (.i6 ((32 - bitLen (ys.getD ((((d32 ys).length : Int) - (1 : Int)).toNat) 0) : Nat) : Int)))]) (h := []) ?_
 rw [hidx, <- hk]; rw [hym] at hk1 hk2; refine Good.weak 164 [(0, _), (1, .nat m C), (6, _)] (by kernel_rfl) (.r (.cons (Ref.nat hy hym hm) (.r .nil))) ?_; refine gR KT205_ok (some 7) [0, 1, 6, 7] [] [] (.a2 (nn k) (show C + k <= LIM by unfold LIM; omega)) (t := [.code (nav [1, 1, 1, 1, 0] (bodyOf Tryz.f205)), .code (nav [1, 1, 1, 1, 1] (bodyOf Tryz.f205))]) (σ := slots 164 [(0, .nat n B), (1, .nat m C), (6, .i6 (k : Int)), (7, .nat (m * 2 ^ k) (C + k))]) (h := []) ?_
 obtain ⟨hx, hxn⟩ := digits_spec (b := b32) (by decide) n; obtain ⟨hvd, hvm⟩ := digits_spec (b := b32) (by decide) (m * 2 ^ k); obtain ⟨hvl, hvt⟩ := digits_norm hk1 hk2; have hlx := hx.len (by rw [hxn]; exact hn); refine Good.weak 164 [(0, .list 1 (d32 (digits b32 n))), (6, _), (7, .list 1 (d32 (digits b32 (m * 2 ^ k))))] (by kernel_rfl) (.cons Ref.opn (.r (.cons Ref.opn .nil))) ?_; generalize hxs : digits b32 n = xs at *; generalize hvs : digits b32 (m * 2 ^ k) = vs at *; refine have_ (p := (-9223372036854775808 <= ((d32 xs).length : Int) + (2 : Int) /\ ((d32 xs).length : Int) + (2 : Int) <= 9223372036854775807) /\ (4 * (((d32 xs).length + 2 : Nat) : Int) <= 281474976710656) /\ ((((d32 xs).length + 2 : Nat) : Int) <= (big : Int))) (by simp only [d32_length]; unfold big; omega) fun ⟨q0, q1, q2⟩ => gS KT205_ok (some 9) [0, 6, 7, 8, 9] [(46, .i6 (((d32 xs).length + 2 : Nat) : Int))] (.a5 (wI ((((d32 xs).length : Nat) : Int) + (2 : Int)) (((d32 xs).length + 2 : Nat) : Int) q0) (rfl : (((d32 xs).length + 2 : Nat) : Int) = (((d32 xs).length + 2 : Nat) : Int)) (nn ((d32 xs).length + 2)) q1 q2) (t := [.code (nav [1, 1, 1, 1, 1, 1, 0] (bodyOf Tryz.f205)), .code (nav [1, 1, 1, 1, 1, 1, 1] (bodyOf Tryz.f205))]) (σ := slots 164 [(0, .list 1 (d32 xs)), (6, .i6 (k : Int)), (7, .list 1 (d32 vs)), (8, .i6 ((d32 vs).length : Int)), (9, .own 0 1 0 ((d32 xs).length + 2))]) (h := [some ⟨362, 1, true, (List.replicate ((d32 xs).length + 2) [.int .u32 (0 : Int)]), none⟩]) ?_
 rw [d32_rep]; simp only [d32_length, hvl]; refine Good.weak 164 [(0, .nat n B), (6, _), (7, _), (8, _), (9, _)] (by kernel_rfl) (.cons (Ref.nat hx hxn hn) (.r (.r (.r (.r .nil))))) ?_; obtain ⟨hud, hun⟩ := digits_spec (b := b32) (by decide) (n * 2 ^ k); have hnlt : n < b32 ^ xs.length := by rw [<- hxn]; exact dval_lt (by decide) hx.1
 have h2k : 2 ^ k <= b32 := by
   have := Nat.pow_le_pow_right (dc (0 < 2)) (om (k <= 32)); exact this
 have hulen : (digits b32 (n * 2 ^ k)).length <= xs.length + 1 := digits_len_le (by decide) (by
   rw [Nat.pow_succ]
   exact Nat.lt_of_lt_of_le (Nat.mul_lt_mul_of_pos_right hnlt (Nat.two_pow_pos k)) (Nat.mul_le_mul_left _ h2k))
 refine gR KT205_ok (some 10) [0, 6, 7, 8, 9] [0] [(51, .list 1 (d32 (digits b32 (n * 2 ^ k))))] (.a4 (show Ref (.nat (n * 2 ^ k) (B + k)) (.list 1 (d32 (digits b32 (n * 2 ^ k)))) from Ref.opn) (nn k) (show B + k <= LIM by unfold LIM; omega) (show 0 + (xs.length + 2) <= (d32 (List.replicate (xs.length + 2) 0)).length by rw [d32_length]; simp)) (t := [.code (nav [1, 1, 1, 1, 1, 1, 1, 0] (bodyOf Tryz.f205)), .code (nav [1, 1, 1, 1, 1, 1, 1, 1] (bodyOf Tryz.f205))]) (σ := slots 164 [(0, .nat n B), (6, .i6 (k : Int)), (7, .list 1 (d32 vs)), (8, (.i6 (((p + 2) : Nat) : Int))), (9, .own 0 1 0 (xs.length + 2))]) (h := [some ⟨362, 1, true, ((d32 (List.replicate (xs.length + 2) 0)).take 0 ++ (d32 (digits b32 (n * 2 ^ k))).take (min (d32 (digits b32 (n * 2 ^ k))).length (xs.length + 2)) ++ (d32 (List.replicate (xs.length + 2) 0)).drop (0 + (min (d32 (digits b32 (n * 2 ^ k))).length (xs.length + 2)))), none⟩]) ?_
 generalize hus : digits b32 (n * 2 ^ k) = us at *; rw [rows205 (by omega)]; refine Good.weak 164 [(0, .list 1 (d32 xs)), (6, _), (7, _), (8, _), (9, _)] (by kernel_rfl) (.cons (hxs ▸ Ref.opn) (.r (.r (.r (.r .nil))))) ?_
 have hlen : ys.length <= xs.length := by
   rcases Nat.lt_or_ge xs.length ys.length with h | h
   · have := dval_lt_of_len (by decide) hx hy h
     omega
   · exact h
 obtain ⟨M, hM⟩ : ∃ M, M + (p + 2) = xs.length + 1 := ⟨xs.length + 1 - (p + 2), by omega⟩; refine have_ (p := (-9223372036854775808 <= ((d32 xs).length : Int) + (1 : Int) /\ ((d32 xs).length : Int) + (1 : Int) <= 9223372036854775807) /\ ((((d32 xs).length + 1 : Nat) : Int) <= (((xs.length + 2) : Nat) : Int)) /\ (-9223372036854775808 <= ((d32 xs).length : Int) - (((p + 2) : Nat) : Int) /\ ((d32 xs).length : Int) - (((p + 2) : Nat) : Int) <= 9223372036854775807) /\ (Ref (.i6 (IntKind.i64.wrap ((((d32 xs).length : Int) - (((p + 2) : Nat) : Int)) + (1 : Int)))) (.i6 (M : Int))) /\ (4 * (M : Int) <= 281474976710656) /\ ((M : Int) <= (big : Int)) /\ (-9223372036854775808 <= (M : Int) - (1 : Int) /\ (M : Int) - (1 : Int) <= 9223372036854775807)) ?_ fun ⟨q0, q1, q2, q3, q4, q5, q6⟩ => gN KT205_ok [6, 7, 8, 9, 10, 11] [(56, .i6 (((d32 xs).length + 1 : Nat) : Int)), (61, .i6 ((((d32 xs).length : Nat) : Int) - (((p + 2) : Nat) : Int))), (62, .i6 (M : Int)), (66, .i6 ((M : Int) - (1 : Int)))] (.c6 (wI ((((d32 xs).length : Nat) : Int) + (1 : Int)) (((d32 xs).length + 1 : Nat) : Int) q0) (nn ((d32 xs).length + 1)) q1 (wI ((((d32 xs).length : Nat) : Int) - (((p + 2) : Nat) : Int)) ((((d32 xs).length : Nat) : Int) - (((p + 2) : Nat) : Int)) q2) q3 (rfl : (M : Int) = (M : Int)) (.a4 (nn M) q4 q5 (wI ((M : Int) - (1 : Int)) ((M : Int) - (1 : Int)) q6))) (t := T205) (σ := slots 164 [(6, .i6 (k : Int)), (7, .list 1 (d32 vs)), (8, (.i6 (((p + 2) : Nat) : Int))), (9, .own 0 1 0 ((d32 xs).length + 1)), (10, .own 1 1 0 M), (11, .i6 ((M : Int) - (1 : Int)))]) (h := [some ⟨362, 1, true, (d32 (us ++ List.replicate (xs.length + 2 - us.length) 0)), none⟩, some ⟨362, 1, true, (List.replicate M [.int .u32 (0 : Int)]), none⟩]) ?_
 · simp only [d32_length]
   exact ⟨by omega, by omega, by omega, Ref.wrI (by omega) (by omega), by omega, by unfold big; omega, by omega⟩
 rw [d32_rep, d32_length]
 have hzd : ∀ x ∈ us ++ List.replicate (xs.length + 2 - us.length) 0, x < b32 := by
   intro x hx'; rcases List.mem_append.1 hx' with h | h
   · exact hud.1 x h
   · rw [List.mem_replicate] at h; rw [h.2]; decide
 have hval : dval b32 (us ++ List.replicate (xs.length + 2 - us.length) 0) = n * 2 ^ k := by rw [dval_append, dval_rep, hun]; simp
 refine outer205 (L2 := xs.length + 2) (U := n * 2 ^ k) hvl hvd.1 hvt hM (by omega) (by unfold LIM; omega) hk32 rfl hvm hn hm M _ _ ?_; refine ⟨by simp; omega, hzd, by simp, rep_lt (by decide), ?_, ?_, Nat.le_refl _⟩
 · rw [hval, List.drop_of_length_le (by simp)]; simp [dval]
 · have h1 := dval_split b32 M (us ++ List.replicate (xs.length + 2 - us.length) 0)
   rw [hval] at h1; have hlow := hy.low (by decide) (fun h => by rw [h] at hp; simp at hp); rw [hym, hp, show p + 2 - 1 = p + 1 by omega] at hlow
   have h2 : n * 2 ^ k < b32 ^ M * (m * 2 ^ k) := by
     have a := Nat.mul_lt_mul_of_pos_right hnlt (Nat.two_pow_pos k)
     have c : b32 ^ xs.length <= b32 ^ M * m := by
       rw [show xs.length = M + (p + 1) by omega, Nat.pow_add]; exact Nat.mul_le_mul_left _ hlow
     have d := Nat.mul_le_mul_right (2 ^ k) c; rw [Nat.mul_assoc] at d; omega
   rw [hvm]; rcases Nat.lt_or_ge (dval b32 ((us ++ List.replicate (xs.length + 2 - us.length) 0).drop M)) (m * 2 ^ k) with h | h
   · exact h
   · have := Nat.mul_le_mul_left (b32 ^ M) h
     omega
end
def KT249_ok := kn
def k249 : KF
 | [.nat n _] => some (.int .u64 ((n : Nat) : Int), [n < 18446744073709551616])
 | _ => none
section
variable {S : Nat -> Prop} {w0 : World}
noncomputable abbrev T249 : List Item := [.code (nav [1, 1, 0, 1, 0, 0] (bodyOf Tryz.f249)), .inLoop (nav [1, 1, 0, 1, 0, 0] (bodyOf Tryz.f249)), .inBlock 0, .code (nav [1, 1, 1] (bodyOf Tryz.f249))]
theorem loop249 {xs : List Nat} (hx : ∀ x ∈ xs, x < b32) (hl : xs.length <= 2) : ∀ (j i v : Nat), j = xs.length - i -> i <= xs.length -> v = dval b32 (xs.take i) ->
   GF 249 S w0 (.int .u64 ((dval b32 xs : Nat) : Int)) T249 ⟨slots 22 [(3, .int .u64 ((v : Nat) : Int)), (6, .list 1 (d32 xs)), (7, (.i6 (((d32 xs).length : Nat) : Int))), (8, .i6 ((i : Nat) : Int))], []⟩ := by
 intro j
 induction j with
 | zero =>
   intro i v hj hi hv; have hi : i = xs.length := by omega
   subst hi; rw [tkE (rl _)] at hv; refine rF KT249_ok [(9, ff)] (.a1 (iF (show ¬ ((xs.length : Int) < ((d32 xs).length : Int)) by rw [d32_length]; omega))) (V := .int .u64 (v : Int)) ?_
   exact Ref.nat_eq hv
 | succ j ih =>
   intro i v hj hi hv; have hlt : i < xs.length := by omega
   have hx1 : xs.getD i 0 < b32 := getD_lt (by decide) hx i; have hvl : v < 2 ^ (32 * i) := by rw [hv, <- b32_pow]; exact dval_take_lt (by decide) hx i
   unfold b32 at hx1
   have hp : 2 ^ (32 * i) * xs.getD i 0 < 18446744073709551616 := by
     have : i = 0 \/ i = 1 := by omega
     rcases this with rfl | rfl
     · rw [show 2 ^ (32 * 0) = 1 from rfl, Nat.one_mul]; omega
     · rw [show 2 ^ (32 * 1) = 4294967296 from rfl]; omega
   have hv64 : v < 18446744073709551616 := by
     have : i = 0 \/ i = 1 := by omega
     rcases this with rfl | rfl
     · rw [show 2 ^ (32 * 0) = 1 from rfl] at hvl; omega
     · rw [show 2 ^ (32 * 1) = 4294967296 from rfl] at hvl; omega
   have v0 : (i : Int) < ((d32 xs).length : Int) := by rw [d32_length]; omega
   refine gN KT249_ok [2, 3, 6, 7, 8] [(9, tt), (11, .cptr [.int .u32 (xs.getD i 0 : Int)] 0), (15, .int .u64 (xs.getD i 0 : Int)), (17, .i6 ((32 * i : Nat) : Int)), (18, .int .u64 (((xs.getD i 0) * 2 ^ (32 * i) % 18446744073709551616 : Nat) : Int)), (19, .int .u64 ((v + 2 ^ (32 * i) * xs.getD i 0 : Nat) : Int)), (20, .i6 ((i + 1 : Nat) : Int))] (.c6 (iT v0) (Ref.cd32 hlt) (nn i) v0 (wU (xs.getD i 0 : Int) (xs.getD i 0 : Int)) (wI ((32 : Int) * (i : Int)) ((32 * i : Nat) : Int)) (.a4 (show Ref (.int .u64 (IntKind.u64.wrap (((xs.getD i 0 : Nat) : Int) * 2 ^ (min ((32 * i : Nat) : Int).toNat 64)))) (.int .u64 (((xs.getD i 0) * 2 ^ (32 * i) % 18446744073709551616 : Nat) : Int)) from Ref.shl64 (x := xs.getD i 0) (k := 32 * i) ((om (32 * i <= 64)))) (nn (32 * i)) (show Ref (.int .u64 (IntKind.u64.wrap (BitVec.ofInt 64 (v : Int) ||| BitVec.ofInt 64 (((xs.getD i 0) * 2 ^ (32 * i) % 18446744073709551616 : Nat) : Int)).toNat)) (.int .u64 ((v + 2 ^ (32 * i) * xs.getD i 0 : Nat) : Int)) from ?_) (wI ((i : Int) + (1 : Int)) ((i + 1 : Nat) : Int)))) (t := T249) (σ := slots 22 [(3, (.int .u64 ((v + 2 ^ (32 * i) * xs.getD i 0 : Nat) : Int))), (6, .list 1 (d32 xs)), (7, .i6 ((d32 xs).length : Int)), (8, .i6 ((i + 1 : Nat) : Int))]) (h := []) ?_
   · have e : xs.getD i 0 * 2 ^ (32 * i) % 18446744073709551616 = 2 ^ (32 * i) * xs.getD i 0 := by rw [Nat.mul_comm, Nat.mod_eq_of_lt hp]
     refine (Ref.or64 ⟨hv64, Nat.mod_lt _ (by decide)⟩).trans (Ref.nat_eq ?_); rw [e, Nat.or_comm, or_parts hvl]; omega
   · refine ih _ _ (by omega) (by omega) ?_
     rw [dval_take_succ, <- hv, b32_pow]
theorem a249 : Ctr 249 k249 := fun args r ob h ho => by
 unfold k249 at h
 split at h
 · rename_i n B
   cases h; have hn : n < 18446744073709551616 := ho _ (by simp); obtain ⟨hx, hxn⟩ := digits_spec (b := b32) (by decide) n; have hl := digits_len_le (b := b32) (n := n) (k := 2) (by decide) (by unfold b32; omega); refine af Tryz.f249 fun S w0 => ?_
   refine Good.weak 22 [(0, .list 1 (d32 (digits b32 n)))] (by kernel_rfl) (.cons Ref.opn .nil) ?_; generalize digits b32 n = xs at *; subst hxn; exact gN KT249_ok [3, 6, 7, 8] [] .nil (loop249 hx.1 hl _ 0 0 rfl (by omega) (by simp [dval]))
 · cases h
end
def KT204_ok := ((kn.cons a249).cons a205).cons a202
section
variable {S0 C0 : Nat -> Prop} {w0 : World} {Post : Value -> World -> Prop}
theorem p204_4_1 (x y : Nat) (h1 : (y : Int) = (0 : Int)) (o : ((x : Int) < 18446744073709551616))
   (hg : Good Tryz.prog 204 S0 C0 w0 Post [.code .ret, .code (nav [1, 0, 0, 0, 1, 0, 1] (bodyOf Tryz.f204)), .inBlock 1, .inLoop (nav [1, 0, 0, 0] (bodyOf Tryz.f204)), .inBlock 0, .code (nav [1, 1] (bodyOf Tryz.f204))] ⟨slots 41 [(4, .nat x 64), (5, .int .u64 (x : Int)), (6, .int .u64 (y : Int))], []⟩) :
   Good Tryz.prog 204 S0 C0 w0 Post [.code (nav [1, 0, 0, 0, 1, 0, 0, 1, 0, 1, 0, 0, 0] (bodyOf Tryz.f204)), .inLoop (nav [1, 0, 0, 0, 1, 0, 0, 1, 0, 1, 0, 0, 0] (bodyOf Tryz.f204)), .inBlock 2, .code (nav [1, 0, 0, 0, 1, 0, 0, 1, 0, 1, 1] (bodyOf Tryz.f204)), .code (nav [1, 0, 0, 0, 1, 0, 1] (bodyOf Tryz.f204)), .inBlock 1, .inLoop (nav [1, 0, 0, 0] (bodyOf Tryz.f204)), .inBlock 0, .code (nav [1, 1] (bodyOf Tryz.f204))] ⟨slots 41 [(5, .int .u64 (x : Int)), (6, .int .u64 (y : Int))], []⟩ :=
 goR mixed TT0_ok KT204_ok 12 none [4, 5, 6] [] [(25, (.bool false))] (ob := [Ref (.bool (!decide ((y : Int) = (0 : Int)))) (.bool false), 0 <= (x : Int), (x : Int) < 18446744073709551616]) (by decide) (by kernel_rfl)
   (.cons (Ref.bool (congrArg Bool.not (decide_eq_true h1))) (.cons (Int.natCast_nonneg _) (.cons (o) (AllP.nil)))) hg
end
def k204 : KF
 | [.nat n B, .nat m C] => some (.nat (Nat.gcd n m) (max B C), [max B C + 128 <= LIM])
 | _ => none
theorem gcd_lt {n m E : Nat} (hn : n < 2 ^ E) (hm : m < 2 ^ E) : Nat.gcd n m < 2 ^ E := by
 rcases Nat.eq_zero_or_pos m with rfl | h
 · rw [Nat.gcd_zero_right]; exact hn
 · exact Nat.lt_of_le_of_lt (Nat.gcd_le_right n h) hm
theorem gcd_step (n m : Nat) : Nat.gcd n m = Nat.gcd m (n % m) := by
 rw [Nat.gcd_comm n m, Nat.gcd_rec m n, Nat.gcd_comm]
section
variable {S : Nat -> Prop} {w0 : World}
noncomputable abbrev T204 : List Item := [.code (nav [1, 0, 0, 0] (bodyOf Tryz.f204)), .inLoop (nav [1, 0, 0, 0] (bodyOf Tryz.f204)), .inBlock 0, .code (nav [1, 1] (bodyOf Tryz.f204))]
noncomputable abbrev T204i : List Item := [.code (nav [1, 0, 0, 0, 1, 0, 0, 1, 0, 1, 0, 0, 0] (bodyOf Tryz.f204)), .inLoop (nav [1, 0, 0, 0, 1, 0, 0, 1, 0, 1, 0, 0, 0] (bodyOf Tryz.f204)), .inBlock 2, .code (nav [1, 0, 0, 0, 1, 0, 0, 1, 0, 1, 1] (bodyOf Tryz.f204)), .code (nav [1, 0, 0, 0, 1, 0, 1] (bodyOf Tryz.f204)), .inBlock 1, .inLoop (nav [1, 0, 0, 0] (bodyOf Tryz.f204)), .inBlock 0, .code (nav [1, 1] (bodyOf Tryz.f204))]
theorem inner204 {E : Nat} : ∀ (f x y : Nat), y <= f -> x < 18446744073709551616 -> y < 18446744073709551616 -> Nat.gcd x y < 2 ^ E ->
   GF 204 S w0 (.nat (Nat.gcd x y) E) T204i ⟨slots 41 [(5, .int .u64 ((x : Nat) : Int)), (6, .int .u64 ((y : Nat) : Int))], []⟩ := by
 have last : ∀ x, x < 18446744073709551616 -> Nat.gcd x 0 < 2 ^ E -> GF 204 S w0 (.nat (Nat.gcd x 0) E) T204i ⟨slots 41 [(5, .int .u64 ((x : Nat) : Int)), (6, .int .u64 ((0 : Nat) : Int))], []⟩ := by
   intro x hx hE; rw [Nat.gcd_zero_right] at hE ⊢; exact p204_4_1 x 0 rfl (by omega) (good_ret1 TT0_ok (fn := Tryz.f204) (by kernel_rfl) 4 (by kernel_rfl) rfl (by rfl) (Ref.natB hE))
 intro f
 induction f with
 | zero =>
   intro x y hf hx hy hE; have : y = 0 := by omega
   subst this; exact last x hx hE
 | succ f ih =>
   intro x y hf hx hy hE
   by_cases h0 : y = 0
   · subst h0; exact last x hx hE
   · refine gN KT204_ok [4, 5, 6] [(25, tt), (29, .int .u64 ((x % y : Nat) : Int))] (.a3 (jT (om (¬ ((y : Int) = (0 : Int))))) (show Ref (.int .u64 ((x : Int).tmod (y : Int))) (.int .u64 ((x % y : Nat) : Int)) from Ref.rem (a := x) (b := y) rfl rfl) (om ((y : Int) ≠ 0))) (t := T204i) (σ := slots 41 [(5, .int .u64 (y : Int)), (6, .int .u64 ((x % y : Nat) : Int))]) (h := []) ?_
     have hlt : x % y < y := Nat.mod_lt _ (by omega); rw [gcd_step] at hE ⊢; exact ih _ _ (by omega) hy (by omega) hE
theorem loop204 {E : Nat} (hL : E + 128 <= LIM) : ∀ (f n m : Nat), m <= f -> n < 2 ^ E -> m < 2 ^ E ->
   GF 204 S w0 (.nat (Nat.gcd n m) E) T204 ⟨slots 41 [(0, .nat n E), (1, .nat m E)], []⟩ := by
 have last : ∀ n, n < 2 ^ E -> GF 204 S w0 (.nat (Nat.gcd n 0) E) T204 ⟨slots 41 [(0, .nat n E), (1, .nat 0 E)], []⟩ := by
   intro n hn; obtain ⟨hx, hxn⟩ := digits_spec (b := b32) (by decide) n; rw [Nat.gcd_zero_right]; refine Good.weak 41 [(0, .list 1 (d32 (digits b32 n))), (1, .list 1 (d32 (digits b32 0)))] (by kernel_rfl) (.cons Ref.opn (.cons Ref.opn .nil)) ?_; refine rF KT204_ok [(11, ff)] (.a1 (iF (show ¬ ((0 : Int) < ((d32 (digits b32 0)).length : Int)) by simp [d32_length, digits_zero]))) (V := .list 1 (d32 (digits b32 n))) (Ref.nat hx hxn hn)
 intro f
 induction f with
 | zero =>
   intro n m hf hn hm; have : m = 0 := by omega
   subst this; exact last n hn
 | succ f ih =>
   intro n m hf hn hm
   by_cases h0 : m = 0
   · subst h0; exact last n hn
   obtain ⟨hx, hxn⟩ := digits_spec (b := b32) (by decide) n; obtain ⟨hy, hyn⟩ := digits_spec (b := b32) (by decide) m; have hy0 : 0 < (digits b32 m).length := (digits_pos (by decide)).2 (by omega)
   have hbig : ∀ k, (digits b32 k).length <= 2 -> k < 18446744073709551616 := fun k hk => by
     have h1 := digits_lt_len (b := b32) (n := k) (by decide); have h2 : b32 ^ (digits b32 k).length <= b32 ^ 2 := Nat.pow_le_pow_right (by decide) hk; have h3 : b32 ^ 2 = 18446744073709551616 := by decide
     omega
   have div : GF 204 S w0 (.nat (Nat.gcd n m) E) [.code (nav [1, 0, 0, 0, 1, 0, 1, 0] (bodyOf Tryz.f204)), .code (nav [1, 0, 0, 0, 1, 0, 1, 1] (bodyOf Tryz.f204)), .inBlock 1, .inLoop (nav [1, 0, 0, 0] (bodyOf Tryz.f204)), .inBlock 0, .code (nav [1, 1] (bodyOf Tryz.f204))] ⟨slots 41 [(0, .list 1 (d32 (digits b32 n))), (1, .list 1 (d32 (digits b32 m)))], []⟩ := by
     refine Good.weak 41 [(0, .nat n E), (1, .nat m E)] (by kernel_rfl) (.cons (Ref.nat hx hxn hn) (.cons (Ref.nat hy hyn hm) .nil)) ?_; refine gR KT204_ok none [0, 1] [] [] (.a2 (om (0 < m)) (show max E E + 128 <= LIM by rw [Nat.max_self]; exact hL)) (t := T204) (σ := slots 41 [(0, .nat m E), (1, .nat (n % m) (max E E))]) (h := []) ?_
     rw [Nat.max_self, gcd_step]; have hlt : n % m < m := Nat.mod_lt _ (by omega); exact ih _ _ (by omega) hm (by omega)
   refine Good.weak 41 [(0, .list 1 (d32 (digits b32 n))), (1, .list 1 (d32 (digits b32 m)))] (by kernel_rfl) (.cons Ref.opn (.cons Ref.opn .nil)) ?_; have v0 : (0 : Int) < ((d32 (digits b32 m)).length : Int) := by rw [d32_length]; omega
   by_cases c1 : (digits b32 n).length <= 2
   · have v1 : ((d32 (digits b32 n)).length : Int) <= (2 : Int) := by rw [d32_length]; omega
     by_cases c2 : (digits b32 m).length <= 2
     · refine gS KT204_ok (some 3) [0, 1, 4] [(11, tt), (15, tt), (19, tt)] (.a3 (iT v0) (iT v1) (iT (show ((d32 (digits b32 m)).length : Int) <= (2 : Int) by rw [d32_length]; omega))) (t := [.code (nav [1, 0, 0, 0, 1, 0, 0, 1, 0, 0] (bodyOf Tryz.f204)), .code (nav [1, 0, 0, 0, 1, 0, 0, 1, 0, 1] (bodyOf Tryz.f204)), .code (nav [1, 0, 0, 0, 1, 0, 1] (bodyOf Tryz.f204)), .inBlock 1, .inLoop (nav [1, 0, 0, 0] (bodyOf Tryz.f204)), .inBlock 0, .code (nav [1, 1] (bodyOf Tryz.f204))]) (σ := slots 41 [(0, .list 1 (d32 (digits b32 n))), (1, .list 1 (d32 (digits b32 m)))]) (h := []) ?_
       refine Good.weak 41 [(0, .nat n E), (1, .nat m E)] (by kernel_rfl) (.cons (Ref.nat hx hxn hn) (.cons (Ref.nat hy hyn hm) .nil)) ?_; refine gR KT204_ok none [5, 6] [] [] (.a2 (show n < 18446744073709551616 from hbig n c1) (show m < 18446744073709551616 from hbig m c2)) (t := T204i) (σ := slots 41 [(5, .int .u64 (n : Int)), (6, .int .u64 (m : Int))]) (h := []) ?_
       exact inner204 m n m (rl _) (hbig n c1) (hbig m c2) (gcd_lt hn hm)
     · exact gS KT204_ok (some 7) [0, 1, 4] [(11, tt), (15, tt), (19, ff)] (.a3 (iT v0) (iT v1) (iF (show ¬ ((((d32 (digits b32 m)).length : Nat) : Int) <= (2 : Int)) by rw [d32_length]; omega))) div
   · exact gS KT204_ok (some 7) [0, 1, 4] [(11, tt), (15, ff)] (.a2 (iT v0) (iF (show ¬ ((((d32 (digits b32 n)).length : Nat) : Int) <= (2 : Int)) by rw [d32_length]; omega))) div
theorem a204 : Ctr 204 k204 := by
 refine ctr Tryz.f204 fun _ _ _ S w0 h ho => ?_
 unfold k204 at h; split at h <;> cases h; rename_i n B m C; have hL : max B C + 128 <= LIM := ho _ (by simp); refine Good.natlt (n := n) (B := B) 0 rfl fun hn => Good.natlt (n := m) (B := C) 1 rfl fun hm => ?_
 have hn' := pow_le hn (Nat.le_max_left B C); have hm' := pow_le hm (Nat.le_max_right B C); refine Good.weak 41 [(0, .nat n (max B C)), (1, .nat m (max B C))] (by kernel_rfl) (.cons (Ref.natB hn') (.cons (Ref.natB hm') .nil)) ?_; exact gN KT204_ok [0, 1] [] .nil (loop204 hL m n m (rl _) hn' hm')
end
def KT206_ok := (kn.cons a266).cons a208
def k206 : KF
 | [.nat n B, .nat m C] => some (.nat (n - m) B, [m <= n, B <= LIM])
 | _ => none
section
variable {S : Nat -> Prop} {w0 : World}
noncomputable abbrev T206 : List Item := [.code (nav [1, 1, 1, 0, 1, 0, 0] (bodyOf Tryz.f206)), .inLoop (nav [1, 1, 1, 0, 1, 0, 0] (bodyOf Tryz.f206)), .inBlock 0, .code (nav [1, 1, 1, 1] (bodyOf Tryz.f206))]
theorem loop206 {xs ys : List Nat} {N B m : Nat} (hmm : m = xs.length) (hx : ∀ x ∈ xs, x < b32) (hy : ∀ x ∈ ys, x < b32) (hl : ys.length <= xs.length) (hbig : xs.length + 2 <= big)
   (hN : dval b32 xs = dval b32 ys + N) (hB : N < 2 ^ B) : ∀ (j i c : Nat) (ds : List Nat), j = xs.length - i -> i <= xs.length -> c <= 1 -> ds.length = xs.length -> (∀ x ∈ ds, x < b32) ->
   dval b32 (ds.take i) + dval b32 (ys.take i) = dval b32 (xs.take i) + b32 ^ i * c ->
   GF 206 S w0 (.nat N B) T206
     ⟨slots 41 [(0, .list 1 (d32 xs)), (1, .list 1 (d32 ys)), (5, .own 0 1 0 m), (6, .int .u32 ((c : Nat) : Int)), (13, (.i6 (((d32 xs).length : Nat) : Int))), (14, .i6 ((i : Nat) : Int))],
      [some ⟨362, 1, true, (d32 ds), none⟩]⟩ := by
 unfold big at hbig; intro j
 induction j with
 | zero =>
   intro i c ds hj hi hc hd hdl hinv; have hi : i = xs.length := by omega
   subst hi; have e0 : ((d32 ds).drop 0).take m = d32 ds := by rw [List.drop_zero, tkE (by rw [d32_length]; omega)]
   have hlt : dval b32 ds < b32 ^ xs.length := by rw [<- hd]; exact dval_lt (by decide) hdl
   rw [tkE (by omega), tkE hl, tkE (rl _)] at hinv
   have hc0 : c = 0 := by
     rcases Nat.eq_zero_or_pos c with h | h
     · exact h
     · have : b32 ^ xs.length * 1 <= b32 ^ xs.length * c := Nat.mul_le_mul_left _ h
       omega
   subst hc0; refine rF KT206_ok [(15, ff)] (.a4 (iF (show ¬ ((xs.length : Int) < ((d32 xs).length : Int)) by rw [d32_length]; omega)) (show 0 + m <= (d32 ds).length by rw [d32_length]; omega) (show (((d32 ds).drop 0).take m) = d32 (un32 (((d32 ds).drop 0).take m)) by rw [e0, un32_d32]) (show ∀ x ∈ un32 (((d32 ds).drop 0).take m), x < b32 by rw [e0, un32_d32]; exact hdl)) (V := .nat (dval b32 (un32 (((d32 ds).drop 0).take m))) (32 * (((d32 ds).drop 0).take m).length)) ?_
   show Ref (.nat (dval b32 (un32 (((d32 ds).drop 0).take m))) _) _; rw [e0, un32_d32, show dval b32 ds = N by omega]; exact Ref.natB hB
 | succ j ih =>
   intro i c ds hj hi hc hd hdl hinv; have hlt : i < xs.length := by omega
   have hx1 : xs.getD i 0 < b32 := getD_lt (by decide) hx i; have hy1 : ys.getD i 0 < b32 := getD_lt (by decide) hy i; unfold b32 at hx1 hy1
   have nx : ∀ y, y = ys.getD i 0 -> GF 206 S w0 (.nat N B) T206
     ⟨slots 41 [(0, .list 1 (d32 xs)), (1, .list 1 (d32 ys)), (5, .own 0 1 0 m), (6, .int .u32 ((if xs.getD i 0 < y + c then 1 else 0 : Nat) : Int)), (13, (.i6 (((d32 xs).length : Nat) : Int))), (14, .i6 ((i + 1 : Nat) : Int))],
      [some ⟨362, 1, true, ((d32 ds).set (0 + i) [(AV.int .u32 (((xs.getD i 0 + 8589934592 - y - c) % 4294967296 : Nat) : Int))]), none⟩]⟩ := by
     intro y hyy; rw [d32_set, Nat.zero_add]; have hy2 : y < 4294967296 := by omega
     refine ih (i + 1) _ _ (by omega) (by omega) (by split <;> omega) (by simp [hd]) (set_lt hdl (by unfold b32; omega)) ?_; rw [dval_take_succ, dval_take_succ b32 xs, dval_take_succ b32 ys, set_take, set_getD_self (by omega), Nat.pow_succ, <- hyy]; refine step_sub ?_ hinv; unfold b32
     split <;> omega
   have v0 : (i : Int) < ((d32 xs).length : Int) := by rw [d32_length]; omega
   have v1 : 0 <= (xs.getD i 0 : Int) := Int.natCast_nonneg _
   by_cases hyl : i < ys.length
   · refine have_ (p := (i < ys.length) /\ ((i : Int) < ((d32 ys).length : Int)) /\ (i < xs.length) /\ ((i : Int) < ((d32 xs).length : Int)) /\ ((xs.getD i 0) < 4294967296) /\ ((ys.getD i 0) < 4294967296) /\ (c <= 1) /\ ((i : Int) < (m : Int)) /\ (0 + i < (d32 ds).length) /\ (-9223372036854775808 <= (i : Int) + (1 : Int) /\ (i : Int) + (1 : Int) <= 9223372036854775807)) ?_ fun ⟨q0, q1, q2, q3, q4, q5, q6, q7, q8, q9⟩ => gR KT206_ok none [0, 1, 4, 5, 6, 13, 14] [0] [(15, tt), (20, tt), (23, .cptr [.int .u32 (ys.getD i 0 : Int)] 0), (30, .cptr [.int .u32 (xs.getD i 0 : Int)] 0), (38, .i6 ((i + 1 : Nat) : Int))] (.c6 (iT v0) (iT (show (i : Int) < ((d32 ys).length : Int) by rw [d32_length]; omega)) (Ref.cd32 q0) (nn i) q1 (Ref.cd32 q2) (.c6 (nn i) q3 v1 (show 0 <= (ys.getD i 0 : Int) from Int.natCast_nonneg _) (nn c) q4 (.a6 q5 q6 (nn i) q7 q8 (wI ((i : Int) + (1 : Int)) ((i + 1 : Nat) : Int) q9)))) (nx _ rfl)
     simp only [d32_length, hd]; omega
   · have hz : 0 = ys.getD i 0 := by simp [gdE, Nat.le_of_not_lt hyl]
     refine have_ (p := (i < xs.length) /\ ((i : Int) < ((d32 xs).length : Int)) /\ ((xs.getD i 0) < 4294967296) /\ (c <= 1) /\ ((i : Int) < (m : Int)) /\ (0 + i < (d32 ds).length) /\ (-9223372036854775808 <= (i : Int) + (1 : Int) /\ (i : Int) + (1 : Int) <= 9223372036854775807)) ?_ fun ⟨q0, q1, q2, q3, q4, q5, q6⟩ => gR KT206_ok none [0, 1, 4, 5, 6, 13, 14] [0] [(15, tt), (20, ff), (30, .cptr [.int .u32 (xs.getD i 0 : Int)] 0), (38, .i6 ((i + 1 : Nat) : Int))] (.c6 (iT v0) (iF (show ¬ ((i : Int) < ((d32 ys).length : Int)) by rw [d32_length]; omega)) (Ref.cd32 q0) (nn i) q1 v1 (.c6 (dc (0 <= (0 : Int))) (nn c) q2 (dc (0 < 4294967296)) q3 (nn i) (.a3 q4 q5 (wI ((i : Int) + (1 : Int)) ((i + 1 : Nat) : Int) q6)))) (nx _ hz)
     simp only [d32_length, hd]; omega
theorem a206 : Ctr 206 k206 := fun args r ob h ho => by
 unfold k206 at h
 split at h
 · rename_i n B m C
   cases h; have hmn : m <= n := ho _ (by simp); have hL : B <= LIM := ho _ (by simp); unfold LIM at hL; obtain ⟨hx, hxn⟩ := digits_spec (b := b32) (by decide) n; obtain ⟨hy, hyn⟩ := digits_spec (b := b32) (by decide) m; refine af Tryz.f206 fun S w0 => ?_
   refine Good.natlt (n := n) (B := B) 0 rfl fun hn => ?_
   refine Good.weak 41 [(0, .list 1 (d32 (digits b32 n))), (1, .list 1 (d32 (digits b32 m)))] (by kernel_rfl) (.cons Ref.opn (.cons Ref.opn .nil)) ?_; have l1 := hx.len (by rw [hxn]; exact hn); generalize digits b32 n = xs at *; generalize digits b32 m = ys at *; subst hxn; subst hyn
   have hlen : ys.length <= xs.length := by
     rcases Nat.lt_or_ge xs.length ys.length with h | h
     · have := dval_lt_of_len (by decide) hx hy h; omega
     · exact h
   refine have_ (p := (4 * ((d32 xs).length : Int) <= 281474976710656) /\ ((((d32 xs).length : Nat) : Int) <= (big : Int))) (by simp only [d32_length]; unfold big; omega) fun ⟨q0, q1⟩ => gN KT206_ok [0, 1, 4, 5, 6, 13, 14] [] (.a4 (rfl : ((d32 xs).length : Int) = ((d32 xs).length : Int)) (show 0 <= ((d32 xs).length : Int) from Int.natCast_nonneg _) q0 q1) (t := T206) (σ := slots 41 [(0, .list 1 (d32 xs)), (1, .list 1 (d32 ys)), (4, .nil), (5, .own 0 1 0 ((d32 xs).length)), (6, .int .u32 (0 : Int)), (13, .i6 ((d32 xs).length : Int)), (14, .i6 (0 : Int))]) (h := [some ⟨362, 1, true, (List.replicate ((d32 xs).length) [.int .u32 (0 : Int)]), none⟩]) ?_
   rw [d32_rep]; refine Good.weak 41 [(0, _), (1, _), (5, _), (6, _), (13, _), (14, _)] (by kernel_rfl) (.r (.r (.r (.r (.r (.r .nil)))))) ?_; exact loop206 (by rw [d32_length]) hx.1 hy.1 hlen (by unfold big; omega) (by omega) (by omega) _ 0 0 _ rfl (by omega) (by omega) (by simp [d32_length]) (rep_lt (by decide)) (by simp [dval])
 · cases h
end
def KT112_ok := ((((kn.cons a206).cons a205).cons a204).cons a202).cons a109
def k112 : KF
 | [.agg [.z n B], .nat d C] => some (.agg [.q (mkRat n d) (max B C)], [0 < d, max B C + 128 <= LIM])
 | _ => none
theorem mkRat_sgn {n : Int} {d : Nat} (hd : d ≠ 0) : sgn (decide (n < 0)) (n.natAbs / n.natAbs.gcd d) = (mkRat n d).num := by
 rw [<- sgn_self (mkRat n d).num, mkRat_natAbs hd]
 congr 1
 simp only [decide_eq_decide]; exact (mkRat_neg hd).symm
theorem a112 : Ctr 112 k112 := by
 refine ctr Tryz.f112 fun _ _ _ S w0 h ho => ?_
 unfold k112 at h; split at h <;> cases h; rename_i n B d C; have hd : 0 < d := ho _ (by simp); have hL : max B C + 128 <= LIM := ho _ (by simp); have hB1 : B <= max B C := Nat.le_max_left _ _; have hC1 : C <= max B C := Nat.le_max_right _ _; refine Good.zlt (n := n) (B := B) 0 rfl fun hn => Good.natlt (n := d) (B := C) 1 rfl fun hdC => ?_
 have hg0 : 0 < n.natAbs.gcd d := Nat.gcd_pos_of_pos_right _ hd; have hgd : n.natAbs.gcd d <= d := Nat.gcd_le_right _ hd; have hgE : n.natAbs.gcd d < 2 ^ max B C := pow_le (Nat.lt_of_le_of_lt hgd hdC) hC1; obtain ⟨hx, hxn⟩ := digits_spec (b := b32) (by decide) (n.natAbs.gcd d); have fold : ∀ k e, k = (mkRat n d).num -> e = (mkRat n d).den - 1 -> Ref (.agg [.z k B, .nat e C]) (.agg [.q (mkRat n d) (max B C)]) := fun k e hk he => Ref.agg (RefC.mkq hB1 hC1 hk he)
 have dn0 : d ≠ 0 := by omega
 have v1 : (1 : Int) < 18446744073709551616 := by decide
 have rest : GF 112 S w0 (.agg [.q (mkRat n d) (max B C)]) [.code (nav [1, 0, 1, 1, 0, 0] (bodyOf Tryz.f112)), .code (nav [1, 0, 1, 1, 0, 1] (bodyOf Tryz.f112)), .code (nav [1, 1] (bodyOf Tryz.f112))] ⟨slots 42 [(1, .nat d C), (2, .ptr 0 2 0 0), (4, .ptr 1 3 0 0), (5, (.list 1 (d32 (digits b32 (n.natAbs.gcd d)))))], [some ⟨54, 2, false, [[(.z n B)]], none⟩, some ⟨56, 3, false, [[(.q 0 0)]], none⟩]⟩ := by
   refine Good.weak 42 [(1, _), (2, _), (4, _), (5, .nat (n.natAbs.gcd d) (max B C))] (by kernel_rfl) (.r (.r (.r (.cons (Ref.nat hx hxn hgE) .nil)))) ?_; have hdg : 0 < d / n.natAbs.gcd d := Nat.div_pos hgd hg0; refine rF KT112_ok [] (.c6 hg0 (om (max B (max B C) + 128 <= LIM)) hg0 (om (max C (max B C) + 128 <= LIM)) (dc (0 <= (1 : Int))) v1 (.a2 hdg (om (C <= LIM)))) (V := .agg [.z (sgn (decide (n < 0)) (n.natAbs / n.natAbs.gcd d)) B, .nat ((d / n.natAbs.gcd d) - 1) C]) (fold _ _ (mkRat_sgn dn0) ?_)
   rw [mkRat_den dn0]
 have v0 : Ref (.nat (Nat.gcd n.natAbs d) (max B C)) (.list 1 (d32 (digits b32 (Nat.gcd n.natAbs d)))) := Ref.opn
 by_cases c1 : (digits b32 (n.natAbs.gcd d)).length = 1
 · by_cases c2 : (digits b32 (n.natAbs.gcd d)).getD 0 0 = 1
   · have hg1 : n.natAbs.gcd d = 1 := by
       have h1 := dval_take_succ b32 (digits b32 (n.natAbs.gcd d)) 0; rw [tkE (by omega), hxn, c2] at h1; simpa [dval] using h1
     refine rF KT112_ok [(9, .list 1 (d32 (digits b32 (n.natAbs.gcd d)))), (13, ff), (15, .cptr [.int .u32 ((digits b32 (n.natAbs.gcd d)).getD 0 0 : Int)] 0), (18, ff)] (.c6 (show Ref (.nat (Nat.gcd n.natAbs d) (max B C)) (.list 1 (d32 (digits b32 (n.natAbs.gcd d)))) from Ref.opn) hL (jF (show ((d32 (digits b32 (n.natAbs.gcd d))).length : Int) = (1 : Int) by rw [d32_length]; omega)) (show Ref (.cptr ((d32 (digits b32 (n.natAbs.gcd d))).getD 0 []) 0) (.cptr [.int .u32 ((digits b32 (n.natAbs.gcd d)).getD 0 0 : Int)] 0) from Ref.cd32 ((om (0 < (digits b32 (n.natAbs.gcd d)).length)))) (dc (0 <= (0 : Int))) (show (0 : Int) < ((d32 (digits b32 (n.natAbs.gcd d))).length : Int) by rw [d32_length]; omega) (.a5 (jF (om (((digits b32 (n.natAbs.gcd d)).getD 0 0 : Int) = (1 : Int)))) (dc (0 <= (1 : Int))) v1 hd (om (C <= LIM)))) (V := .agg [.z (sgn (decide (n < 0)) n.natAbs) B, .nat (d - 1) C]) (fold _ _ ?_ ?_)
     · rw [<- mkRat_sgn dn0, hg1, Nat.div_one]
     · rw [mkRat_den dn0, hg1, Nat.div_one]
   · exact gR KT112_ok (some 3) [1, 2, 4, 5] [0, 1] [(9, .list 1 (d32 (digits b32 (Nat.gcd n.natAbs d)))), (13, ff), (15, .cptr [.int .u32 ((digits b32 (Nat.gcd n.natAbs d)).getD 0 0 : Int)] 0), (18, tt)] (.c6 v0 hL (jF (show ((d32 (digits b32 (Nat.gcd n.natAbs d))).length : Int) = (1 : Int) by rw [d32_length]; omega)) (show Ref (.cptr ((d32 (digits b32 (Nat.gcd n.natAbs d))).getD 0 []) 0) (.cptr [.int .u32 ((digits b32 (Nat.gcd n.natAbs d)).getD 0 0 : Int)] 0) from Ref.cd32 ((om (0 < (digits b32 (Nat.gcd n.natAbs d)).length)))) (dc (0 <= (0 : Int))) (show (0 : Int) < ((d32 (digits b32 (Nat.gcd n.natAbs d))).length : Int) by rw [d32_length]; omega) (.a1 (jT (om (¬ ((((digits b32 (Nat.gcd n.natAbs d)).getD 0 0 : Nat) : Int) = (1 : Int))))))) rest
 · exact gR KT112_ok (some 3) [1, 2, 4, 5] [0, 1] [(9, .list 1 (d32 (digits b32 (Nat.gcd n.natAbs d)))), (13, tt)] (.a3 v0 hL (jT (show ¬ ((((d32 (digits b32 (Nat.gcd n.natAbs d))).length : Nat) : Int) = (1 : Int)) by rw [d32_length]; omega))) rest
end Go.Av
namespace Go.Av
open Go.RowKit
theorem RefC.opn : RefC (.nat n B :: cs) (.list 1 (d32 (digits b32 n)) :: cs) := fun ρ S w D vs x => by
 cases x with
 | nat xs h1 h2 h3 h4 =>
   obtain ⟨g1, g2⟩ := digits_spec (b := b32) (by decide) n; rw [<- Dig.uniq (by decide) h1 g1 (by rw [h2, g2])]; exact h4
theorem RefC.opnd : RefC (.dig n B :: cs) (.list 1 (d64 (digits b10k n)) :: cs) := fun ρ S w D vs x => by
 cases x with
 | dig xs h1 h2 h3 h4 =>
   obtain ⟨g1, g2⟩ := digits_spec (b := b10k) (by decide) n; rw [<- Dig.uniq (by decide) h1 g1 (by rw [h2, g2])]; exact h4
theorem RefC.zopn : RefC (.z n B :: cs) (.bool (decide (n < 0)) :: .nat n.natAbs B :: cs) := fun ρ S w D vs x => by
 cases x with
 | z h => exact h
theorem RefC.q_eq (h : x = y) (k : B <= C) : RefC (.q x B :: cs) (.q y C :: cs) := by subst h; exact RefC.q_le k
theorem RefC.z_eq (h : x = y) (k : B <= C) : RefC (.z x B :: cs) (.z y C :: cs) := by subst h; exact RefC.z_le k
theorem RefC.rz_eq (h : x = y) (k : B <= C) : RefC (.rz x B :: cs) (.rz y C :: cs) := by subst h; exact RefC.rz_le k
theorem Ref.nat_of (h : x = y) (k : B <= C) : Ref (.nat x B) (.nat y C) := by subst h; exact Ref.nat_le k
theorem Ref.dig_of (h : x = y) (k : B <= C) : Ref (.dig x B) (.dig y C) := by subst h; exact Ref.dig_le k
theorem Ref.q1 (h : x = y) (k : B <= C) : Ref (.agg [.q x B]) (.agg [.q y C]) := Ref.agg (RefC.q_eq h k)
theorem Ref.z1 (h : x = y) (k : B <= C) : Ref (.agg [.z x B]) (.agg [.z y C]) := Ref.agg (RefC.z_eq h k)
theorem Ref.rz1 (h : x = y) (k : B <= C) : Ref (.agg [.rz x B]) (.agg [.rz y C]) := Ref.agg (RefC.rz_eq h k)
theorem neq_xor (a b : Bool) : (!(a == b)) = (a != b) := rfl
end Go.Av
namespace Go.Av
open Go.Proofs Go.RowKit
def k110 : KF
 | [.int .i64 n] => some (.nat n.natAbs 64, [(-9223372036854775808 : Int) <= n, n <= (9223372036854775807 : Int)])
 | _ => none
theorem a110 : Ctr 110 k110 := by
 refine ctr Tryz.f110 fun _ _ _ S w0 h ho => ?_
 unfold k110 at h; split at h <;> cases h; rename_i n; obtain ⟨o1, o2⟩ := ho.e2; have K := kn.cons a202
 by_cases h1 : n < (0 : Int)
 · exact rF K [(4, tt), (7, .int .u64 (0 - n))] (.a4 (iT h1) (show Ref (.int .u64 (IntKind.u64.wrap (0 - (IntKind.u64.wrap n)))) (.int .u64 (0 - n)) by exact Ref.int (by simp only [IntKind.wrap, IntKind.signed, IntKind.bits]; simp; omega)) (om (0 <= (0 - n))) (om ((0 - n) < 18446744073709551616))) (V := .nat ((0 - n).toNat) 64) (Ref.nat_of (by omega) (rl _))
 · exact rF K [(4, ff), (10, .int .u64 n)] (.a4 (iF h1) (wU (n) n) (om (0 <= n)) (om (n < 18446744073709551616))) (V := .nat n.toNat 64) (Ref.nat_of (by omega) (rl _))
def k105 : KF
 | [.int .i64 n, .int .i64 d] => some (.tup [.agg [.q ((n : Rat) / (d : Rat)) 64], .int .i64 (if d = 0 then 9 else 0)], [(-9223372036854775808 : Int) <= n, n <= (9223372036854775807 : Int), (-9223372036854775808 : Int) <= d, d <= (9223372036854775807 : Int)])
 | _ => none
theorem a105 : Ctr 105 k105 := by
 refine ctr Tryz.f105 fun _ _ _ S w0 h ho => ?_
 unfold k105 at h; split at h <;> cases h; rename_i n d; obtain ⟨o1, o2, o3, o4⟩ := ho.e4; have L := limE; have K := ((kn.cons a112).cons a110).cons a109
 by_cases h1 : d = (0 : Int)
 · refine rF K [(7, tt)] (.a1 (iT h1)) (V := .tup [.agg [.q 0 0], .i6 (9 : Int)]) ?_
   subst h1; exact Ref.tup2 (Ref.q1 (by rw [show ((0 : Int) : Rat) = 0 from rfl, Rat.div_def, Rat.inv_zero, Rat.mul_zero]) (by omega)) (Ref.int (by simp)) rfl rfl rfl rfl
 · refine rF K [(7, ff)] (.c6 (iF h1) o1 o2 o3 o4 (om (0 < d.natAbs)) (.a1 (om (max 64 64 + 128 <= LIM)))) (V := .tup [.agg [.q (mkRat (sgn (!((decide (n < (0 : Int))) == (decide (d < (0 : Int))))) n.natAbs) d.natAbs) (max 64 64)], .i6 (0 : Int)]) ?_
   refine Ref.tup2 (Ref.q1 ?_ (by omega)) (Ref.int (by rw [if_neg h1])) rfl rfl rfl rfl; have h := div_mk (n : Rat) (d : Rat) (fun h => h1 (Rat.intCast_eq_zero_iff.1 h)); rw [<- h]; simp [neq_xor]; rfl
def KT221_ok := kn
def k221 : KF
 | [.dig n _, .dig m _] => some (.int .i64 (cmpN n m), [])
 | _ => none
section
variable {S : Nat -> Prop} {w0 : World}
noncomputable abbrev T221 : List Item := [.code (nav [1, 1, 0, 1, 0, 0] (bodyOf Tryz.f221)), .inLoop (nav [1, 1, 0, 1, 0, 0] (bodyOf Tryz.f221)), .inBlock 0, .code (nav [1, 1, 1] (bodyOf Tryz.f221))]
theorem loop221 {xs ys : List Nat} (hl : xs.length = ys.length) (hx : ∀ x ∈ xs, x < b10k) (hy : ∀ x ∈ ys, x < b10k) (hb : xs.length <= big) : ∀ (j : Nat), j <= xs.length -> xs.drop j = ys.drop j ->
   GF 221 S w0 (.i6 (cmpN (dval b10k xs) (dval b10k ys))) T221 ⟨slots 41 [(0, .list 1 (d64 xs)), (1, .list 1 (d64 ys)), (5, (.i6 (((j : Nat) : Int) - 1)))], []⟩ := by
 unfold big at hb; intro j
 induction j with
 | zero =>
   intro _ hd; rw [show (((0 : Nat) : Int) - 1) = -1 from rfl]; refine rF KT221_ok [] .nil (V := .i6 (0 : Int)) ?_
   simp only [List.drop_zero] at hd; subst hd; exact Ref.int (cmpN_eq _).symm
 | succ j ih =>
   intro hj hd; rw [show (((j + 1 : Nat) : Int) - 1) = ((j : Nat) : Int) by omega]
   have o : (j < xs.length) /\ (((j : Nat) : Int) < (((d64 xs).length : Nat) : Int)) /\ (j < ys.length) /\ (((j : Nat) : Int) < (((d64 ys).length : Nat) : Int)) := by
     simp only [d64_length]; omega
   have v0 : (0 : Int) <= (j : Int) := by omega
   by_cases h : xs.getD j 0 = ys.getD j 0
   · refine gN KT221_ok [0, 1, 4, 5] [(20, tt), (25, .cptr [.i6 (xs.getD j 0 : Int)] 0), (29, .cptr [.i6 (ys.getD j 0 : Int)] 0), (31, ff), (22, .i6 ((j : Int) - (1 : Int)))] (.c6 (iT v0) (Ref.cd64 o.1) (nn j) o.2.1 (Ref.cd64 o.2.2.1) (nn j) (.a3 o.2.2.2 (jF (show (xs.getD j 0 : Int) = (ys.getD j 0 : Int) by rw [h])) (wI ((j : Int) - (1 : Int)) ((j : Int) - (1 : Int))))) (t := T221) (σ := slots 41 [(0, .list 1 (d64 xs)), (1, .list 1 (d64 ys)), (5, .i6 ((j : Int) - (1 : Int)))]) (h := []) ?_
     refine ih (by omega) ?_; rw [List.drop_eq_getElem_cons (by omega : j < xs.length), List.drop_eq_getElem_cons (by omega : j < ys.length), hd]
     have : xs[j]'(by omega) = ys[j]'(by omega) := by
       simpa [gdE, show j < xs.length by omega, show j < ys.length by omega] using h
     rw [this]
   · have v1 : ¬ (((xs.getD j 0 : Nat) : Int) = (ys.getD j 0 : Int)) := by omega
     by_cases h2 : xs.getD j 0 < ys.getD j 0
     · refine rF KT221_ok [(20, tt), (25, .cptr [.i6 (xs.getD j 0 : Int)] 0), (29, .cptr [.i6 (ys.getD j 0 : Int)] 0), (31, tt), (34, .cptr [.i6 (xs.getD j 0 : Int)] 0), (38, .cptr [.i6 (ys.getD j 0 : Int)] 0), (40, tt)] (.c6 (iT v0) (Ref.cd64 o.1) (nn j) o.2.1 (Ref.cd64 o.2.2.1) (nn j) (.c6 o.2.2.2 (jT v1) (Ref.cd64 o.1) (nn j) o.2.1 (Ref.cd64 o.2.2.1) (.a3 (nn j) o.2.2.2 (iT (om ((xs.getD j 0 : Int) < (ys.getD j 0 : Int))))))) (V := .i6 (-1 : Int)) ?_
       exact Ref.int (cmpN_lt (dval_lt_of_top (by decide) hx hd h2)).symm
     · refine rF KT221_ok [(20, tt), (25, .cptr [.i6 (xs.getD j 0 : Int)] 0), (29, .cptr [.i6 (ys.getD j 0 : Int)] 0), (31, tt), (34, .cptr [.i6 (xs.getD j 0 : Int)] 0), (38, .cptr [.i6 (ys.getD j 0 : Int)] 0), (40, ff)] (.c6 (iT v0) (Ref.cd64 o.1) (nn j) o.2.1 (Ref.cd64 o.2.2.1) (nn j) (.c6 o.2.2.2 (jT v1) (Ref.cd64 o.1) (nn j) o.2.1 (Ref.cd64 o.2.2.1) (.a3 (nn j) o.2.2.2 (iF (om (¬ (((xs.getD j 0 : Nat) : Int) < (ys.getD j 0 : Int)))))))) (V := .i6 (1 : Int)) ?_
       exact Ref.int (cmpN_gt (dval_lt_of_top (by decide) hy hd.symm (by omega))).symm
theorem a221 : Ctr 221 k221 := fun args r ob h ho => by
 unfold k221 at h
 split at h
 · rename_i n B m C
   cases h; obtain ⟨hx, hxn⟩ := digits_spec (b := b10k) (by decide) n; obtain ⟨hy, hyn⟩ := digits_spec (b := b10k) (by decide) m; refine af Tryz.f221 fun S w0 => ?_
   refine Good.weak 41 [(0, .list 1 (d64 (digits b10k n))), (1, .list 1 (d64 (digits b10k m)))] (by kernel_rfl) (.cons Ref.opnd (.cons Ref.opnd .nil)) ?_; refine Good.len 0 (e := 1) (xs := d64 (digits b10k n)) (by rfl) fun hb => ?_
   rw [d64_length] at hb; generalize digits b10k n = xs at *; generalize digits b10k m = ys at *; subst hxn; subst hyn
   by_cases h1 : xs.length = ys.length
   · refine gN KT221_ok [0, 1, 4, 5] [(10, ff), (18, .i6 ((((d64 xs).length : Nat) : Int) - (1 : Int)))] (.a2 (jF (show ((d64 xs).length : Int) = ((d64 ys).length : Int) by simp only [d64_length]; omega)) (wI ((((d64 xs).length : Nat) : Int) - (1 : Int)) ((((d64 xs).length : Nat) : Int) - (1 : Int)) (by simp only [d64_length]; unfold big at hb; omega))) (t := T221) (σ := slots 41 [(0, .list 1 (d64 xs)), (1, .list 1 (d64 ys)), (4, .i6 (0 : Int)), (5, (.i6 ((((d64 xs).length : Nat) : Int) - (1 : Int))))]) (h := []) ?_
     rw [d64_length]; refine Good.weak 41 [(0, _), (1, _), (5, _)] (by kernel_rfl) (.r (.r (.r .nil))) ?_; exact loop221 h1 hx.1 hy.1 hb xs.length (rl _) (by rw [List.drop_length, h1, List.drop_length])
   · have v0 : ¬ ((((d64 xs).length : Nat) : Int) = ((d64 ys).length : Int)) := by simp only [d64_length]; omega
     by_cases h2 : xs.length < ys.length
     · refine rF KT221_ok [(10, tt), (15, tt)] (.a2 (jT v0) (iT (show ((d64 xs).length : Int) < ((d64 ys).length : Int) by simp only [d64_length]; omega))) (V := .i6 (-1 : Int)) ?_
       exact Ref.int (cmpN_lt (dval_lt_of_len (by decide) hx hy h2)).symm
     · refine rF KT221_ok [(10, tt), (15, ff)] (.a2 (jT v0) (iF (show ¬ ((((d64 xs).length : Nat) : Int) < ((d64 ys).length : Int)) by simp only [d64_length]; omega))) (V := .i6 (1 : Int)) ?_
       exact Ref.int (cmpN_gt (dval_lt_of_len (by decide) hy hx (by omega))).symm
 · cases h
end
end Go.Av
namespace Go.Av
open Go.RowKit
def outS : List Nat -> AV
 | [] => .nil
 | d :: ds => .own 0 1 0 (ds.length + 1)
def outH : List Nat -> List (Option ABlk)
 | [] => []
 | d :: ds => [some ⟨3, 1, true, d64 (d :: ds), none⟩]
theorem outS_snoc (ds : List Nat) (v : Nat) : outS (ds ++ [v]) = .own 0 1 0 (ds.length + 1) := by
 cases ds <;> simp [outS]
theorem outH_snoc (ds : List Nat) (v : Nat) : outH (ds ++ [v]) = [some ⟨3, 1, true, d64 (ds ++ [v]), none⟩] := by
 cases ds <;> simp [outH]
theorem Ref.nilL {e : Nat} : Ref .nil (.list e []) := fun ρ S w D v h => by
 have h' : RelCs ρ S w D [.nil] [v] := h; cases h' with
 | nil h2 => exact RelV_one (.list (fun _ => []) (by simp) (by unfold big; omega) (by simp) (by simp) (by simp) h2)
theorem dval_snoc (b : Nat) (ds : List Nat) (v : Nat) : dval b (ds ++ [v]) = dval b ds + b ^ ds.length * v := by
 rw [dval_append]; simp [dval]
theorem snoc_lt {b : Nat} {ds : List Nat} {v : Nat} (h : ∀ x ∈ ds, x < b) (hv : v < b) : ∀ x ∈ ds ++ [v], x < b := fun x hx => by
 rcases List.mem_append.1 hx with h' | h'
 · exact h x h'
 · simp at h'; omega
end Go.Av
namespace Go.Av
open Go.Proofs Go.RowKit
def KT201_ok := kn
abbrev n201_0 (ff : Func) : List Item := [.code (nav [1, 1, 1, 0, 0, 0] (bodyOf ff)), .inLoop (nav [1, 1, 1, 0, 0, 0] (bodyOf ff)), .inBlock 0, .code (nav [1, 1, 1, 1] (bodyOf ff))]
abbrev n201_1 (s : Bool) (m : Nat) (ds : List Nat) : List (Option ABlk) := [some ⟨64, 2, false, [[.bool false, .nil]], none⟩, some ⟨64, 2, false, [[.bool s, .own 2 1 0 m]], none⟩, some ⟨3, 1, true, (d64 ds), none⟩]
abbrev n201_2 (v : Nat) : List (Nat × AV) := [(0, (.i6 (-(v : Int)))), (2, (.ptr 0 2 0 0)), (3, (.ptr 1 2 0 0))]
abbrev n201_3 (v : Nat) : List (Nat × AV) := [(0, (.i6 (v : Int))), (2, (.ptr 0 2 0 0)), (3, (.ptr 1 2 0 0))]
abbrev n201_4 (s : Bool) (m : Nat) (ds : List Nat) : List (Option ABlk) := [some ⟨64, 2, false, [[.bool s, .own 2 1 0 m]], none⟩, some ⟨64, 2, false, [[.bool s, .own 2 1 0 m]], none⟩, some ⟨3, 1, true, (d64 ds), none⟩]
section
variable {S0 C0 : Nat -> Prop} {w0 : World} {Post : Value -> World -> Prop}
theorem p201_1_1 (s : Bool) (v : Nat) (h1 : (v : Int) = (0 : Int))
   (hg : Good Tryz.prog 201 S0 C0 w0 Post [.code .ret] ⟨slots 25 (n201_3 v), [some ⟨64, 2, false, [[.bool s, .nil]], none⟩, some ⟨64, 2, false, [[.bool s, .nil]], none⟩]⟩) :
   Good Tryz.prog 201 S0 C0 w0 Post (n201_0 Tryz.f201) ⟨slots 25 (n201_3 v), [some ⟨64, 2, false, [[.bool false, .nil]], none⟩, some ⟨64, 2, false, [[.bool s, .nil]], none⟩]⟩ :=
 go mixed TT0_ok KT201_ok 12 none [0, 2, 3] [(9, (.bool false))] (ob := [Ref (.bool (!decide ((v : Int) = (0 : Int)))) (.bool false)]) (by kernel_rfl)
   (.cons (Ref.bool (congrArg Bool.not (decide_eq_true h1))) (AllP.nil)) hg
theorem p201_2_2 (s : Bool) (v : Nat) (h1 : (-(v : Int)) = (0 : Int))
   (hg : Good Tryz.prog 201 S0 C0 w0 Post [.code .ret] ⟨slots 25 (n201_2 v), [some ⟨64, 2, false, [[.bool s, .nil]], none⟩, some ⟨64, 2, false, [[.bool s, .nil]], none⟩]⟩) :
   Good Tryz.prog 201 S0 C0 w0 Post (n201_0 Tryz.f201) ⟨slots 25 (n201_2 v), [some ⟨64, 2, false, [[.bool false, .nil]], none⟩, some ⟨64, 2, false, [[.bool s, .nil]], none⟩]⟩ :=
 go mixed TT0_ok KT201_ok 12 none [0, 2, 3] [(9, (.bool false))] (ob := [Ref (.bool (!decide ((-(v : Int)) = (0 : Int)))) (.bool false)]) (by kernel_rfl)
   (.cons (Ref.bool (congrArg Bool.not (decide_eq_true h1))) (AllP.nil)) hg
theorem p201_3_0 (s : Bool) (v m : Nat) (ds : List Nat) (h1 : ¬ ((v : Int) = (0 : Int))) (h2 : ¬ (((v % 10000 : Nat) : Int) < (0 : Int))) (o : (m = (d64 ds).length) /\ ((m + 1) * 8 <= 140737488355328) /\ (m + 1 <= big) /\ ((v : Int) <= 9223372036854775807))
   (hg : Good Tryz.prog 201 S0 C0 w0 Post (n201_0 Tryz.f201) ⟨slots 25 [(0, .i6 ((v / 10000 : Nat) : Int)), (2, .ptr 0 2 0 0), (3, .ptr 1 2 0 0)], [some ⟨64, 2, false, [[.bool false, .nil]], none⟩, some ⟨64, 2, false, [[.bool s, .own 2 1 0 (m + 1)]], none⟩, some ⟨3, 1, true, ((d64 ds) ++ [[(AV.int .i64 ((v % 10000 : Nat) : Int))]]), none⟩]⟩) :
   Good Tryz.prog 201 S0 C0 w0 Post (n201_0 Tryz.f201) ⟨slots 25 (n201_3 v), (n201_1 s m ds)⟩ :=
 goR mixed TT0_ok KT201_ok 23 none [0, 2, 3] [0, 1, 4] [(9, (.bool true)), (11, (.i6 ((v % 10000 : Nat) : Int))), (13, (.bool false)), (23, (.i6 ((v / 10000 : Nat) : Int)))] (ob := [Ref (.bool (!decide ((v : Int) = (0 : Int)))) (.bool true), Ref (.i6 ((v : Int).tmod (10000 : Int))) (.i6 ((v % 10000 : Nat) : Int)), (10000 : Int) ≠ 0, Ref (.bool (decide (((v % 10000 : Nat) : Int) < (0 : Int)))) (.bool false), 1 = 1, m = (d64 ds).length, (m + 1) * 8 <= 140737488355328, m + 1 <= big, Ref (.i6 (IntKind.i64.wrap ((v : Int).tdiv (10000 : Int)))) (.i6 ((v / 10000 : Nat) : Int)), (10000 : Int) ≠ 0]) (by decide) (by kernel_rfl)
   (.cons (Ref.bool (congrArg Bool.not (decide_eq_false h1))) (.cons (Ref.rem (a := v) (b := 10000) rfl rfl) (.cons (by decide) (.cons (Ref.bool (decide_eq_false h2)) (.cons (rfl) (.cons (o.1) (.cons (o.2.1) (.cons (o.2.2.1) (.cons (Ref.quo (a := v) (b := 10000) rfl rfl (by decide) o.2.2.2) (.cons (by decide) (AllP.nil))))))))))) hg
theorem p201_3_1 (s : Bool) (v m : Nat) (ds : List Nat) (h1 : (v : Int) = (0 : Int))
   (hg : Good Tryz.prog 201 S0 C0 w0 Post [.code .ret] ⟨slots 25 (n201_3 v), (n201_4 s m ds)⟩) :
   Good Tryz.prog 201 S0 C0 w0 Post (n201_0 Tryz.f201) ⟨slots 25 (n201_3 v), (n201_1 s m ds)⟩ :=
 go mixed TT0_ok KT201_ok 12 none [0, 2, 3] [(9, (.bool false))] (ob := [Ref (.bool (!decide ((v : Int) = (0 : Int)))) (.bool false)]) (by kernel_rfl)
   (.cons (Ref.bool (congrArg Bool.not (decide_eq_true h1))) (AllP.nil)) hg
theorem p201_4_0 (s : Bool) (v m : Nat) (ds : List Nat) (h1 : ¬ ((-(v : Int)) = (0 : Int))) (h2 : (-((v % 10000 : Nat) : Int)) < (0 : Int)) (o : (Ref (.i6 ((-(v : Int)).tmod (10000 : Int))) (.i6 (-((v % 10000 : Nat) : Int)))) /\ (-9223372036854775808 <= 0 - (-((v % 10000 : Nat) : Int)) /\ 0 - (-((v % 10000 : Nat) : Int)) <= 9223372036854775807) /\ (m = (d64 ds).length) /\ ((m + 1) * 8 <= 140737488355328) /\ (m + 1 <= big) /\ (Ref (.i6 (IntKind.i64.wrap ((-(v : Int)).tdiv (10000 : Int)))) (.i6 (-((v / 10000 : Nat) : Int)))))
   (hg : Good Tryz.prog 201 S0 C0 w0 Post (n201_0 Tryz.f201) ⟨slots 25 [(0, (.i6 (-((v / 10000 : Nat) : Int)))), (2, .ptr 0 2 0 0), (3, .ptr 1 2 0 0)], [some ⟨64, 2, false, [[.bool false, .nil]], none⟩, some ⟨64, 2, false, [[.bool s, .own 2 1 0 (m + 1)]], none⟩, some ⟨3, 1, true, ((d64 ds) ++ [[(AV.int .i64 (0 - (-((v % 10000 : Nat) : Int))))]]), none⟩]⟩) :
   Good Tryz.prog 201 S0 C0 w0 Post (n201_0 Tryz.f201) ⟨slots 25 (n201_2 v), (n201_1 s m ds)⟩ :=
 goR mixed TT0_ok KT201_ok 23 none [0, 2, 3] [0, 1, 4] [(9, (.bool true)), (11, (.i6 (-((v % 10000 : Nat) : Int)))), (13, (.bool true)), (15, (.i6 (0 - (-((v % 10000 : Nat) : Int))))), (23, (.i6 (-((v / 10000 : Nat) : Int))))] (ob := [Ref (.bool (!decide ((-(v : Int)) = (0 : Int)))) (.bool true), Ref (.i6 ((-(v : Int)).tmod (10000 : Int))) (.i6 (-((v % 10000 : Nat) : Int))), (10000 : Int) ≠ 0, Ref (.bool (decide ((-((v % 10000 : Nat) : Int)) < (0 : Int)))) (.bool true), Ref (.i6 (IntKind.i64.wrap (0 - (-((v % 10000 : Nat) : Int))))) (.i6 (0 - (-((v % 10000 : Nat) : Int)))), 1 = 1, m = (d64 ds).length, (m + 1) * 8 <= 140737488355328, m + 1 <= big, Ref (.i6 (IntKind.i64.wrap ((-(v : Int)).tdiv (10000 : Int)))) (.i6 (-((v / 10000 : Nat) : Int))), (10000 : Int) ≠ 0]) (by decide) (by kernel_rfl)
   (.cons (Ref.bool (congrArg Bool.not (decide_eq_false h1))) (.cons (o.1) (.cons (by decide) (.cons (Ref.bool (decide_eq_true h2)) (.cons ((Ref.wr o.2.1).trans (Ref.int (by rfl))) (.cons (rfl) (.cons (o.2.2.1) (.cons (o.2.2.2.1) (.cons (o.2.2.2.2.1) (.cons (o.2.2.2.2.2) (.cons (by decide) (AllP.nil)))))))))))) hg
theorem p201_4_1 (s : Bool) (v m : Nat) (ds : List Nat) (h1 : ¬ ((-(v : Int)) = (0 : Int))) (h2 : ¬ ((-((v % 10000 : Nat) : Int)) < (0 : Int))) (o : (Ref (.i6 ((-(v : Int)).tmod (10000 : Int))) (.i6 (-((v % 10000 : Nat) : Int)))) /\ (m = (d64 ds).length) /\ ((m + 1) * 8 <= 140737488355328) /\ (m + 1 <= big) /\ (Ref (.i6 (IntKind.i64.wrap ((-(v : Int)).tdiv (10000 : Int)))) (.i6 (-((v / 10000 : Nat) : Int)))))
   (hg : Good Tryz.prog 201 S0 C0 w0 Post (n201_0 Tryz.f201) ⟨slots 25 [(0, (.i6 (-((v / 10000 : Nat) : Int)))), (2, .ptr 0 2 0 0), (3, .ptr 1 2 0 0)], [some ⟨64, 2, false, [[.bool false, .nil]], none⟩, some ⟨64, 2, false, [[.bool s, .own 2 1 0 (m + 1)]], none⟩, some ⟨3, 1, true, ((d64 ds) ++ [[(AV.int .i64 (-((v % 10000 : Nat) : Int)))]]), none⟩]⟩) :
   Good Tryz.prog 201 S0 C0 w0 Post (n201_0 Tryz.f201) ⟨slots 25 (n201_2 v), (n201_1 s m ds)⟩ :=
 goR mixed TT0_ok KT201_ok 23 none [0, 2, 3] [0, 1, 4] [(9, (.bool true)), (11, (.i6 (-((v % 10000 : Nat) : Int)))), (13, (.bool false)), (23, (.i6 (-((v / 10000 : Nat) : Int))))] (ob := [Ref (.bool (!decide ((-(v : Int)) = (0 : Int)))) (.bool true), Ref (.i6 ((-(v : Int)).tmod (10000 : Int))) (.i6 (-((v % 10000 : Nat) : Int))), (10000 : Int) ≠ 0, Ref (.bool (decide ((-((v % 10000 : Nat) : Int)) < (0 : Int)))) (.bool false), 1 = 1, m = (d64 ds).length, (m + 1) * 8 <= 140737488355328, m + 1 <= big, Ref (.i6 (IntKind.i64.wrap ((-(v : Int)).tdiv (10000 : Int)))) (.i6 (-((v / 10000 : Nat) : Int))), (10000 : Int) ≠ 0]) (by decide) (by kernel_rfl)
   (.cons (Ref.bool (congrArg Bool.not (decide_eq_false h1))) (.cons (o.1) (.cons (by decide) (.cons (Ref.bool (decide_eq_false h2)) (.cons (rfl) (.cons (o.2.1) (.cons (o.2.2.1) (.cons (o.2.2.2.1) (.cons (o.2.2.2.2) (.cons (by decide) (AllP.nil))))))))))) hg
theorem p201_4_2 (s : Bool) (v m : Nat) (ds : List Nat) (h1 : (-(v : Int)) = (0 : Int))
   (hg : Good Tryz.prog 201 S0 C0 w0 Post [.code .ret] ⟨slots 25 (n201_2 v), (n201_4 s m ds)⟩) :
   Good Tryz.prog 201 S0 C0 w0 Post (n201_0 Tryz.f201) ⟨slots 25 (n201_2 v), (n201_1 s m ds)⟩ :=
 go mixed TT0_ok KT201_ok 12 none [0, 2, 3] [(9, (.bool false))] (ob := [Ref (.bool (!decide ((-(v : Int)) = (0 : Int)))) (.bool false)]) (by kernel_rfl)
   (.cons (Ref.bool (congrArg Bool.not (decide_eq_true h1))) (AllP.nil)) hg
end
def k201 : KF
 | [.int .i64 n] => some (.agg [.rz n 64], [(-9223372036854775808 : Int) <= n, n <= (9223372036854775807 : Int)])
 | _ => none
def sg (g : Bool) (v : Nat) : Int := if g then -(v : Int) else v
theorem AllP.of_nil {l : List Prop} (h : l = []) : AllP l := by rw [h]; exact AllP.nil
theorem neg_tmod (v : Nat) : Ref (AV.int .i64 ((-((v : Nat) : Int)).tmod (10000 : Int))) (AV.int .i64 (-((v % 10000 : Nat) : Int))) := Ref.int (by
 rw [Int.neg_tmod]; rfl)
theorem neg_tdiv {v : Nat} (h : v <= 9223372036854775808) : Ref (AV.int .i64 (IntKind.i64.wrap ((-((v : Nat) : Int)).tdiv (10000 : Int)))) (AV.int .i64 (-((v / 10000 : Nat) : Int))) := by
 have e : (-((v : Nat) : Int)).tdiv (10000 : Int) = -((v / 10000 : Nat) : Int) := by rw [Int.neg_tdiv]; rfl
 exact Ref.wrI e (by omega)
section
variable {S : Nat -> Prop} {w0 : World}
noncomputable abbrev T201 : List Item := [.code (nav [1, 1, 1, 0, 0, 0] (bodyOf Tryz.f201)), .inLoop (nav [1, 1, 1, 0, 0, 0] (bodyOf Tryz.f201)), .inBlock 0, .code (nav [1, 1, 1, 1] (bodyOf Tryz.f201))]
def zD : List Nat -> AV
 | [] => .nil
 | d :: ds => .own 2 1 0 (ds.length + 1)
def zH : List Nat -> List (Option ABlk)
 | [] => []
 | d :: ds => [some ⟨3, 1, true, d64 (d :: ds), none⟩]
theorem zD_snoc (ds : List Nat) (v : Nat) : zD (ds ++ [v]) = .own 2 1 0 (ds.length + 1) := by cases ds <;> simp [zD]
theorem zH_snoc (ds : List Nat) (v : Nat) : zH (ds ++ [v]) = [some ⟨3, 1, true, d64 (ds ++ [v]), none⟩] := by cases ds <;> simp [zH]
theorem end201 {N : Int} {s : Bool} {ds : List Nat} (hs : s = decide (N < 0)) (hd : Dig b10k ds) (hv : dval b10k ds = N.natAbs) (hB : N.natAbs < 2 ^ 64) {V : AV} :
   GF 201 S w0 (.agg [.rz N 64]) [.code .ret] ⟨slots 25 [(0, V), (2, .ptr 0 2 0 0), (3, .ptr 1 2 0 0)], [some ⟨64, 2, false, [[(.bool s), zD ds]], none⟩, some ⟨64, 2, false, [[(.bool s), zD ds]], none⟩] ++ zH ds⟩ := by
 refine Good.pk 25 [(2, (AV.ptr 0 2 0 0))] ?_; cases ds with
 | nil =>
   refine gE [.agg [AV.bool s, .nil]] (Ref.agg ?_); have h0 : N = 0 := by simp [dval] at hv; omega
   subst h0; subst hs; exact RefC.rz0
 | cons d ds =>
   refine Good.freezeD (b := ⟨3, 1, true, d64 (d :: ds), none⟩) 2 (by rfl) (by rfl) .on ?_ ?_
   · have e : frzHObs 2 ⟨3, 1, true, d64 (d :: ds), none⟩ ((([some ⟨64, 2, false, [[(.bool s), zD (d :: ds)]], none⟩, some ⟨64, 2, false, [[(.bool s), zD (d :: ds)]], none⟩] : List (Option ABlk)) ++ zH (d :: ds)).set 2 none) = [0 + (ds.length + 1) <= (d64 (d :: ds)).length, 0 + (ds.length + 1) <= (d64 (d :: ds)).length] := by kernel_rfl
     rw [e]; exact .cons (by rw [d64_length]; simp) (.cons (by rw [d64_length]; simp) .nil)
   · refine gE [.agg [AV.bool s, .list 1 (((d64 (d :: ds)).drop 0).take (ds.length + 1))]] (Ref.agg ?_)
     rw [List.drop_zero, tkE (by rw [d64_length]; simp)]; exact (RefC.tl (RefC.digL hd hv hB)).trans (RefC.mkrz (rl _) hs rfl)
theorem loop201 {N : Int} {s g : Bool} (hs : s = decide (N < 0)) (hB : N.natAbs <= 9223372036854775808) : ∀ (f v : Nat) (ds : List Nat), v <= f -> (∀ x ∈ ds, x < b10k) -> dval b10k ds + b10k ^ ds.length * v = N.natAbs -> (v = 0 -> ds.getLast? ≠ some 0) -> (g = false -> v <= 9223372036854775807) ->
   GF 201 S w0 (.agg [.rz N 64]) T201 ⟨slots 25 [(0, .i6 (sg g v)), (2, .ptr 0 2 0 0), (3, .ptr 1 2 0 0)], [some ⟨64, 2, false, [[(.bool false), .nil]], none⟩, some ⟨64, 2, false, [[(.bool s), zD ds]], none⟩] ++ zH ds⟩ := by
 have last : ∀ (ds : List Nat), (∀ x ∈ ds, x < b10k) -> dval b10k ds + b10k ^ ds.length * 0 = N.natAbs -> ds.getLast? ≠ some 0 ->
     GF 201 S w0 (.agg [.rz N 64]) T201 ⟨slots 25 [(0, .i6 (sg g 0)), (2, .ptr 0 2 0 0), (3, .ptr 1 2 0 0)], [some ⟨64, 2, false, [[(.bool false), .nil]], none⟩, some ⟨64, 2, false, [[(.bool s), zD ds]], none⟩] ++ zH ds⟩ := by
   intro ds hd hv hl; have fin := fun V => end201 (S := S) (w0 := w0) (N := N) (s := s) (ds := ds) hs ⟨hd, hl⟩ (by rw [Nat.mul_zero] at hv; omega) (by omega) (V := V)
   cases ds with
   | nil =>
     cases g with
     | false => exact p201_1_1 s 0 rfl (fin _)
     | true => exact p201_2_2 s 0 rfl (fin _)
   | cons d ds =>
     cases g with
     | false => exact p201_3_1 s 0 (ds.length + 1) (d :: ds) rfl (fin _)
     | true => exact p201_4_2 s 0 (ds.length + 1) (d :: ds) rfl (fin _)
 intro f
 induction f with
 | zero =>
   intro v ds hf hd hv hl _; have : v = 0 := by omega
   subst this; exact last ds hd hv (hl rfl)
 | succ f ih =>
   intro v ds hf hd hv hl hg
   by_cases h0 : v = 0
   · subst h0; exact last ds hd hv (hl rfl)
   have hlen : ds.length <= 4 := by
     have h1 : b10k ^ ds.length * 1 <= b10k ^ ds.length * v := Nat.mul_le_mul_left _ (by omega); have h2 := pow10k_ge ds.length; have h3 : 2 ^ (13 * ds.length) < 2 ^ 64 := by omega
     have := (Nat.pow_lt_pow_iff_right (by decide : 1 < 2)).1 h3; omega
   have hlt : v / 10000 <= f := by omega
   have nx := ih (v / 10000) (ds ++ [v % 10000]) hlt (snoc_lt hd (Nat.mod_lt _ (by decide))) (by
     rw [dval_snoc, List.length_append, List.length_singleton, Nat.pow_succ, Nat.mul_assoc, Nat.add_assoc, <- Nat.mul_add]; have : v % 10000 + b10k * (v / 10000) = v := by unfold b10k; omega
     rw [this]; exact hv) (fun h => by simp; omega) (fun h => by have := hg h; omega)
   rw [zD_snoc, zH_snoc] at nx; have E : ∀ (e : Int), e = ((v % 10000 : Nat) : Int) -> (d64 ds) ++ [[(AV.int .i64 e)]] = d64 (ds ++ [v % 10000]) := fun e h => by rw [h]; exact d64_snoc ds _
   have E0 : ds = [] -> ∀ (e : Int), e = ((v % 10000 : Nat) : Int) -> [[(AV.int .i64 e)]] = d64 (ds ++ [v % 10000]) := fun h0 e h => by rw [h, h0]; rfl
   have v0 : (10000 : Int) ≠ 0 := by decide
   have v1 : 1 * 8 <= 140737488355328 := by decide
   have v2 : 1 <= big := by unfold big; omega
   cases g with
   | false =>
     have hg := hg rfl; cases ds with
     | nil =>
       refine gR KT201_ok none [0, 2, 3] [0, 1, 3] [(9, tt), (11, .i6 ((v % 10000 : Nat) : Int)), (13, ff), (23, .i6 ((v / 10000 : Nat) : Int))] (.c6 (jT (om (¬ ((v : Int) = (0 : Int))))) (show Ref (.i6 ((v : Int).tmod (10000 : Int))) (.i6 ((v % 10000 : Nat) : Int)) from Ref.rem (a := v) (b := 10000) rfl rfl) v0 (iF (om (¬ (((v % 10000 : Nat) : Int) < (0 : Int))))) r1 (dc (0 < 1)) (.a4 v1 v2 (show Ref (.i6 (IntKind.i64.wrap ((v : Int).tdiv (10000 : Int)))) (.i6 ((v / 10000 : Nat) : Int)) from Ref.quo (a := v) (b := 10000) rfl rfl (by decide) ((om ((v : Int) <= 9223372036854775807)))) v0)) (t := T201) (σ := slots 25 [(0, .i6 ((v / 10000 : Nat) : Int)), (2, .ptr 0 2 0 0), (3, .ptr 1 2 0 0)]) (h := [some ⟨64, 2, false, [[.bool false, .nil]], none⟩, some ⟨64, 2, false, [[.bool s, .own 2 1 0 1]], none⟩, some ⟨3, 1, true, [[.i6 ((v % 10000 : Nat) : Int)]], none⟩]) ?_
       rw [E0 rfl _ rfl]; exact nx
     | cons d ds =>
       simp only [List.length_cons] at hlen; refine p201_3_0 s v (ds.length + 1) (d :: ds) (by omega) (by omega) ⟨by rw [d64_length]; simp, by omega, by unfold big; omega, by omega⟩ ?_; rw [E _ rfl]; exact nx
   | true =>
     have hv9 : v <= 9223372036854775808 := by
       have h1 : 1 * v <= b10k ^ ds.length * v := Nat.mul_le_mul_right _ (Nat.pow_pos (by decide)); omega
     have v3 : ¬ ((-(v : Int)) = (0 : Int)) := by omega
     by_cases hm : v % 10000 = 0
     · cases ds with
       | nil =>
         refine gR KT201_ok none [0, 2, 3] [0, 1, 3] [(9, tt), (11, .i6 (-((v % 10000 : Nat) : Int))), (13, ff), (23, .i6 (-((v / 10000 : Nat) : Int)))] (.c6 (jT v3) (neg_tmod v) v0 (iF (om (¬ ((-((v % 10000 : Nat) : Int)) < (0 : Int))))) r1 (dc (0 < 1)) (.a4 v1 v2 (neg_tdiv hv9) v0)) (t := T201) (σ := slots 25 [(0, (.i6 (-((v / 10000 : Nat) : Int)))), (2, .ptr 0 2 0 0), (3, .ptr 1 2 0 0)]) (h := [some ⟨64, 2, false, [[.bool false, .nil]], none⟩, some ⟨64, 2, false, [[.bool s, .own 2 1 0 1]], none⟩, some ⟨3, 1, true, [[.i6 (-((v % 10000 : Nat) : Int))]], none⟩]) ?_
         rw [E0 rfl _ (by omega)]; exact nx
       | cons d ds =>
         simp only [List.length_cons] at hlen; refine p201_4_1 s v (ds.length + 1) (d :: ds) (by omega) (by omega) ⟨neg_tmod v, by rw [d64_length]; simp, by omega, by unfold big; omega, neg_tdiv hv9⟩ ?_; rw [E _ (by omega)]; exact nx
     · cases ds with
       | nil =>
         refine gR KT201_ok none [0, 2, 3] [0, 1, 3] [(9, tt), (11, .i6 (-((v % 10000 : Nat) : Int))), (13, tt), (15, .i6 (0 - (-((v % 10000 : Nat) : Int)))), (23, .i6 (-((v / 10000 : Nat) : Int)))] (.c6 (jT v3) (neg_tmod v) v0 (iT (om ((-((v % 10000 : Nat) : Int)) < (0 : Int)))) (wI (0 - (-((v % 10000 : Nat) : Int))) (0 - (-((v % 10000 : Nat) : Int)))) r1 (.a5 (dc (0 < 1)) v1 v2 (neg_tdiv hv9) v0)) (t := T201) (σ := slots 25 [(0, (.i6 (-((v / 10000 : Nat) : Int)))), (2, .ptr 0 2 0 0), (3, .ptr 1 2 0 0)]) (h := [some ⟨64, 2, false, [[.bool false, .nil]], none⟩, some ⟨64, 2, false, [[.bool s, .own 2 1 0 1]], none⟩, some ⟨3, 1, true, [[.i6 (0 - (-((v % 10000 : Nat) : Int)))]], none⟩]) ?_
         rw [E0 rfl _ (by omega)]; exact nx
       | cons d ds =>
         simp only [List.length_cons] at hlen; refine p201_4_0 s v (ds.length + 1) (d :: ds) (by omega) (by omega) ⟨neg_tmod v, by omega, by rw [d64_length]; simp, by omega, by unfold big; omega, neg_tdiv hv9⟩ ?_; rw [E _ (by omega)]; exact nx
theorem a201 : Ctr 201 k201 := by
 refine ctr Tryz.f201 fun _ _ _ S w0 h ho => ?_
 unfold k201 at h; split at h <;> cases h; rename_i n; obtain ⟨o1, o2⟩ := ho.e2; refine gN KT201_ok [0, 2, 3] [] .nil (t := T201) (σ := slots 25 [(0, .i6 n), (2, .ptr 0 2 0 0), (3, .ptr 1 2 0 0)]) (h := [some ⟨64, 2, false, [[.bool false, .nil]], none⟩, some ⟨64, 2, false, [[.bool (decide (n < (0 : Int))), .nil]], none⟩]) ?_
 have := loop201 (S := S) (w0 := w0) (N := n) (s := decide (n < 0)) (g := decide (n < 0)) rfl (by omega) n.natAbs n.natAbs [] (rl _) (by simp) (by simp [dval]) (by simp) (fun h => by have := of_decide_eq_false h; omega); have e : sg (decide (n < 0)) n.natAbs = n := sgn_self n; rw [e] at this; exact this
end
def KT115_ok := kn.cons a208
def k115 : KF
 | [.nat n B, .nat m C] => some (.nat (n * m) (B + C), [B + C + 128 <= LIM])
 | _ => none
theorem mul_inner {A P Q x y Y : Nat} : A + P * (x * Y) + P * Q * (x * y) = A + P * (x * (Y + Q * y)) := by
 simp only [Nat.mul_add, Nat.mul_assoc, Nat.mul_comm, Nat.mul_left_comm]; omega
section
variable {S : Nat -> Prop} {w0 : World}
noncomputable abbrev T115 : List Item := [.code (nav [1, 1, 0, 1, 0, 0] (bodyOf Tryz.f115)), .inLoop (nav [1, 1, 0, 1, 0, 0] (bodyOf Tryz.f115)), .inBlock 0, .code (nav [1, 1, 1] (bodyOf Tryz.f115))]
noncomputable abbrev T115i : List Item := [.code (nav [1, 1, 0, 1, 0, 0, 1, 1, 0, 0, 1, 1, 0, 1, 0, 0] (bodyOf Tryz.f115)), .inLoop (nav [1, 1, 0, 1, 0, 0, 1, 1, 0, 0, 1, 1, 0, 1, 0, 0] (bodyOf Tryz.f115)), .inBlock 2, .code (nav [1, 1, 0, 1, 0, 0, 1, 1, 0, 0, 1, 1, 1] (bodyOf Tryz.f115)), .inBlock 1, .code (nav [1, 1, 0, 1, 0, 0, 1, 1, 1] (bodyOf Tryz.f115)), .inLoop (nav [1, 1, 0, 1, 0, 0] (bodyOf Tryz.f115)), .inBlock 0, .code (nav [1, 1, 1] (bodyOf Tryz.f115))]
variable {Post : Value -> World -> Prop}
theorem inner115 {xs ys : List Nat} {m i : Nat} (hm : m = xs.length + ys.length) (hi : i < xs.length) (hx : ∀ x ∈ xs, x < b32) (hy : ∀ x ∈ ys, x < b32) (hbig : m + 2 <= LIM)
   (next : ∀ ds : List Nat, ds.length = m -> (∀ x ∈ ds, x < b32) -> dval b32 ds = dval b32 (xs.take (i + 1)) * dval b32 ys -> (∀ t, i + 1 + ys.length <= t -> ds.getD t 0 = 0) ->
     Good Tryz.prog 115 S No w0 Post T115 ⟨slots 67 [(1, .list 1 (d32 ys)), (5, .own 0 1 0 m), (17, .list 1 (d32 xs)), (18, (.i6 (((d32 xs).length : Nat) : Int))), (19, .i6 ((i + 1 : Nat) : Int))], [some ⟨362, 1, true, (d32 ds), none⟩]⟩) :
   ∀ (j k c : Nat) (ds : List Nat), j = ys.length - k -> k <= ys.length -> c < b32 -> ds.length = m -> (∀ x ∈ ds, x < b32) -> dval b32 ds + b32 ^ (i + k) * c = dval b32 (xs.take i) * dval b32 ys + b32 ^ i * (xs.getD i 0 * dval b32 (ys.take k)) -> (∀ t, i + ys.length <= t -> ds.getD t 0 = 0) ->
   Good Tryz.prog 115 S No w0 Post T115i ⟨slots 67 [(1, .list 1 (d32 ys)), (5, .own 0 1 0 m), (6, .i6 ((i : Nat) : Int)), (7, .int .u32 ((xs.getD i 0 : Nat) : Int)), (8, .int .u64 ((c : Nat) : Int)), (17, .list 1 (d32 xs)), (18, (.i6 (((d32 xs).length : Nat) : Int))), (19, .i6 ((i : Nat) : Int)), (24, .list 1 (d32 ys)), (25, (.i6 (((d32 ys).length : Nat) : Int))), (26, .i6 ((k : Nat) : Int))], [some ⟨362, 1, true, (d32 ds), none⟩]⟩ := by
 unfold LIM at hbig; have hx1 := getD_lt (b := b32) (by decide) hx i; have fb : b32 = 4294967296 := rfl; intro j
 induction j with
 | zero =>
   intro k c ds hj hk hc hd hdl hinv hz; have hk : k = ys.length := by omega
   subst hk; refine have_ (p := (-9223372036854775808 <= (i : Int) + ((d32 ys).length : Int) /\ (i : Int) + ((d32 ys).length : Int) <= 9223372036854775807) /\ (0 <= (c : Int) /\ (c : Int) <= 4294967295) /\ (((i + (d32 ys).length : Nat) : Int) < (m : Int)) /\ (0 + (i + (d32 ys).length) < (d32 ds).length) /\ (-9223372036854775808 <= (i : Int) + (1 : Int) /\ (i : Int) + (1 : Int) <= 9223372036854775807)) (by rw [d32_length, d32_length]; omega) fun ⟨q0, q1, q2, q3, q4⟩ => gN KT115_ok [1, 5, 6, 7, 8, 17, 18, 19, 24, 25, 26] [(27, ff), (60, .i6 ((i + (d32 ys).length : Nat) : Int)), (62, .int .u32 (c : Int)), (64, .i6 ((i + 1 : Nat) : Int))] (.c6 (iF (show ¬ ((ys.length : Int) < ((d32 ys).length : Int)) by rw [d32_length]; omega)) (wI ((i : Int) + ((d32 ys).length : Int)) ((i + (d32 ys).length : Nat) : Int) q0) (wV (c : Int) (c : Int) q1) (nn (i + (d32 ys).length)) q2 q3 (.a1 (wI ((i : Int) + (1 : Int)) ((i + 1 : Nat) : Int) q4))) (t := T115) (σ := slots 67 [(1, .list 1 (d32 ys)), (5, .own 0 1 0 m), (6, .i6 (i : Int)), (7, (.int .u32 (((xs.getD i 0) : Nat) : Int))), (8, .int .u64 (c : Int)), (17, .list 1 (d32 xs)), (18, .i6 ((d32 xs).length : Int)), (19, .i6 ((i + 1 : Nat) : Int)), (24, .list 1 (d32 ys)), (25, .i6 ((d32 ys).length : Int)), (26, .i6 (ys.length : Int))]) (h := [some ⟨362, 1, true, ((d32 ds).set (0 + (i + (d32 ys).length)) [.int .u32 (c : Int)]), none⟩]) ?_
   refine Good.weak 67 [(1, _), (5, _), (17, _), (18, _), (19, _)] (by kernel_rfl) (.r (.r (.r (.r (.r .nil))))) ?_; rw [d32_set, Nat.zero_add, @d32_length ys]; rw [tkE (rl _)] at hinv; rw [fb] at hc; have h2 := dval_set (b := b32) (xs := ds) (j := i + ys.length) (v := c) (by omega); rw [hz _ (rl _), Nat.mul_zero, Nat.add_zero] at h2; refine next _ (by simp [hd]) (set_lt hdl (by rw [fb]; exact hc)) ?_ (fun t ht => by rw [getD_set_ne (by omega)]; exact hz t (by omega)); rw [h2, hinv, dval_take_succ, Nat.add_mul, Nat.mul_assoc]
 | succ j ih =>
   intro k c ds hj hk hc hd hdl hinv hz; have hy1 := getD_lt (b := b32) (by decide) hy k; have ho1 := getD_lt (b := b32) (by decide) hdl (i + k); have hm1 := mul_lt_64 hx1 hy1; have hcast : ((xs.getD i 0 : Nat) : Int) * ((ys.getD k 0 : Nat) : Int) = ((xs.getD i 0 * ys.getD k 0 : Nat) : Int) := by simp
   rw [fb] at hc hx1 hy1 ho1; refine have_ (p := (k < ys.length) /\ ((k : Int) < ((d32 ys).length : Int)) /\ (0 <= (((xs.getD i 0) : Nat) : Int) /\ (((xs.getD i 0) : Nat) : Int) <= 18446744073709551615) /\ (0 <= (ys.getD k 0 : Int) /\ (ys.getD k 0 : Int) <= 18446744073709551615) /\ (0 <= (((xs.getD i 0) : Nat) : Int) * (ys.getD k 0 : Int) /\ (((xs.getD i 0) : Nat) : Int) * (ys.getD k 0 : Int) <= 18446744073709551615) /\ (-9223372036854775808 <= (i : Int) + (k : Int) /\ (i : Int) + (k : Int) <= 9223372036854775807) /\ (((i + k : Nat) : Int) < (m : Int)) /\ (0 + (i + k) < ds.length) /\ (0 + (i + k) < (d32 ds).length) /\ (0 <= (ds.getD (0 + (i + k)) 0 : Int) /\ (ds.getD (0 + (i + k)) 0 : Int) <= 18446744073709551615) /\ (0 <= (((xs.getD i 0) * (ys.getD k 0) : Nat) : Int) + (ds.getD (0 + (i + k)) 0 : Int) /\ (((xs.getD i 0) * (ys.getD k 0) : Nat) : Int) + (ds.getD (0 + (i + k)) 0 : Int) <= 18446744073709551615) /\ (0 <= (c : Int) + (((xs.getD i 0) * (ys.getD k 0) + ds.getD (0 + (i + k)) 0 : Nat) : Int) /\ (c : Int) + (((xs.getD i 0) * (ys.getD k 0) + ds.getD (0 + (i + k)) 0 : Nat) : Int) <= 18446744073709551615) /\ (-9223372036854775808 <= (k : Int) + (1 : Int) /\ (k : Int) + (1 : Int) <= 9223372036854775807)) ?_ fun ⟨q0, q1, q2, q3, q4, q5, q6, q7, q8, q9, q10, q11, q12⟩ => gN KT115_ok [1, 5, 6, 7, 8, 17, 18, 19, 24, 25, 26] [(27, tt), (29, .cptr [.int .u32 (ys.getD k 0 : Int)] 0), (33, .int .u64 (((xs.getD i 0) : Nat) : Int)), (35, .int .u64 (ys.getD k 0 : Int)), (36, .int .u64 (((xs.getD i 0) * (ys.getD k 0) : Nat) : Int)), (40, .i6 ((i + k : Nat) : Int)), (42, .int .u32 (ds.getD (0 + (i + k)) 0 : Int)), (43, .int .u64 (ds.getD (0 + (i + k)) 0 : Int)), (44, .int .u64 (((xs.getD i 0) * (ys.getD k 0) + ds.getD (0 + (i + k)) 0 : Nat) : Int)), (45, .int .u64 ((c + (xs.getD i 0) * (ys.getD k 0) + ds.getD (0 + (i + k)) 0 : Nat) : Int)), (49, .i6 ((i + k : Nat) : Int)), (51, .int .u32 (((c + (xs.getD i 0) * (ys.getD k 0) + ds.getD (0 + (i + k)) 0) % 4294967296 : Nat) : Int)), (54, .int .u64 (((c + (xs.getD i 0) * (ys.getD k 0) + ds.getD (0 + (i + k)) 0) / 4294967296 : Nat) : Int)), (55, .i6 ((k + 1 : Nat) : Int))] (.c6 (iT (show (k : Int) < ((d32 ys).length : Int) by rw [d32_length]; omega)) (Ref.cd32 q0) (nn k) q1 (wU (((xs.getD i 0) : Nat) : Int) (((xs.getD i 0) : Nat) : Int) q2) (wU (ys.getD k 0 : Int) (ys.getD k 0 : Int) q3) (.c6 (wU ((((xs.getD i 0) : Nat) : Int) * (ys.getD k 0 : Int)) (((xs.getD i 0) * (ys.getD k 0) : Nat) : Int) q4) (wI ((i : Int) + (k : Int)) ((i + k : Nat) : Int) q5) (nn (i + k)) q6 (Ref.cd32h q7) q8 (.c6 (wU (ds.getD (0 + (i + k)) 0 : Int) (ds.getD (0 + (i + k)) 0 : Int) q9) (wU ((((xs.getD i 0) * (ys.getD k 0) : Nat) : Int) + (ds.getD (0 + (i + k)) 0 : Int)) (((xs.getD i 0) * (ys.getD k 0) + ds.getD (0 + (i + k)) 0 : Nat) : Int) q10) (wU ((c : Int) + (((xs.getD i 0) * (ys.getD k 0) + ds.getD (0 + (i + k)) 0 : Nat) : Int)) ((c + (xs.getD i 0) * (ys.getD k 0) + ds.getD (0 + (i + k)) 0 : Nat) : Int) q11) (wI ((i : Int) + (k : Int)) ((i + k : Nat) : Int) q5) (show Ref (.int .u32 (IntKind.u32.wrap ((c + (xs.getD i 0) * (ys.getD k 0) + ds.getD (0 + (i + k)) 0 : Nat) : Int))) (.int .u32 (((c + (xs.getD i 0) * (ys.getD k 0) + ds.getD (0 + (i + k)) 0) % 4294967296 : Nat) : Int)) from Ref.md32 (by first | rfl | omega)) (nn (i + k)) (.a5 q6 q8 (show Ref (.int .u64 (((c + (xs.getD i 0) * (ys.getD k 0) + ds.getD (0 + (i + k)) 0 : Nat) : Int).fdiv (2 ^ (min (32 : Int).toNat 64)))) (.int .u64 (((c + (xs.getD i 0) * (ys.getD k 0) + ds.getD (0 + (i + k)) 0) / 4294967296 : Nat) : Int)) from Ref.shrc (c := min (Int.toNat _) _) (by rfl) (by decide)) (dc (0 <= (32 : Int))) (wI ((k : Int) + (1 : Int)) ((k + 1 : Nat) : Int) q12))))) (t := T115i) (σ := slots 67 [(1, .list 1 (d32 ys)), (5, .own 0 1 0 m), (6, .i6 (i : Int)), (7, (.int .u32 (((xs.getD i 0) : Nat) : Int))), (8, (.int .u64 (((c + (xs.getD i 0) * (ys.getD k 0) + ds.getD (0 + (i + k)) 0) / 4294967296 : Nat) : Int))), (17, .list 1 (d32 xs)), (18, .i6 ((d32 xs).length : Int)), (19, .i6 (i : Int)), (24, .list 1 (d32 ys)), (25, .i6 ((d32 ys).length : Int)), (26, .i6 ((k + 1 : Nat) : Int))]) (h := [some ⟨362, 1, true, ((d32 ds).set (0 + (i + k)) [.int .u32 (((c + (xs.getD i 0) * (ys.getD k 0) + ds.getD (0 + (i + k)) 0) % 4294967296 : Nat) : Int)]), none⟩]) ?_
   · simp only [d32_length, Nat.zero_add, hcast]
     omega
   · rw [d32_set]
     simp only [Nat.zero_add]; refine ih _ _ _ (by omega) (by omega) (by rw [fb]; omega) (by simp [hd]) (set_lt hdl (by rw [fb]; omega)) ?_ (fun t ht => by rw [getD_set_ne (by omega)]; exact hz t ht); have h2 := dval_set (b := b32) (xs := ds) (j := i + k) (v := (c + xs.getD i 0 * ys.getD k 0 + ds.getD (i + k) 0) % 4294967296) (by omega); rw [show i + (k + 1) = i + k + 1 by omega, Nat.pow_succ, dval_take_succ]; have h3 := step_mul (b := b32) (V := dval b32 ds) (c := c) rfl h2 hinv; rw [Nat.pow_add] at h3 ⊢; exact h3.trans mul_inner
theorem outer115 {xs ys : List Nat} {m E : Nat} (hm : m = xs.length + ys.length) (hx : ∀ x ∈ xs, x < b32) (hy : ∀ x ∈ ys, x < b32) (hbig : m + 2 <= LIM) (hE : dval b32 xs * dval b32 ys < 2 ^ E) :
   ∀ (j i : Nat) (ds : List Nat), j = xs.length - i -> i <= xs.length -> ds.length = m -> (∀ x ∈ ds, x < b32) -> dval b32 ds = dval b32 (xs.take i) * dval b32 ys -> (∀ t, i + ys.length <= t -> ds.getD t 0 = 0) ->
     GF 115 S w0 (.nat (dval b32 xs * dval b32 ys) E) T115 ⟨slots 67 [(1, .list 1 (d32 ys)), (5, .own 0 1 0 m), (17, .list 1 (d32 xs)), (18, (.i6 (((d32 xs).length : Nat) : Int))), (19, .i6 ((i : Nat) : Int))], [some ⟨362, 1, true, (d32 ds), none⟩]⟩ := by
 intro j
 induction j with
 | zero =>
   intro i ds hj hi hd hdl hinv hz; have hi : i = xs.length := by omega
   subst hi; rw [tkE (rl _)] at hinv; obtain ⟨q1, q2, q3⟩ := end262 (m := m) hd.symm hE hinv hdl (xs := []) rfl; refine rF KT115_ok [(20, ff)] (.a4 (iF (show ¬ ((xs.length : Int) < ((d32 xs).length : Int)) by rw [d32_length]; omega)) (show 0 + m <= (d32 ds).length by rw [d32_length]; omega) q1 q2) (V := .nat (dval b32 (un32 (((d32 ds).drop 0).take m))) (32 * (((d32 ds).drop 0).take m).length)) q3
 | succ j ih =>
   intro i ds hj hi hd hdl hinv hz; have v0 : (i : Int) < ((d32 xs).length : Int) := by rw [d32_length]; omega
   refine gN KT115_ok [1, 4, 5, 6, 7, 8, 17, 18, 19, 24, 25, 26] [(20, tt), (22, .cptr [.int .u32 (xs.getD i 0 : Int)] 0)] (.a4 (iT v0) (show Ref (.cptr ((d32 xs).getD i []) 0) (.cptr [.int .u32 (xs.getD i 0 : Int)] 0) from Ref.cd32 ((om (i < xs.length)))) (nn i) v0) (t := T115i) (σ := slots 67 [(1, .list 1 (d32 ys)), (5, .own 0 1 0 m), (6, .i6 (i : Int)), (7, .int .u32 (xs.getD i 0 : Int)), (8, .int .u64 (0 : Int)), (17, .list 1 (d32 xs)), (18, .i6 ((d32 xs).length : Int)), (19, .i6 (i : Int)), (24, .list 1 (d32 ys)), (25, .i6 ((d32 ys).length : Int)), (26, .i6 (0 : Int))]) (h := [some ⟨362, 1, true, (d32 ds), none⟩]) ?_
   refine inner115 hm (by omega) hx hy hbig (fun D e1 e2 e3 e4 => ih (i + 1) D (by omega) (by omega) e1 e2 e3 e4) _ 0 0 ds rfl (by omega) (by decide) hd hdl ?_ hz; simp [dval, hinv]
theorem a115 : Ctr 115 k115 := fun args r ob h ho => by
 unfold k115 at h
 split at h
 · rename_i n B m C
   cases h; have hL : B + C + 128 <= LIM := ho _ (by simp); unfold LIM at hL; obtain ⟨hx, hxn⟩ := digits_spec (b := b32) (by decide) n; obtain ⟨hy, hyn⟩ := digits_spec (b := b32) (by decide) m; refine af Tryz.f115 fun S w0 => ?_
   refine Good.natlt (n := n) (B := B) 0 rfl fun hn => Good.natlt (n := m) (B := C) 1 rfl fun hm => ?_
   refine Good.weak 67 [(0, .list 1 (d32 (digits b32 n))), (1, .list 1 (d32 (digits b32 m)))] (by kernel_rfl) (.cons Ref.opn (.cons Ref.opn .nil)) ?_; have l1 := hx.len (by rw [hxn]; exact hn); have l2 := hy.len (by rw [hyn]; exact hm); generalize digits b32 n = xs at *; generalize digits b32 m = ys at *; subst hxn; subst hyn; refine have_ (p := (-9223372036854775808 <= ((d32 xs).length : Int) + ((d32 ys).length : Int) /\ ((d32 xs).length : Int) + ((d32 ys).length : Int) <= 9223372036854775807) /\ (4 * (((d32 xs).length + (d32 ys).length : Nat) : Int) <= 281474976710656) /\ ((((d32 xs).length + (d32 ys).length : Nat) : Int) <= (big : Int))) (by simp only [d32_length]; unfold big; omega) fun ⟨q0, q1, q2⟩ => gN KT115_ok [1, 5, 17, 18, 19] [(15, .i6 (((d32 xs).length + (d32 ys).length : Nat) : Int))] (.a5 (wI ((((d32 xs).length : Nat) : Int) + ((d32 ys).length : Int)) (((d32 xs).length + (d32 ys).length : Nat) : Int) q0) (rfl : (((d32 xs).length + (d32 ys).length : Nat) : Int) = (((d32 xs).length + (d32 ys).length : Nat) : Int)) (nn ((d32 xs).length + (d32 ys).length)) q1 q2) (t := T115) (σ := slots 67 [(1, .list 1 (d32 ys)), (5, .own 0 1 0 ((d32 xs).length + (d32 ys).length)), (17, .list 1 (d32 xs)), (18, .i6 ((d32 xs).length : Int)), (19, .i6 (0 : Int))]) (h := [some ⟨362, 1, true, (List.replicate ((d32 xs).length + (d32 ys).length) [.int .u32 (0 : Int)]), none⟩]) ?_
   rw [d32_rep]; simp only [d32_length]
   have := outer115 (S := S) (w0 := w0) (xs := xs) (ys := ys) rfl hx.1 hy.1 (by unfold LIM; omega) (mul_lt_pow hn hm) xs.length 0 (List.replicate (xs.length + ys.length) 0) rfl (by omega) (by simp) (rep_lt (by decide)) (by simp [dval, dval_rep]) (fun t _ => getD_rep _ _); simp only [d32_length] at this; exact this
 · cases h
end
def KT272_ok := kn
def k272 : KF
 | [.list 1 X] => some (.dig (dval b10k (un64 X)) (14 * X.length), [X = d64 (un64 X), ∀ x ∈ un64 X, x < b10k])
 | _ => none
section
variable {S : Nat -> Prop} {w0 : World}
noncomputable abbrev T272 : List Item := [.code (nav [1, 0, 0, 0] (bodyOf Tryz.f272)), .inLoop (nav [1, 0, 0, 0] (bodyOf Tryz.f272)), .inBlock 0, .code (nav [1, 1] (bodyOf Tryz.f272))]
theorem loop272 {N B : Nat} (hB : N < 2 ^ B) : ∀ (j : Nat) (xs : List Nat), xs.length = j -> (∀ x ∈ xs, x < b10k) -> dval b10k xs = N -> j <= big ->
   GF 272 S w0 (.dig N B) T272 ⟨slots 21 [(0, .list 1 (d64 xs))], []⟩ := by
 intro j
 induction j with
 | zero =>
   intro xs hl hx hN hb; refine rF KT272_ok [(6, ff)] (.a1 (iF (show ¬ ((0 : Int) < ((d64 xs).length : Int)) by rw [d64_length]; omega))) (V := .list 1 (d64 xs)) (Ref.dig ⟨hx, ?_⟩ hN hB)
   have : xs = [] := List.length_eq_zero_iff.1 hl; subst this; simp
 | succ k ih =>
   intro xs hl hx hN hb; unfold big at hb; have v0 : Ref (.i6 (IntKind.i64.wrap ((((d64 xs).length : Nat) : Int) - (1 : Int)))) (.i6 (k : Int)) := by rw [d64_length]; exact Ref.wrI (by omega) (by omega)
   have v1 : Ref (.cptr ((d64 xs).getD k []) 0) (.cptr [.i6 (xs.getD k 0 : Int)] 0) := Ref.cd64 ((om (k < xs.length))); have v2 : (0 : Int) < ((d64 xs).length : Int) := by rw [d64_length]; omega
   have v3 : (k : Int) < ((d64 xs).length : Int) := by rw [d64_length]; omega
   by_cases h : xs.getD k 0 = 0
   · refine gN KT272_ok [0, 2] [(6, tt), (10, .i6 (k : Int)), (11, .cptr [.i6 (xs.getD k 0 : Int)] 0), (14, tt), (18, .i6 (k : Int))] (.c6 (iT v2) v0 v1 (nn k) v3 (iT (om ((xs.getD k 0 : Int) = (0 : Int)))) (.a3 v0 (nn k) (show (k : Int) <= ((d64 xs).length : Int) by rw [d64_length]; omega))) (t := T272) (σ := slots 21 [(0, (.list 1 (((d64 xs).take k).drop 0)))]) (h := []) ?_
     rw [List.drop_zero, d64_take]; refine ih _ (by simp; omega) (fun x h => hx x (List.mem_of_mem_take h)) ?_ (by unfold big; omega); have h1 := dval_take_succ b10k xs k; rw [tkE (by omega), hN, h, Nat.mul_zero] at h1; omega
   · refine rF KT272_ok [(6, tt), (10, .i6 (k : Int)), (11, .cptr [.i6 (xs.getD k 0 : Int)] 0), (14, ff)] (.a6 (iT v2) v0 v1 (nn k) v3 (iF (om (¬ (((xs.getD k 0 : Nat) : Int) = (0 : Int)))))) (V := .list 1 (d64 xs)) (Ref.dig ⟨hx, ?_⟩ hN hB)
     rw [List.getLast?_eq_getElem?, hl, Nat.add_sub_cancel, List.getElem?_eq_getElem (by omega)]; intro he; apply h; simp at he; simp [gdE, show k < xs.length by omega, he]
theorem a272 : Ctr 272 k272 := fun args r ob h ho => by
 unfold k272 at h
 split at h
 · rename_i X
   cases h; have h1 : X = d64 (un64 X) := ho _ (by simp); have h2 : ∀ x ∈ un64 X, x < b10k := ho _ (by simp); generalize un64 X = xs at h1 h2; subst h1; refine af Tryz.f272 fun S w0 => ?_
   rw [d64_length]; have e : st0 [.list 1 (d64 xs)] Tryz.f272.ntmps = ⟨slots 21 [(0, .list 1 (d64 xs))], []⟩ := by kernel_rfl
   rw [e]; refine Good.len 0 (e := 1) (xs := d64 xs) (by rfl) fun hb => ?_
   rw [d64_length] at hb; exact gN KT272_ok [0] [] .nil (loop272 (dval_lt10 h2) _ xs rfl h2 rfl hb)
 · cases h
end
def KT223_ok := kn.cons a272
def k223 : KF
 | [.dig n B, .dig m C] => some (.dig (n * m) (B + C), [B + C + 128 <= LIM])
 | _ => none
theorem Ref.digB {n B C : Nat} (h : n < 2 ^ C) : Ref (.dig n B) (.dig n C) := by
 intro ρ S w D v hv; have h' : RelCs ρ S w D [.dig n B] [v] := hv; cases h' with
 | dig xs h1 h2 h3 h4 => exact RelV_one (.dig xs h1 h2 h h4)
theorem Good.diglt {P : Program} {f : FuncId} {S0 C0 : Nat -> Prop} {w0 : World} {Post : Value -> World -> Prop} {todo : List Item} {st : St} (t : Nat) {n B : Nat} (ht : st.σ.getD t .any = .dig n B) (hg : n < 2 ^ B -> Good P f S0 C0 w0 Post todo st) : Good P f S0 C0 w0 Post todo st :=
 Good.fact t ht rfl (fun ρ S w D v hv => dig_inv (show RelCs ρ S w D [.dig n B] [v] from hv)) hg
section
variable {S : Nat -> Prop} {w0 : World}
noncomputable abbrev T223 : List Item := [.code (nav [1, 1, 0, 1, 0, 0] (bodyOf Tryz.f223)), .inLoop (nav [1, 1, 0, 1, 0, 0] (bodyOf Tryz.f223)), .inBlock 0, .code (nav [1, 1, 1] (bodyOf Tryz.f223))]
noncomputable abbrev T223i : List Item := [.code (nav [1, 1, 0, 1, 0, 0, 1, 0, 0, 1, 1, 0, 0] (bodyOf Tryz.f223)), .inLoop (nav [1, 1, 0, 1, 0, 0, 1, 0, 0, 1, 1, 0, 0] (bodyOf Tryz.f223)), .inBlock 2, .inBlock 1, .code (nav [1, 1, 0, 1, 0, 0, 1, 1] (bodyOf Tryz.f223)), .inLoop (nav [1, 1, 0, 1, 0, 0] (bodyOf Tryz.f223)), .inBlock 0, .code (nav [1, 1, 1] (bodyOf Tryz.f223))]
variable {Post : Value -> World -> Prop}
theorem inner223 {xs ys : List Nat} {m i : Nat} (hm : m = xs.length + ys.length) (hi : i < xs.length) (hx : ∀ x ∈ xs, x < b10k) (hy : ∀ x ∈ ys, x < b10k) (hbig : m + 2 <= LIM)
   (next : ∀ ds : List Nat, ds.length = m -> (∀ x ∈ ds, x < b10k) -> dval b10k ds = dval b10k (xs.take (i + 1)) * dval b10k ys -> (∀ t, i + 1 + ys.length <= t -> ds.getD t 0 = 0) ->
     Good Tryz.prog 223 S No w0 Post T223 ⟨slots 66 [(0, .list 1 (d64 xs)), (1, .list 1 (d64 ys)), (5, .own 0 1 0 m), (6, .i6 ((i + 1 : Nat) : Int))], [some ⟨3, 1, true, (d64 ds), none⟩]⟩) :
   ∀ (j k c : Nat) (ds : List Nat), j = ys.length - k -> k <= ys.length -> c < b10k -> ds.length = m -> (∀ x ∈ ds, x < b10k) -> dval b10k ds + b10k ^ (i + k) * c = dval b10k (xs.take i) * dval b10k ys + b10k ^ i * (xs.getD i 0 * dval b10k (ys.take k)) -> (∀ t, i + ys.length <= t -> ds.getD t 0 = 0) ->
   Good Tryz.prog 223 S No w0 Post T223i ⟨slots 66 [(0, .list 1 (d64 xs)), (1, .list 1 (d64 ys)), (5, .own 0 1 0 m), (6, .i6 ((i : Nat) : Int)), (7, .i6 ((c : Nat) : Int)), (8, .i6 ((k : Nat) : Int))], [some ⟨3, 1, true, (d64 ds), none⟩]⟩ := by
 unfold LIM at hbig; have hx1 := getD_lt (b := b10k) (by decide) hx i; have fb : b10k = 10000 := rfl
 have fin : ∀ (k : Nat) (ds : List Nat), ys.length <= k -> ds.length = m -> (∀ x ∈ ds, x < b10k) -> dval b10k ds = dval b10k (xs.take i) * dval b10k ys + b10k ^ i * (xs.getD i 0 * dval b10k ys) -> (∀ t, i + 1 + ys.length <= t -> ds.getD t 0 = 0) ->
     Good Tryz.prog 223 S No w0 Post T223i ⟨slots 66 [(0, .list 1 (d64 xs)), (1, .list 1 (d64 ys)), (5, .own 0 1 0 m), (6, .i6 ((i : Nat) : Int)), (7, .i6 ((0 : Nat) : Int)), (8, .i6 ((k : Nat) : Int))], [some ⟨3, 1, true, (d64 ds), none⟩]⟩ := by
   intro k ds hk hd hdl hv hz; refine gN KT223_ok [0, 1, 5, 6, 7, 8] [(26, ff), (29, ff), (21, .i6 ((i + 1 : Nat) : Int))] (.a3 (iF (show ¬ ((k : Int) < ((d64 ys).length : Int)) by rw [d64_length]; omega)) (iF (om (¬ ((0 : Int) < (0 : Int))))) (wI ((i : Int) + (1 : Int)) ((i + 1 : Nat) : Int))) (t := T223) (σ := slots 66 [(0, .list 1 (d64 xs)), (1, .list 1 (d64 ys)), (5, .own 0 1 0 m), (6, .i6 ((i + 1 : Nat) : Int)), (7, .i6 (0 : Int)), (8, .i6 (k : Int))]) (h := [some ⟨3, 1, true, (d64 ds), none⟩]) ?_
   refine Good.weak 66 [(0, _), (1, _), (5, _), (6, _)] (by kernel_rfl) (.r (.r (.r (.r .nil)))) ?_; refine next ds hd hdl ?_ hz; rw [hv, dval_take_succ, Nat.add_mul, Nat.mul_assoc]
 intro j; have v0 : (10000 : Int) ≠ 0 := by decide
 induction j with
 | zero =>
   intro k c ds hj hk hc hd hdl hinv hz; have hk : k = ys.length := by omega
   subst hk; rw [tkE (rl _)] at hinv
   by_cases h0 : c = 0
   · subst h0
     exact fin _ ds (rl _) hd hdl (by rw [Nat.mul_zero, Nat.add_zero] at hinv; exact hinv) (fun t ht => hz t (by omega))
   · have ho : ds.getD (i + ys.length) 0 = 0 := hz _ (rl _)
     rw [fb] at hc; have v1 : ¬ ((ys.length : Int) < ((d64 ys).length : Int)) := by rw [d64_length]; omega
     refine have_ (p := (-9223372036854775808 <= (i : Int) + (ys.length : Int) /\ (i : Int) + (ys.length : Int) <= 9223372036854775807) /\ (((i + ys.length : Nat) : Int) < (m : Int)) /\ (0 + (i + ys.length) < ds.length) /\ (0 + (i + ys.length) < (d64 ds).length) /\ (-9223372036854775808 <= (ds.getD (0 + (i + ys.length)) 0 : Int) + (c : Int) /\ (ds.getD (0 + (i + ys.length)) 0 : Int) + (c : Int) <= 9223372036854775807) /\ (((ds.getD (0 + (i + ys.length)) 0 + c : Nat) : Int) <= 9223372036854775807) /\ (-9223372036854775808 <= (ys.length : Int) + (1 : Int) /\ (ys.length : Int) + (1 : Int) <= 9223372036854775807)) ?_ fun ⟨q0, q1, q2, q3, q4, q5, q6⟩ => gN KT223_ok [0, 1, 5, 6, 7, 8] [(26, ff), (29, tt), (35, .i6 ((i + ys.length : Nat) : Int)), (37, .i6 (ds.getD (0 + (i + ys.length)) 0 : Int)), (39, .i6 ((ds.getD (0 + (i + ys.length)) 0 + c : Nat) : Int)), (43, ff), (58, .i6 ((i + ys.length : Nat) : Int)), (60, .i6 (((ds.getD (0 + (i + ys.length)) 0 + c) % 10000 : Nat) : Int)), (63, .i6 (((ds.getD (0 + (i + ys.length)) 0 + c) / 10000 : Nat) : Int)), (31, .i6 ((ys.length + 1 : Nat) : Int))] (.c6 (iF v1) (iT (om ((0 : Int) < (c : Int)))) (wI ((i : Int) + (ys.length : Int)) ((i + ys.length : Nat) : Int) q0) (nn (i + ys.length)) q1 (Ref.cd64h q2) (.c6 q3 (wI (((ds.getD (0 + (i + ys.length)) 0 : Nat) : Int) + (c : Int)) ((ds.getD (0 + (i + ys.length)) 0 + c : Nat) : Int) q4) (iF v1) (wI ((i : Int) + (ys.length : Int)) ((i + ys.length : Nat) : Int) q0) (show Ref (.i6 (((ds.getD (0 + (i + ys.length)) 0 + c : Nat) : Int).tmod (10000 : Int))) (.i6 (((ds.getD (0 + (i + ys.length)) 0 + c) % 10000 : Nat) : Int)) from Ref.rem (a := ds.getD (0 + (i + ys.length)) 0 + c) (b := 10000) rfl rfl) v0 (.a6 (nn (i + ys.length)) q1 q3 (show Ref (.i6 (IntKind.i64.wrap (((ds.getD (0 + (i + ys.length)) 0 + c : Nat) : Int).tdiv (10000 : Int)))) (.i6 (((ds.getD (0 + (i + ys.length)) 0 + c) / 10000 : Nat) : Int)) from Ref.quo (a := ds.getD (0 + (i + ys.length)) 0 + c) (b := 10000) rfl rfl (by decide) q5) v0 (wI ((ys.length : Int) + (1 : Int)) ((ys.length + 1 : Nat) : Int) q6)))) (t := T223i) (σ := slots 66 [(0, .list 1 (d64 xs)), (1, .list 1 (d64 ys)), (5, .own 0 1 0 m), (6, .i6 (i : Int)), (7, (.i6 (((ds.getD (0 + (i + ys.length)) 0 + c) / 10000 : Nat) : Int))), (8, .i6 ((ys.length + 1 : Nat) : Int))]) (h := [some ⟨3, 1, true, ((d64 ds).set (0 + (i + ys.length)) [.i6 (((ds.getD (0 + (i + ys.length)) 0 + c) % 10000 : Nat) : Int)]), none⟩]) ?_
     · simp only [Nat.zero_add, ho, d64_length]; omega
     · simp only [Nat.zero_add, ho]
       rw [d64_set, Nat.mod_eq_of_lt hc, Nat.div_eq_of_lt hc]; have h2 := dval_set (b := b10k) (xs := ds) (j := i + ys.length) (v := c) (by omega); rw [ho, Nat.mul_zero, Nat.add_zero] at h2; exact fin _ _ (by omega) (by simp [hd]) (set_lt hdl (by rw [fb]; exact hc)) (by rw [h2, hinv]) (fun t ht => by rw [getD_set_ne (by omega)]; exact hz t (by omega))
 | succ j ih =>
   intro k c ds hj hk hc hd hdl hinv hz; have hy1 := getD_lt (b := b10k) (by decide) hy k; have ho1 := getD_lt (b := b10k) (by decide) hdl (i + k); have hcast : ((xs.getD i 0 : Nat) : Int) * ((ys.getD k 0 : Nat) : Int) = ((xs.getD i 0 * ys.getD k 0 : Nat) : Int) := by simp
   rw [fb] at hc hx1 hy1 ho1; have hm1 : xs.getD i 0 * ys.getD k 0 <= 9999 * 9999 := Nat.mul_le_mul (by omega) (by omega); have v2 : (k : Int) < ((d64 ys).length : Int) := by rw [d64_length]; omega
   refine have_ (p := (-9223372036854775808 <= (i : Int) + (k : Int) /\ (i : Int) + (k : Int) <= 9223372036854775807) /\ (((i + k : Nat) : Int) < (m : Int)) /\ (0 + (i + k) < ds.length) /\ (0 + (i + k) < (d64 ds).length) /\ (-9223372036854775808 <= (ds.getD (0 + (i + k)) 0 : Int) + (c : Int) /\ (ds.getD (0 + (i + k)) 0 : Int) + (c : Int) <= 9223372036854775807) /\ (i < xs.length) /\ ((i : Int) < ((d64 xs).length : Int)) /\ (k < ys.length) /\ ((k : Int) < ((d64 ys).length : Int)) /\ (-9223372036854775808 <= (xs.getD i 0 : Int) * (ys.getD k 0 : Int) /\ (xs.getD i 0 : Int) * (ys.getD k 0 : Int) <= 9223372036854775807) /\ (-9223372036854775808 <= ((ds.getD (0 + (i + k)) 0 + c : Nat) : Int) + (((xs.getD i 0) * (ys.getD k 0) : Nat) : Int) /\ ((ds.getD (0 + (i + k)) 0 + c : Nat) : Int) + (((xs.getD i 0) * (ys.getD k 0) : Nat) : Int) <= 9223372036854775807) /\ (((ds.getD (0 + (i + k)) 0 + c + (xs.getD i 0) * (ys.getD k 0) : Nat) : Int) <= 9223372036854775807) /\ (-9223372036854775808 <= (k : Int) + (1 : Int) /\ (k : Int) + (1 : Int) <= 9223372036854775807)) ?_ fun ⟨q0, q1, q2, q3, q4, q5, q6, q7, q8, q9, q10, q11, q12⟩ => gN KT223_ok [0, 1, 5, 6, 7, 8] [(26, tt), (35, .i6 ((i + k : Nat) : Int)), (37, .i6 (ds.getD (0 + (i + k)) 0 : Int)), (39, .i6 ((ds.getD (0 + (i + k)) 0 + c : Nat) : Int)), (43, tt), (47, .cptr [.i6 (xs.getD i 0 : Int)] 0), (51, .cptr [.i6 (ys.getD k 0 : Int)] 0), (53, .i6 (((xs.getD i 0) * (ys.getD k 0) : Nat) : Int)), (54, .i6 ((ds.getD (0 + (i + k)) 0 + c + (xs.getD i 0) * (ys.getD k 0) : Nat) : Int)), (58, .i6 ((i + k : Nat) : Int)), (60, .i6 (((ds.getD (0 + (i + k)) 0 + c + (xs.getD i 0) * (ys.getD k 0)) % 10000 : Nat) : Int)), (63, .i6 (((ds.getD (0 + (i + k)) 0 + c + (xs.getD i 0) * (ys.getD k 0)) / 10000 : Nat) : Int)), (31, .i6 ((k + 1 : Nat) : Int))] (.c6 (iT v2) (wI ((i : Int) + (k : Int)) ((i + k : Nat) : Int) q0) (nn (i + k)) q1 (Ref.cd64h q2) q3 (.c6 (wI (((ds.getD (0 + (i + k)) 0 : Nat) : Int) + (c : Int)) ((ds.getD (0 + (i + k)) 0 + c : Nat) : Int) q4) (iT v2) (Ref.cd64 q5) (nn i) q6 (Ref.cd64 q7) (.c6 (nn k) q8 (wI (((xs.getD i 0 : Nat) : Int) * (ys.getD k 0 : Int)) (((xs.getD i 0) * (ys.getD k 0) : Nat) : Int) q9) (wI (((ds.getD (0 + (i + k)) 0 + c : Nat) : Int) + (((xs.getD i 0) * (ys.getD k 0) : Nat) : Int)) ((ds.getD (0 + (i + k)) 0 + c + (xs.getD i 0) * (ys.getD k 0) : Nat) : Int) q10) (wI ((i : Int) + (k : Int)) ((i + k : Nat) : Int) q0) (show Ref (.i6 (((ds.getD (0 + (i + k)) 0 + c + (xs.getD i 0) * (ys.getD k 0) : Nat) : Int).tmod (10000 : Int))) (.i6 (((ds.getD (0 + (i + k)) 0 + c + (xs.getD i 0) * (ys.getD k 0)) % 10000 : Nat) : Int)) from Ref.rem (a := ds.getD (0 + (i + k)) 0 + c + (xs.getD i 0) * (ys.getD k 0)) (b := 10000) rfl rfl) (.c6 v0 (nn (i + k)) q1 q3 (show Ref (.i6 (IntKind.i64.wrap (((ds.getD (0 + (i + k)) 0 + c + (xs.getD i 0) * (ys.getD k 0) : Nat) : Int).tdiv (10000 : Int)))) (.i6 (((ds.getD (0 + (i + k)) 0 + c + (xs.getD i 0) * (ys.getD k 0)) / 10000 : Nat) : Int)) from Ref.quo (a := ds.getD (0 + (i + k)) 0 + c + (xs.getD i 0) * (ys.getD k 0)) (b := 10000) rfl rfl (by decide) q11) v0 (.a1 (wI ((k : Int) + (1 : Int)) ((k + 1 : Nat) : Int) q12)))))) (t := T223i) (σ := slots 66 [(0, .list 1 (d64 xs)), (1, .list 1 (d64 ys)), (5, .own 0 1 0 m), (6, .i6 (i : Int)), (7, (.i6 (((ds.getD (0 + (i + k)) 0 + c + (xs.getD i 0) * (ys.getD k 0)) / 10000 : Nat) : Int))), (8, .i6 ((k + 1 : Nat) : Int))]) (h := [some ⟨3, 1, true, ((d64 ds).set (0 + (i + k)) [.i6 (((ds.getD (0 + (i + k)) 0 + c + (xs.getD i 0) * (ys.getD k 0)) % 10000 : Nat) : Int)]), none⟩]) ?_
   · simp only [d64_length, Nat.zero_add, hcast]
     omega
   · rw [d64_set]
     simp only [Nat.zero_add]; refine ih _ _ _ (by omega) (by omega) (by rw [fb]; omega) (by simp [hd]) (set_lt hdl (by rw [fb]; omega)) ?_ (fun t ht => by rw [getD_set_ne (by omega)]; exact hz t ht); have h2 := dval_set (b := b10k) (xs := ds) (j := i + k) (v := (ds.getD (i + k) 0 + c + xs.getD i 0 * ys.getD k 0) % 10000) (by omega); rw [show i + (k + 1) = i + k + 1 by omega, Nat.pow_succ, dval_take_succ]; have h3 := step_mul (b := b10k) (V := dval b10k ds) (c := c) (xy := xs.getD i 0 * ys.getD k 0) (o := ds.getD (i + k) 0) (t := ds.getD (i + k) 0 + c + xs.getD i 0 * ys.getD k 0) (by omega) h2 hinv; rw [Nat.pow_add] at h3 ⊢; exact h3.trans mul_inner
theorem outer223 {xs ys : List Nat} {m E : Nat} (hm : m = xs.length + ys.length) (hx : ∀ x ∈ xs, x < b10k) (hy : ∀ x ∈ ys, x < b10k) (hbig : m + 2 <= LIM) (hE : dval b10k xs * dval b10k ys < 2 ^ E) :
   ∀ (j i : Nat) (ds : List Nat), j = xs.length - i -> i <= xs.length -> ds.length = m -> (∀ x ∈ ds, x < b10k) -> dval b10k ds = dval b10k (xs.take i) * dval b10k ys -> (∀ t, i + ys.length <= t -> ds.getD t 0 = 0) ->
     GF 223 S w0 (.dig (dval b10k xs * dval b10k ys) E) T223 ⟨slots 66 [(0, .list 1 (d64 xs)), (1, .list 1 (d64 ys)), (5, .own 0 1 0 m), (6, .i6 ((i : Nat) : Int))], [some ⟨3, 1, true, (d64 ds), none⟩]⟩ := by
 intro j
 induction j with
 | zero =>
   intro i ds hj hi hd hdl hinv hz; have hi : i = xs.length := by omega
   subst hi; rw [tkE (rl _)] at hinv; have e0 : ((d64 ds).drop 0).take m = d64 ds := by rw [List.drop_zero, tkE (by rw [d64_length]; omega)]
   refine rF KT223_ok [(19, ff)] (.a4 (iF (show ¬ ((xs.length : Int) < ((d64 xs).length : Int)) by rw [d64_length]; omega)) (show 0 + m <= (d64 ds).length by rw [d64_length]; omega) (show (((d64 ds).drop 0).take m) = d64 (un64 (((d64 ds).drop 0).take m)) by rw [e0, un64_d64]) (show ∀ x ∈ un64 (((d64 ds).drop 0).take m), x < b10k by rw [e0, un64_d64]; exact hdl)) (V := .dig (dval b10k (un64 (((d64 ds).drop 0).take m))) (14 * (((d64 ds).drop 0).take m).length)) ?_
   show Ref (.dig (dval b10k (un64 (((d64 ds).drop 0).take m))) _) _; rw [e0, un64_d64, hinv]; exact Ref.digB hE
 | succ j ih =>
   intro i ds hj hi hd hdl hinv hz; exact gN KT223_ok [0, 1, 4, 5, 6, 7, 8] [(19, tt)] (.a1 (iT (show (i : Int) < ((d64 xs).length : Int) by rw [d64_length]; omega))) (inner223 hm (by omega) hx hy hbig (fun D e1 e2 e3 e4 => ih (i + 1) D (by omega) (by omega) e1 e2 e3 e4) _ 0 0 ds rfl (by omega) (by decide) hd hdl (by simp [dval, hinv]) hz)
theorem a223 : Ctr 223 k223 := fun args r ob h ho => by
 unfold k223 at h
 split at h
 · rename_i n B m C
   cases h; have hL : B + C + 128 <= LIM := ho _ (by simp); unfold LIM at hL; obtain ⟨hx, hxn⟩ := digits_spec (b := b10k) (by decide) n; obtain ⟨hy, hyn⟩ := digits_spec (b := b10k) (by decide) m; refine af Tryz.f223 fun S w0 => ?_
   refine Good.diglt (n := n) (B := B) 0 rfl fun hn => Good.diglt (n := m) (B := C) 1 rfl fun hm => ?_
   refine Good.weak 66 [(0, .list 1 (d64 (digits b10k n))), (1, .list 1 (d64 (digits b10k m)))] (by kernel_rfl) (.cons Ref.opnd (.cons Ref.opnd .nil)) ?_; have l1 := hx.len10 (by rw [hxn]; exact hn); have l2 := hy.len10 (by rw [hyn]; exact hm); generalize digits b10k n = xs at *; generalize digits b10k m = ys at *; subst hxn; subst hyn; refine have_ (p := (-9223372036854775808 <= ((d64 xs).length : Int) + ((d64 ys).length : Int) /\ ((d64 xs).length : Int) + ((d64 ys).length : Int) <= 9223372036854775807) /\ (8 * (((d64 xs).length + (d64 ys).length : Nat) : Int) <= 281474976710656) /\ ((((d64 xs).length + (d64 ys).length : Nat) : Int) <= (big : Int))) (by simp only [d64_length]; unfold big; omega) fun ⟨q0, q1, q2⟩ => gN KT223_ok [0, 1, 4, 5, 6] [(14, .i6 (((d64 xs).length + (d64 ys).length : Nat) : Int))] (.a5 (wI ((((d64 xs).length : Nat) : Int) + ((d64 ys).length : Int)) (((d64 xs).length + (d64 ys).length : Nat) : Int) q0) (rfl : (((d64 xs).length + (d64 ys).length : Nat) : Int) = (((d64 xs).length + (d64 ys).length : Nat) : Int)) (nn ((d64 xs).length + (d64 ys).length)) q1 q2) (t := T223) (σ := slots 66 [(0, .list 1 (d64 xs)), (1, .list 1 (d64 ys)), (4, .nil), (5, .own 0 1 0 ((d64 xs).length + (d64 ys).length)), (6, .i6 (0 : Int))]) (h := [some ⟨3, 1, true, (List.replicate ((d64 xs).length + (d64 ys).length) [.i6 (0 : Int)]), none⟩]) ?_
   rw [d64_rep]; simp only [d64_length]; refine Good.weak 66 [(0, _), (1, _), (5, _), (6, _)] (by kernel_rfl) (.r (.r (.r (.r .nil)))) ?_; exact outer223 rfl hx.1 hy.1 (by unfold LIM; omega) (mul_lt_pow hn hm) xs.length 0 (List.replicate (xs.length + ys.length) 0) rfl (by omega) (by simp) (rep_lt (by decide)) (by simp [dval, dval_rep]) (fun t _ => getD_rep _ _)
 · cases h
end
def KT293_ok := kn.cons a272
def k293 : KF
 | [.dig n B, .dig m C] => some (.dig (n - m) B, [m <= n, B <= LIM])
 | _ => none
section
variable {S : Nat -> Prop} {w0 : World}
noncomputable abbrev T293 : List Item := [.code (nav [1, 1, 1, 0, 1, 0, 0] (bodyOf Tryz.f293)), .inLoop (nav [1, 1, 1, 0, 1, 0, 0] (bodyOf Tryz.f293)), .inBlock 0, .code (nav [1, 1, 1, 1] (bodyOf Tryz.f293))]
theorem loop293 {xs ys : List Nat} {N B : Nat} (hx : ∀ x ∈ xs, x < b10k) (hy : ∀ x ∈ ys, x < b10k) (hl : ys.length <= xs.length) (hbig : xs.length + 2 <= LIM)
   (hN : dval b10k xs = dval b10k ys + N) (hB : N < 2 ^ B) : ∀ (j i c : Nat) (ds : List Nat), j = xs.length - i -> i <= xs.length -> c <= 1 -> ds.length = i -> (∀ x ∈ ds, x < b10k) ->
   dval b10k ds + dval b10k (ys.take i) = dval b10k (xs.take i) + b10k ^ i * c ->
   GF 293 S w0 (.dig N B) T293 ⟨slots 41 [(0, .list 1 (d64 xs)), (1, .list 1 (d64 ys)), (5, outS ds), (6, .i6 ((c : Nat) : Int)), (7, .i6 ((i : Nat) : Int))], outH ds⟩ := by
 have fb : b10k = 10000 := rfl; unfold LIM at hbig; intro j
 induction j with
 | zero =>
   intro i c ds hj hi hc hd hdl hinv; have hi : i = xs.length := by omega
   subst hi; have hlt : dval b10k ds < b10k ^ xs.length := by rw [<- hd]; exact dval_lt (by decide) hdl
   rw [tkE hl, tkE (rl _)] at hinv
   have hc0 : c = 0 := by
     rcases Nat.eq_zero_or_pos c with h | h
     · exact h
     · have : b10k ^ xs.length * 1 <= b10k ^ xs.length * c := Nat.mul_le_mul_left _ h
       omega
   subst hc0; have hv : dval b10k ds = N := by omega
   have v5 : ¬ ((xs.length : Int) < ((d64 xs).length : Int)) := by rw [d64_length]; omega
   cases ds with
   | nil =>
     refine rF KT293_ok [(12, ff), (39, .list 1 (d64 []))] (.a4 (iF v5) (show Ref AV.nil (.list 1 (d64 [])) from Ref.nilL) (rfl : (d64 []) = d64 (un64 (d64 []))) (show ∀ x ∈ un64 (d64 []), x < b10k by simp [un64, d64])) (V := .dig (dval b10k (un64 (d64 []))) (14 * (d64 []).length)) ?_
     exact Ref.dig_of hv (by simp [d64])
   | cons d ds =>
     have e0 : ((d64 (d :: ds)).drop 0).take (ds.length + 1) = d64 (d :: ds) := by rw [List.drop_zero, tkE (by rw [d64_length]; simp)]
     refine rF KT293_ok [(12, ff)] (.a4 (iF v5) (show 0 + (ds.length + 1) <= (d64 (d :: ds)).length by rw [d64_length]; simp) (show (((d64 (d :: ds)).drop 0).take (ds.length + 1)) = d64 (un64 (((d64 (d :: ds)).drop 0).take (ds.length + 1))) by rw [e0, un64_d64]) (show ∀ x ∈ un64 (((d64 (d :: ds)).drop 0).take (ds.length + 1)), x < b10k by rw [e0, un64_d64]; exact hdl)) (V := .dig (dval b10k (un64 (((d64 (d :: ds)).drop 0).take (ds.length + 1)))) (14 * (((d64 (d :: ds)).drop 0).take (ds.length + 1)).length)) ?_
     show Ref (.dig (dval b10k (un64 (((d64 (d :: ds)).drop 0).take (ds.length + 1)))) _) _; rw [e0, un64_d64, hv]; intro ρ S w D v h; have h' : RelCs ρ S w D [.dig N _] [v] := h; cases h' with
     | dig xs h1 h2 h3 h4 => exact RelV_one (.dig xs h1 h2 hB h4)
 | succ j ih =>
   intro i c ds hj hi hc hd hdl hinv; have hx1 := getD_lt (b := b10k) (by decide) hx i; have hy1 := getD_lt (b := b10k) (by decide) hy i; rw [fb] at hx1 hy1
   have nx : ∀ (v c' y : Nat), y = ys.getD i 0 -> v < 10000 -> c' <= 1 -> v + y + c = xs.getD i 0 + b10k * c' ->
       GF 293 S w0 (.dig N B) T293 ⟨slots 41 [(0, .list 1 (d64 xs)), (1, .list 1 (d64 ys)), (5, .own 0 1 0 (ds.length + 1)), (6, .i6 ((c' : Nat) : Int)), (7, .i6 ((i + 1 : Nat) : Int))], [some ⟨3, 1, true, (d64 (ds ++ [v])), none⟩]⟩ := by
     intro v c' y hyy hv hc' he
     have := ih (i + 1) c' (ds ++ [v]) (by omega) (by omega) hc' (by simp [hd]) (snoc_lt hdl hv) (by
       rw [dval_snoc, hd, dval_take_succ, dval_take_succ b10k xs, Nat.pow_succ, <- hyy]
       exact step_sub he hinv)
     rw [outS_snoc, outH_snoc] at this; exact this
   have E : ∀ (e : Int) (v : Nat), e = ((v : Nat) : Int) -> (d64 ds) ++ [[(AV.int .i64 e)]] = d64 (ds ++ [v]) := fun e v h => by rw [h]; exact d64_snoc ds v
   have E0 : ds = [] -> ∀ (e : Int) (v : Nat), e = ((v : Nat) : Int) -> [[(AV.int .i64 e)]] = d64 (ds ++ [v]) := fun h0 e v h => by rw [h, h0]; rfl
   have v0 : (i : Int) < ((d64 xs).length : Int) := by rw [d64_length]; omega
   have v8 : 0 < 1 := by decide
   by_cases hyl : i < ys.length
   · have v2 : (i : Int) < ((d64 ys).length : Int) := by rw [d64_length]; omega
     by_cases hneg : xs.getD i 0 < c + ys.getD i 0
     · have hN2 := nx (xs.getD i 0 + 10000 - c - ys.getD i 0) 1 _ rfl (by omega) (by omega) (by rw [fb]; omega)
       have v4 : (((xs.getD i 0 : Int) - (c : Int)) - (ys.getD i 0 : Int)) < (0 : Int) := by omega
       cases ds with
       | nil =>
         refine have_ (p := (i < xs.length) /\ ((i : Int) < ((d64 xs).length : Int)) /\ (-9223372036854775808 <= (xs.getD i 0 : Int) - (c : Int) /\ (xs.getD i 0 : Int) - (c : Int) <= 9223372036854775807) /\ (i < ys.length) /\ ((i : Int) < ((d64 ys).length : Int)) /\ (-9223372036854775808 <= (((xs.getD i 0 : Nat) : Int) - (c : Int)) - (ys.getD i 0 : Int) /\ (((xs.getD i 0 : Nat) : Int) - (c : Int)) - (ys.getD i 0 : Int) <= 9223372036854775807) /\ (-9223372036854775808 <= (((xs.getD i 0 : Int) - (c : Int)) - (ys.getD i 0 : Int)) + (10000 : Int) /\ (((xs.getD i 0 : Int) - (c : Int)) - (ys.getD i 0 : Int)) + (10000 : Int) <= 9223372036854775807) /\ (1 * 8 <= 140737488355328) /\ (1 <= big) /\ (-9223372036854775808 <= (i : Int) + (1 : Int) /\ (i : Int) + (1 : Int) <= 9223372036854775807)) (by simp only [d64_length]; unfold big; omega) fun ⟨q0, q1, q2, q3, q4, q5, q6, q7, q8, q9⟩ => gR KT293_ok none [0, 1, 4, 5, 6, 7] [1] [(12, tt), (17, .cptr [.i6 (xs.getD i 0 : Int)] 0), (20, .i6 (((xs.getD i 0 : Nat) : Int) - (c : Int))), (24, tt), (28, .cptr [.i6 (ys.getD i 0 : Int)] 0), (30, .i6 (((xs.getD i 0 : Int) - (c : Int)) - (ys.getD i 0 : Int))), (32, tt), (34, .i6 (((((xs.getD i 0 : Nat) : Int) - (c : Int)) - (ys.getD i 0 : Int)) + (10000 : Int))), (14, .i6 ((i + 1 : Nat) : Int))] (.c6 (iT v0) (Ref.cd64 q0) (nn i) q1 (wI (((xs.getD i 0 : Nat) : Int) - (c : Int)) (((xs.getD i 0 : Nat) : Int) - (c : Int)) q2) (iT v2) (.c6 (Ref.cd64 q3) (nn i) q4 (wI (((xs.getD i 0 : Int) - (c : Int)) - (ys.getD i 0 : Int)) (((xs.getD i 0 : Int) - (c : Int)) - (ys.getD i 0 : Int)) q5) (iT v4) (wI (((((xs.getD i 0 : Nat) : Int) - (c : Int)) - (ys.getD i 0 : Int)) + (10000 : Int)) (((((xs.getD i 0 : Nat) : Int) - (c : Int)) - (ys.getD i 0 : Int)) + (10000 : Int)) q6) (.a5 r1 v8 q7 q8 (wI ((i : Int) + (1 : Int)) ((i + 1 : Nat) : Int) q9)))) (t := T293) (σ := slots 41 [(0, .list 1 (d64 xs)), (1, .list 1 (d64 ys)), (5, .own 0 1 0 1), (6, .i6 (1 : Int)), (7, .i6 ((i + 1 : Nat) : Int))]) (h := [some ⟨3, 1, true, [[.i6 (((((xs.getD i 0 : Nat) : Int) - (c : Int)) - (ys.getD i 0 : Int)) + (10000 : Int))]], none⟩]) ?_
         rw [E0 rfl _ (xs.getD i 0 + 10000 - c - ys.getD i 0) (by omega)]; exact hN2
       | cons d ds =>
         refine have_ (p := (i < xs.length) /\ ((i : Int) < ((d64 xs).length : Int)) /\ (-9223372036854775808 <= (xs.getD i 0 : Int) - (c : Int) /\ (xs.getD i 0 : Int) - (c : Int) <= 9223372036854775807) /\ (i < ys.length) /\ ((i : Int) < ((d64 ys).length : Int)) /\ (-9223372036854775808 <= (((xs.getD i 0 : Nat) : Int) - (c : Int)) - (ys.getD i 0 : Int) /\ (((xs.getD i 0 : Nat) : Int) - (c : Int)) - (ys.getD i 0 : Int) <= 9223372036854775807) /\ (-9223372036854775808 <= (((xs.getD i 0 : Int) - (c : Int)) - (ys.getD i 0 : Int)) + (10000 : Int) /\ (((xs.getD i 0 : Int) - (c : Int)) - (ys.getD i 0 : Int)) + (10000 : Int) <= 9223372036854775807) /\ ((ds.length + 1) = (d64 (d :: ds)).length) /\ (((ds.length + 1) + 1) * 8 <= 140737488355328) /\ ((ds.length + 1) + 1 <= big) /\ (-9223372036854775808 <= (i : Int) + (1 : Int) /\ (i : Int) + (1 : Int) <= 9223372036854775807)) (by simp only [d64_length, List.length_cons, true_and] at hd ⊢; unfold big; omega) fun ⟨q0, q1, q2, q3, q4, q5, q6, q7, q8, q9, q10⟩ => gR KT293_ok none [0, 1, 4, 5, 6, 7] [2] [(12, tt), (17, .cptr [.i6 (xs.getD i 0 : Int)] 0), (20, .i6 (((xs.getD i 0 : Nat) : Int) - (c : Int))), (24, tt), (28, .cptr [.i6 (ys.getD i 0 : Int)] 0), (30, .i6 (((xs.getD i 0 : Int) - (c : Int)) - (ys.getD i 0 : Int))), (32, tt), (34, .i6 (((((xs.getD i 0 : Nat) : Int) - (c : Int)) - (ys.getD i 0 : Int)) + (10000 : Int))), (14, .i6 ((i + 1 : Nat) : Int))] (.c6 (iT v0) (Ref.cd64 q0) (nn i) q1 (wI (((xs.getD i 0 : Nat) : Int) - (c : Int)) (((xs.getD i 0 : Nat) : Int) - (c : Int)) q2) (iT v2) (.c6 (Ref.cd64 q3) (nn i) q4 (wI (((xs.getD i 0 : Int) - (c : Int)) - (ys.getD i 0 : Int)) (((xs.getD i 0 : Int) - (c : Int)) - (ys.getD i 0 : Int)) q5) (iT v4) (wI (((((xs.getD i 0 : Nat) : Int) - (c : Int)) - (ys.getD i 0 : Int)) + (10000 : Int)) (((((xs.getD i 0 : Nat) : Int) - (c : Int)) - (ys.getD i 0 : Int)) + (10000 : Int)) q6) (.a5 r1 q7 q8 q9 (wI ((i : Int) + (1 : Int)) ((i + 1 : Nat) : Int) q10)))) (t := T293) (σ := slots 41 [(0, .list 1 (d64 xs)), (1, .list 1 (d64 ys)), (5, .own 0 1 0 ((ds.length + 1) + 1)), (6, .i6 (1 : Int)), (7, .i6 ((i + 1 : Nat) : Int))]) (h := [some ⟨3, 1, true, ((d64 (d :: ds)) ++ [[(AV.int .i64 (((((xs.getD i 0 : Nat) : Int) - (c : Int)) - (ys.getD i 0 : Int)) + (10000 : Int)))]]), none⟩]) ?_
         rw [E _ (xs.getD i 0 + 10000 - c - ys.getD i 0) (by omega)]; exact hN2
     · have hN2 := nx (xs.getD i 0 - c - ys.getD i 0) 0 _ rfl (by omega) (by omega) (by rw [fb]; omega)
       have v3 : ¬ (((((xs.getD i 0 : Nat) : Int) - (c : Int)) - (ys.getD i 0 : Int)) < (0 : Int)) := by omega
       cases ds with
       | nil =>
         refine have_ (p := (i < xs.length) /\ ((i : Int) < ((d64 xs).length : Int)) /\ (-9223372036854775808 <= (xs.getD i 0 : Int) - (c : Int) /\ (xs.getD i 0 : Int) - (c : Int) <= 9223372036854775807) /\ (i < ys.length) /\ ((i : Int) < ((d64 ys).length : Int)) /\ (-9223372036854775808 <= (((xs.getD i 0 : Nat) : Int) - (c : Int)) - (ys.getD i 0 : Int) /\ (((xs.getD i 0 : Nat) : Int) - (c : Int)) - (ys.getD i 0 : Int) <= 9223372036854775807) /\ (1 * 8 <= 140737488355328) /\ (1 <= big) /\ (-9223372036854775808 <= (i : Int) + (1 : Int) /\ (i : Int) + (1 : Int) <= 9223372036854775807)) (by simp only [d64_length]; unfold big; omega) fun ⟨q0, q1, q2, q3, q4, q5, q6, q7, q8⟩ => gR KT293_ok none [0, 1, 4, 5, 6, 7] [1] [(12, tt), (17, .cptr [.i6 (xs.getD i 0 : Int)] 0), (20, .i6 (((xs.getD i 0 : Nat) : Int) - (c : Int))), (24, tt), (28, .cptr [.i6 (ys.getD i 0 : Int)] 0), (30, .i6 (((xs.getD i 0 : Int) - (c : Int)) - (ys.getD i 0 : Int))), (32, ff), (14, .i6 ((i + 1 : Nat) : Int))] (.c6 (iT v0) (Ref.cd64 q0) (nn i) q1 (wI (((xs.getD i 0 : Nat) : Int) - (c : Int)) (((xs.getD i 0 : Nat) : Int) - (c : Int)) q2) (iT v2) (.c6 (Ref.cd64 q3) (nn i) q4 (wI (((xs.getD i 0 : Int) - (c : Int)) - (ys.getD i 0 : Int)) (((xs.getD i 0 : Int) - (c : Int)) - (ys.getD i 0 : Int)) q5) (iF v3) r1 (.a4 v8 q6 q7 (wI ((i : Int) + (1 : Int)) ((i + 1 : Nat) : Int) q8)))) (t := T293) (σ := slots 41 [(0, .list 1 (d64 xs)), (1, .list 1 (d64 ys)), (5, .own 0 1 0 1), (6, .i6 (0 : Int)), (7, .i6 ((i + 1 : Nat) : Int))]) (h := [some ⟨3, 1, true, [[.i6 (((xs.getD i 0 : Int) - (c : Int)) - (ys.getD i 0 : Int))]], none⟩]) ?_
         rw [E0 rfl _ (xs.getD i 0 - c - ys.getD i 0) (by omega)]; exact hN2
       | cons d ds =>
         refine have_ (p := (i < xs.length) /\ ((i : Int) < ((d64 xs).length : Int)) /\ (-9223372036854775808 <= (xs.getD i 0 : Int) - (c : Int) /\ (xs.getD i 0 : Int) - (c : Int) <= 9223372036854775807) /\ (i < ys.length) /\ ((i : Int) < ((d64 ys).length : Int)) /\ (-9223372036854775808 <= (((xs.getD i 0 : Nat) : Int) - (c : Int)) - (ys.getD i 0 : Int) /\ (((xs.getD i 0 : Nat) : Int) - (c : Int)) - (ys.getD i 0 : Int) <= 9223372036854775807) /\ ((ds.length + 1) = (d64 (d :: ds)).length) /\ (((ds.length + 1) + 1) * 8 <= 140737488355328) /\ ((ds.length + 1) + 1 <= big) /\ (-9223372036854775808 <= (i : Int) + (1 : Int) /\ (i : Int) + (1 : Int) <= 9223372036854775807)) (by simp only [d64_length, List.length_cons, true_and] at hd ⊢; unfold big; omega) fun ⟨q0, q1, q2, q3, q4, q5, q6, q7, q8, q9⟩ => gR KT293_ok none [0, 1, 4, 5, 6, 7] [2] [(12, tt), (17, .cptr [.i6 (xs.getD i 0 : Int)] 0), (20, .i6 (((xs.getD i 0 : Nat) : Int) - (c : Int))), (24, tt), (28, .cptr [.i6 (ys.getD i 0 : Int)] 0), (30, .i6 (((xs.getD i 0 : Int) - (c : Int)) - (ys.getD i 0 : Int))), (32, ff), (14, .i6 ((i + 1 : Nat) : Int))] (.c6 (iT v0) (Ref.cd64 q0) (nn i) q1 (wI (((xs.getD i 0 : Nat) : Int) - (c : Int)) (((xs.getD i 0 : Nat) : Int) - (c : Int)) q2) (iT v2) (.c6 (Ref.cd64 q3) (nn i) q4 (wI (((xs.getD i 0 : Int) - (c : Int)) - (ys.getD i 0 : Int)) (((xs.getD i 0 : Int) - (c : Int)) - (ys.getD i 0 : Int)) q5) (iF v3) r1 (.a4 q6 q7 q8 (wI ((i : Int) + (1 : Int)) ((i + 1 : Nat) : Int) q9)))) (t := T293) (σ := slots 41 [(0, .list 1 (d64 xs)), (1, .list 1 (d64 ys)), (5, .own 0 1 0 ((ds.length + 1) + 1)), (6, .i6 (0 : Int)), (7, .i6 ((i + 1 : Nat) : Int))]) (h := [some ⟨3, 1, true, ((d64 (d :: ds)) ++ [[(AV.int .i64 (((xs.getD i 0 : Int) - (c : Int)) - (ys.getD i 0 : Int)))]]), none⟩]) ?_
         rw [E _ (xs.getD i 0 - c - ys.getD i 0) (by omega)]; exact hN2
   · have hz : 0 = ys.getD i 0 := by simp [gdE, Nat.le_of_not_lt hyl]
     have v1 : ¬ ((i : Int) < ((d64 ys).length : Int)) := by rw [d64_length]; omega
     by_cases hneg : xs.getD i 0 < c
     · have hN2 := nx (xs.getD i 0 + 10000 - c) 1 0 hz (by omega) (by omega) (by rw [fb]; omega)
       have v6 : (((xs.getD i 0 : Nat) : Int) - (c : Int)) < (0 : Int) := by omega
       cases ds with
       | nil =>
         refine have_ (p := (i < xs.length) /\ ((i : Int) < ((d64 xs).length : Int)) /\ (-9223372036854775808 <= (xs.getD i 0 : Int) - (c : Int) /\ (xs.getD i 0 : Int) - (c : Int) <= 9223372036854775807) /\ (-9223372036854775808 <= (((xs.getD i 0 : Nat) : Int) - (c : Int)) + (10000 : Int) /\ (((xs.getD i 0 : Nat) : Int) - (c : Int)) + (10000 : Int) <= 9223372036854775807) /\ (1 * 8 <= 140737488355328) /\ (1 <= big) /\ (-9223372036854775808 <= (i : Int) + (1 : Int) /\ (i : Int) + (1 : Int) <= 9223372036854775807)) (by simp only [d64_length]; unfold big; omega) fun ⟨q0, q1, q2, q3, q4, q5, q6⟩ => gR KT293_ok none [0, 1, 4, 5, 6, 7] [1] [(12, tt), (17, .cptr [.i6 (xs.getD i 0 : Int)] 0), (20, .i6 (((xs.getD i 0 : Nat) : Int) - (c : Int))), (24, ff), (32, tt), (34, .i6 (((xs.getD i 0 : Int) - (c : Int)) + (10000 : Int))), (14, .i6 ((i + 1 : Nat) : Int))] (.c6 (iT v0) (Ref.cd64 q0) (nn i) q1 (wI (((xs.getD i 0 : Nat) : Int) - (c : Int)) (((xs.getD i 0 : Nat) : Int) - (c : Int)) q2) (iF v1) (.c6 (iT v6) (wI (((xs.getD i 0 : Int) - (c : Int)) + (10000 : Int)) (((xs.getD i 0 : Int) - (c : Int)) + (10000 : Int)) q3) r1 v8 q4 q5 (.a1 (wI ((i : Int) + (1 : Int)) ((i + 1 : Nat) : Int) q6)))) (t := T293) (σ := slots 41 [(0, .list 1 (d64 xs)), (1, .list 1 (d64 ys)), (5, .own 0 1 0 1), (6, .i6 (1 : Int)), (7, .i6 ((i + 1 : Nat) : Int))]) (h := [some ⟨3, 1, true, [[.i6 (((xs.getD i 0 : Int) - (c : Int)) + (10000 : Int))]], none⟩]) ?_
         rw [E0 rfl _ (xs.getD i 0 + 10000 - c) (by omega)]; exact hN2
       | cons d ds =>
         refine have_ (p := (i < xs.length) /\ ((i : Int) < ((d64 xs).length : Int)) /\ (-9223372036854775808 <= (xs.getD i 0 : Int) - (c : Int) /\ (xs.getD i 0 : Int) - (c : Int) <= 9223372036854775807) /\ (-9223372036854775808 <= (((xs.getD i 0 : Nat) : Int) - (c : Int)) + (10000 : Int) /\ (((xs.getD i 0 : Nat) : Int) - (c : Int)) + (10000 : Int) <= 9223372036854775807) /\ ((ds.length + 1) = (d64 (d :: ds)).length) /\ (((ds.length + 1) + 1) * 8 <= 140737488355328) /\ ((ds.length + 1) + 1 <= big) /\ (-9223372036854775808 <= (i : Int) + (1 : Int) /\ (i : Int) + (1 : Int) <= 9223372036854775807)) (by simp only [d64_length, List.length_cons, true_and] at hd ⊢; unfold big; omega) fun ⟨q0, q1, q2, q3, q4, q5, q6, q7⟩ => gR KT293_ok none [0, 1, 4, 5, 6, 7] [2] [(12, tt), (17, .cptr [.i6 (xs.getD i 0 : Int)] 0), (20, .i6 (((xs.getD i 0 : Nat) : Int) - (c : Int))), (24, ff), (32, tt), (34, .i6 (((xs.getD i 0 : Int) - (c : Int)) + (10000 : Int))), (14, .i6 ((i + 1 : Nat) : Int))] (.c6 (iT v0) (Ref.cd64 q0) (nn i) q1 (wI (((xs.getD i 0 : Nat) : Int) - (c : Int)) (((xs.getD i 0 : Nat) : Int) - (c : Int)) q2) (iF v1) (.c6 (iT v6) (wI (((xs.getD i 0 : Int) - (c : Int)) + (10000 : Int)) (((xs.getD i 0 : Int) - (c : Int)) + (10000 : Int)) q3) r1 q4 q5 q6 (.a1 (wI ((i : Int) + (1 : Int)) ((i + 1 : Nat) : Int) q7)))) (t := T293) (σ := slots 41 [(0, .list 1 (d64 xs)), (1, .list 1 (d64 ys)), (5, .own 0 1 0 ((ds.length + 1) + 1)), (6, .i6 (1 : Int)), (7, .i6 ((i + 1 : Nat) : Int))]) (h := [some ⟨3, 1, true, ((d64 (d :: ds)) ++ [[(AV.int .i64 (((xs.getD i 0 : Int) - (c : Int)) + (10000 : Int)))]]), none⟩]) ?_
         rw [E _ (xs.getD i 0 + 10000 - c) (by omega)]; exact hN2
     · have hN2 := nx (xs.getD i 0 - c) 0 0 hz (by omega) (by omega) (by rw [fb]; omega)
       have v7 : ¬ (((xs.getD i 0 : Int) - (c : Int)) < (0 : Int)) := by omega
       cases ds with
       | nil =>
         refine have_ (p := (i < xs.length) /\ ((i : Int) < ((d64 xs).length : Int)) /\ (-9223372036854775808 <= (xs.getD i 0 : Int) - (c : Int) /\ (xs.getD i 0 : Int) - (c : Int) <= 9223372036854775807) /\ (1 * 8 <= 140737488355328) /\ (1 <= big) /\ (-9223372036854775808 <= (i : Int) + (1 : Int) /\ (i : Int) + (1 : Int) <= 9223372036854775807)) (by simp only [d64_length]; unfold big; omega) fun ⟨q0, q1, q2, q3, q4, q5⟩ => gR KT293_ok none [0, 1, 4, 5, 6, 7] [1] [(12, tt), (17, .cptr [.i6 (xs.getD i 0 : Int)] 0), (20, .i6 (((xs.getD i 0 : Nat) : Int) - (c : Int))), (24, ff), (32, ff), (14, .i6 ((i + 1 : Nat) : Int))] (.c6 (iT v0) (Ref.cd64 q0) (nn i) q1 (wI (((xs.getD i 0 : Nat) : Int) - (c : Int)) (((xs.getD i 0 : Nat) : Int) - (c : Int)) q2) (iF v1) (.a6 (iF v7) r1 v8 q3 q4 (wI ((i : Int) + (1 : Int)) ((i + 1 : Nat) : Int) q5))) (t := T293) (σ := slots 41 [(0, .list 1 (d64 xs)), (1, .list 1 (d64 ys)), (5, .own 0 1 0 1), (6, .i6 (0 : Int)), (7, .i6 ((i + 1 : Nat) : Int))]) (h := [some ⟨3, 1, true, [[.i6 (((xs.getD i 0 : Nat) : Int) - (c : Int))]], none⟩]) ?_
         rw [E0 rfl _ (xs.getD i 0 - c) (by omega)]; exact hN2
       | cons d ds =>
         refine have_ (p := (i < xs.length) /\ ((i : Int) < ((d64 xs).length : Int)) /\ (-9223372036854775808 <= (xs.getD i 0 : Int) - (c : Int) /\ (xs.getD i 0 : Int) - (c : Int) <= 9223372036854775807) /\ ((ds.length + 1) = (d64 (d :: ds)).length) /\ (((ds.length + 1) + 1) * 8 <= 140737488355328) /\ ((ds.length + 1) + 1 <= big) /\ (-9223372036854775808 <= (i : Int) + (1 : Int) /\ (i : Int) + (1 : Int) <= 9223372036854775807)) (by simp only [d64_length, List.length_cons, true_and] at hd ⊢; unfold big; omega) fun ⟨q0, q1, q2, q3, q4, q5, q6⟩ => gR KT293_ok none [0, 1, 4, 5, 6, 7] [2] [(12, tt), (17, .cptr [.i6 (xs.getD i 0 : Int)] 0), (20, .i6 (((xs.getD i 0 : Nat) : Int) - (c : Int))), (24, ff), (32, ff), (14, .i6 ((i + 1 : Nat) : Int))] (.c6 (iT v0) (Ref.cd64 q0) (nn i) q1 (wI (((xs.getD i 0 : Nat) : Int) - (c : Int)) (((xs.getD i 0 : Nat) : Int) - (c : Int)) q2) (iF v1) (.a6 (iF v7) r1 q3 q4 q5 (wI ((i : Int) + (1 : Int)) ((i + 1 : Nat) : Int) q6))) (t := T293) (σ := slots 41 [(0, .list 1 (d64 xs)), (1, .list 1 (d64 ys)), (5, .own 0 1 0 ((ds.length + 1) + 1)), (6, .i6 (0 : Int)), (7, .i6 ((i + 1 : Nat) : Int))]) (h := [some ⟨3, 1, true, ((d64 (d :: ds)) ++ [[(AV.int .i64 (((xs.getD i 0 : Nat) : Int) - (c : Int)))]]), none⟩]) ?_
         rw [E _ (xs.getD i 0 - c) (by omega)]; exact hN2
theorem a293 : Ctr 293 k293 := fun args r ob h ho => by
 unfold k293 at h
 split at h
 · rename_i n B m C
   cases h; have hmn : m <= n := ho _ (by simp); have hL : B <= LIM := ho _ (by simp); unfold LIM at hL; obtain ⟨hx, hxn⟩ := digits_spec (b := b10k) (by decide) n; obtain ⟨hy, hyn⟩ := digits_spec (b := b10k) (by decide) m; refine af Tryz.f293 fun S w0 => ?_
   refine Good.fact (V := .dig n B) (p := n < 2 ^ B) 0 rfl rfl (fun ρ S w D v hv => dig_inv (show RelCs ρ S w D [.dig n B] [v] from hv)) fun hn => ?_
   refine Good.weak 41 [(0, .list 1 (d64 (digits b10k n))), (1, .list 1 (d64 (digits b10k m)))] (by kernel_rfl) (.cons Ref.opnd (.cons Ref.opnd .nil)) ?_; have l1 := hx.len10 (by rw [hxn]; exact hn); generalize digits b10k n = xs at *; generalize digits b10k m = ys at *; subst hxn; subst hyn
   have hlen : ys.length <= xs.length := by
     rcases Nat.lt_or_ge xs.length ys.length with h | h
     · have := dval_lt_of_len (by decide) hx hy h; omega
     · exact h
   refine gN KT293_ok [0, 1, 4, 5, 6, 7] [] .nil (t := T293) (σ := slots 41 [(0, .list 1 (d64 xs)), (1, .list 1 (d64 ys)), (4, .nil), (5, .nil), (6, .i6 (0 : Int)), (7, .i6 (0 : Int))]) (h := []) ?_
   refine Good.weak 41 [(0, _), (1, _), (5, _), (6, _), (7, _)] (by kernel_rfl) (.r (.r (.r (.r (.r .nil))))) ?_; exact loop293 hx.1 hy.1 hlen (by unfold LIM; omega) (by omega) (by omega) _ 0 0 [] rfl (by omega) (by omega) rfl (by simp) (by simp [dval])
 · cases h
end
def KT297_ok := kn
def k297 : KF
 | [.list 1 X, .int .i64 f] => some (.int .i64 ((dval b10k ((un64 X).drop f.toNat) : Nat) : Int), [0 <= f, X = d64 (un64 X), ∀ x ∈ un64 X, x < b10k, f.toNat <= (un64 X).length, (un64 X).length <= f.toNat + 4])
 | _ => none
section
variable {S : Nat -> Prop} {w0 : World}
noncomputable abbrev T297 : List Item := [.code (nav [1, 1, 0, 1, 0, 0] (bodyOf Tryz.f297)), .inLoop (nav [1, 1, 0, 1, 0, 0] (bodyOf Tryz.f297)), .inBlock 0, .code (nav [1, 1, 1] (bodyOf Tryz.f297))]
theorem loop297 {xs : List Nat} {f : Nat} (hx : ∀ x ∈ xs, x < b10k) (hf : f <= xs.length) (hl : xs.length <= f + 4) (hb : xs.length <= big) : ∀ (j k v : Nat), k = f + j -> k <= xs.length -> v = dval b10k (xs.drop k) ->
   GF 297 S w0 (.i6 ((dval b10k (xs.drop f) : Nat) : Int)) T297 ⟨slots 23 [(0, .list 1 (d64 xs)), (1, .i6 ((f : Nat) : Int)), (5, .i6 ((v : Nat) : Int)), (6, (.i6 (((k : Nat) : Int) - 1)))], []⟩ := by
 unfold big at hb; intro j
 induction j with
 | zero =>
   intro k v hj hk hv; have hk : k = f := by omega
   subst hk; refine rF KT297_ok [(12, ff)] (.a1 (iF (om (¬ ((k : Int) <= ((k : Int) - 1)))))) (V := .i6 (v : Int)) (Ref.nat_eq hv)
 | succ j ih =>
   intro k v hj hk hv; obtain ⟨i, rfl⟩ : ∃ i, k = i + 1 := ⟨k - 1, by omega⟩; rw [show (((i + 1 : Nat) : Int) - 1) = ((i : Nat) : Int) by omega]; have hx1 := getD_lt (b := b10k) (by decide) hx i
   have hv3 : v < 1000000000000 := by
     have h1 := dval_lt (b := b10k) (by decide) (xs := xs.drop (i + 1)) (fun x h => hx x (List.mem_of_mem_drop h)); have h2 : b10k ^ (xs.drop (i + 1)).length <= b10k ^ 3 := Nat.pow_le_pow_right (by decide) (by rw [List.length_drop]; omega); have h3 : b10k ^ 3 = 1000000000000 := by decide
     omega
   unfold b10k at hx1; refine gN KT297_ok [0, 1, 4, 5, 6] [(12, tt), (16, .i6 ((v * 10000 : Nat) : Int)), (19, .cptr [.i6 (xs.getD i 0 : Int)] 0), (21, .i6 ((xs.getD i 0 + 10000 * v : Nat) : Int)), (14, .i6 ((i : Int) - (1 : Int)))] (.c6 (iT (om ((f : Int) <= (i : Int)))) (wI ((v : Int) * (10000 : Int)) ((v * 10000 : Nat) : Int)) (show Ref (.cptr ((d64 xs).getD i []) 0) (.cptr [.i6 (xs.getD i 0 : Int)] 0) from Ref.cd64 ((om (i < xs.length)))) (nn i) (show (i : Int) < ((d64 xs).length : Int) by rw [d64_length]; omega) (show Ref (.i6 (IntKind.i64.wrap (((v * 10000 : Nat) : Int) + (xs.getD i 0 : Int)))) (.i6 ((xs.getD i 0 + 10000 * v : Nat) : Int)) from Ref.wrI (by omega) (by omega)) (.a1 (wI ((i : Int) - (1 : Int)) ((i : Int) - (1 : Int))))) (t := T297) (σ := slots 23 [(0, .list 1 (d64 xs)), (1, .i6 (f : Int)), (5, .i6 ((xs.getD i 0 + 10000 * v : Nat) : Int)), (6, .i6 ((i : Int) - (1 : Int)))]) (h := []) ?_
   refine ih i _ (by omega) (by omega) ?_; rw [dval_drop_succ (by omega : i < xs.length), hv]; rfl
theorem a297 : Ctr 297 k297 := fun args r ob h ho => by
 unfold k297 at h
 split at h
 · rename_i X f
   cases h; have h0 : 0 <= f := ho _ (by simp); have h1 : X = d64 (un64 X) := ho _ (by simp); have h2 : ∀ x ∈ un64 X, x < b10k := ho _ (by simp); have h3 : f.toNat <= (un64 X).length := ho _ (by simp); have h4 : (un64 X).length <= f.toNat + 4 := ho _ (by simp); obtain ⟨f, rfl⟩ := Int.eq_ofNat_of_zero_le h0; replace h3 : f <= (un64 X).length := h3; replace h4 : (un64 X).length <= f + 4 := h4; generalize un64 X = xs at *; subst h1; refine af Tryz.f297 fun S w0 => ?_
   show Good _ _ _ _ _ (PostF S w0 (.i6 ((dval b10k (xs.drop f) : Nat) : Int))) _ _; have e : st0 [AV.list 1 (d64 xs), .i6 ((f : Nat) : Int)] Tryz.f297.ntmps = ⟨slots 23 [(0, .list 1 (d64 xs)), (1, .i6 ((f : Nat) : Int))], []⟩ := by kernel_rfl
   rw [e]; refine Good.len 0 (e := 1) (xs := d64 xs) (by rfl) fun hb => ?_
   rw [d64_length] at hb; refine gN KT297_ok [0, 1, 4, 5, 6] [(9, .i6 ((((d64 xs).length : Nat) : Int) - (1 : Int)))] (.a1 (wI ((((d64 xs).length : Nat) : Int) - (1 : Int)) ((((d64 xs).length : Nat) : Int) - (1 : Int)) (by rw [d64_length]; unfold big at hb; omega))) (t := T297) (σ := slots 23 [(0, .list 1 (d64 xs)), (1, .i6 (f : Int)), (4, .i6 (0 : Int)), (5, .i6 (0 : Int)), (6, (.i6 ((((d64 xs).length : Nat) : Int) - (1 : Int))))]) (h := []) ?_
   refine Good.weak 23 [(0, _), (1, _), (5, _), (6, _)] (by kernel_rfl) (.r (.r (.r (.r .nil)))) ?_; rw [d64_length]; exact loop297 h2 h3 h4 hb (xs.length - f) xs.length 0 (by omega) (by omega) (by rw [List.drop_length]; rfl)
 · cases h
end
def KT260_ok := (((((kn.cons a297).cons a293).cons a272).cons a223).cons a221).cons a201
def k260 : KF
 | [.dig n B, .dig m C] => some (.tup [.dig (n / m) B, .dig (n % m) C], [0 < m, B + C + 300 <= LIM])
 | _ => none
theorem row260 (x : Nat) (rs : List Nat) : (([[(AV.int .i64 ((x : Nat) : Int))]] ++ (d64 rs)).drop 0).take (1 + ((d64 rs).length)) = d64 (x :: rs) := by
 rw [List.drop_zero, tkE (by simp; omega)]; rfl
theorem guess_low {t m A Bv P K : Nat} (hA : A * P <= t) (hm : m < (Bv + 1) * P) (hK : K = A / (Bv + 1)) : m * K <= t := by
 have h1 : K * (Bv + 1) <= A := by rw [hK]; exact Nat.div_mul_le_self _ _
 have h2 := Nat.mul_le_mul_right P h1; have h3 : m * K <= (Bv + 1) * P * K := Nat.mul_le_mul_right K (Nat.le_of_lt hm); have e : (Bv + 1) * P * K = K * (Bv + 1) * P := by rw [Nat.mul_comm _ K, Nat.mul_assoc]
 omega
section
variable {S : Nat -> Prop} {w0 : World}
noncomputable abbrev T260 : List Item := [.code (nav [1, 1, 1, 0, 1, 0, 0] (bodyOf Tryz.f260)), .inLoop (nav [1, 1, 1, 0, 1, 0, 0] (bodyOf Tryz.f260)), .inBlock 0, .code (nav [1, 1, 1, 1] (bodyOf Tryz.f260))]
noncomputable abbrev T260i : List Item := [.code (nav [1, 1, 1, 0, 1, 0, 0, 1, 0, 0, 1, 1, 1, 1, 0, 0, 0] (bodyOf Tryz.f260)), .inLoop (nav [1, 1, 1, 0, 1, 0, 0, 1, 0, 0, 1, 1, 1, 1, 0, 0, 0] (bodyOf Tryz.f260)), .inBlock 2, .code (nav [1, 1, 1, 0, 1, 0, 0, 1, 0, 0, 1, 1, 1, 1, 1] (bodyOf Tryz.f260)), .inBlock 1, .code (nav [1, 1, 1, 0, 1, 0, 0, 1, 1] (bodyOf Tryz.f260)), .inLoop (nav [1, 1, 1, 0, 1, 0, 0] (bodyOf Tryz.f260)), .inBlock 0, .code (nav [1, 1, 1, 1] (bodyOf Tryz.f260))]
variable {Post : Value -> World -> Prop}
theorem inner260 {xs ys qs : List Nat} {t m C F l j : Nat} (hy : Dig b10k ys) (hym : dval b10k ys = m) (hm : m < 2 ^ C) (hm0 : 0 < m) (ht : t < 10000 * m) (hF : F <= LIM) (hl : l = qs.length) (hj : j < l) (hlL : l <= LIM)
   (next : Good Tryz.prog 260 S No w0 Post T260 ⟨slots 76 [(0, .list 1 (d64 xs)), (1, .list 1 (d64 ys)), (6, .dig (t % m) C), (7, .own 0 1 0 l), (8, (.i6 (((j : Nat) : Int) - (1 : Int))))], [some ⟨3, 1, true, (d64 (qs.set j (t / m))), none⟩]⟩) :
   ∀ (f r k : Nat), r <= f -> t = k * m + r ->
   Good Tryz.prog 260 S No w0 Post T260i ⟨slots 76 [(0, .list 1 (d64 xs)), (1, .list 1 (d64 ys)), (6, .dig r F), (7, .own 0 1 0 l), (8, .i6 ((j : Nat) : Int)), (9, .i6 ((k : Nat) : Int))], [some ⟨3, 1, true, (d64 qs), none⟩]⟩ := by
 unfold LIM at hlL; have v0 : Ref (.list 1 (d64 ys)) (.dig m C) := Ref.dig hy hym hm
 have last : ∀ r k, r < m -> t = k * m + r -> Good Tryz.prog 260 S No w0 Post T260i ⟨slots 76 [(0, .list 1 (d64 xs)), (1, .list 1 (d64 ys)), (6, .dig r F), (7, .own 0 1 0 l), (8, .i6 ((j : Nat) : Int)), (9, .i6 ((k : Nat) : Int))], [some ⟨3, 1, true, (d64 qs), none⟩]⟩ := by
   intro r k hr he; obtain ⟨q1, q2⟩ := div_val he hr; refine gR KT260_ok none [0, 1, 4, 5, 6, 7, 8, 9] [0] [(61, .dig m C), (63, ff), (19, .i6 ((j : Int) - (1 : Int)))] (.a6 v0 (show Ref (.bool (decide ((0 : Int) <= (cmpN r m)))) (.bool false) from Ref.bool (decide_eq_false (fun h => by have := cmpN_nonneg.1 h; omega))) (nn j) (om ((j : Int) < (l : Int))) (show 0 + j < (d64 qs).length by rw [d64_length]; omega) (wI ((j : Int) - (1 : Int)) ((j : Int) - (1 : Int)))) (t := T260) (σ := slots 76 [(0, .list 1 (d64 xs)), (1, .list 1 (d64 ys)), (6, .dig r F), (7, .own 0 1 0 l), (8, .i6 ((j : Int) - (1 : Int))), (9, .i6 (k : Int))]) (h := [some ⟨3, 1, true, ((d64 qs).set (0 + j) [.i6 (k : Int)]), none⟩]) ?_
   rw [d64_set, Nat.zero_add, <- q1]; refine Good.weak 76 [(0, _), (1, _), (6, .dig (t % m) C), (7, _), (8, _)] (by kernel_rfl) (.r (.r (.cons ?_ (.r (.r .nil))))) next; rw [q2]; exact Ref.digB (by omega)
 intro f
 induction f with
 | zero =>
   intro r k hf he; exact last r k (by omega) he
 | succ f ih =>
   intro r k hf he
   by_cases h : r < m
   · exact last r k h he
   · have hk : k < 10000 := by
       rcases Nat.lt_or_ge k 10000 with h | h
       · exact h
       · have := Nat.mul_le_mul_right m h; omega
     exact gR KT260_ok none [0, 1, 4, 5, 6, 7, 8, 9] [0] [(61, .dig m C), (63, tt), (65, .dig m C), (68, .i6 ((k + 1 : Nat) : Int))] (.a6 v0 (show Ref (.bool (decide ((0 : Int) <= (cmpN r m)))) (.bool true) from Ref.bool (decide_eq_true (cmpN_nonneg.2 (by omega)))) v0 (om (m <= r)) hF (wI ((k : Int) + (1 : Int)) ((k + 1 : Nat) : Int))) (ih (r - m) (k + 1) (by omega) (by rw [Nat.add_mul, Nat.one_mul]; omega))
theorem loop260 {xs ys : List Nat} {m B C : Nat} (hx : ∀ x ∈ xs, x < b10k) (hy : Dig b10k ys) (hym : dval b10k ys = m) (hm : m < 2 ^ C) (hm0 : 0 < m) (hL : B + C + 300 <= LIM) (hxl : 13 * xs.length <= B + 12) (hn : dval b10k xs < 2 ^ B) :
   ∀ (k r : Nat) (qs : List Nat), k <= xs.length -> r < m -> qs.length = xs.length -> (∀ x ∈ qs, x < b10k) -> dval b10k (xs.drop k) = dval b10k (qs.drop k) * m + r ->
   GF 260 S w0 (.tup [.dig (dval b10k xs / m) B, .dig (dval b10k xs % m) C]) T260 ⟨slots 76 [(0, .list 1 (d64 xs)), (1, .list 1 (d64 ys)), (6, .dig r C), (7, .own 0 1 0 xs.length), (8, (.i6 (((k : Nat) : Int) - (1 : Int))))], [some ⟨3, 1, true, (d64 qs), none⟩]⟩ := by
 have fb : b10k = 10000 := rfl; have hyl := hy.len10 (B := C) (by rw [hym]; exact hm); unfold LIM at hL; intro k
 induction k with
 | zero =>
   intro r qs hk hr hql hqd hinv; rw [show (((0 : Nat) : Int) - (1 : Int)) = -1 from rfl]; simp only [List.drop_zero] at hinv; obtain ⟨q1, q2⟩ := div_val hinv hr; have e0 : ((d64 qs).drop 0).take xs.length = d64 qs := by rw [List.drop_zero, tkE (by rw [d64_length]; omega)]
   refine rF KT260_ok [] (.a3 (show 0 + xs.length <= (d64 qs).length by rw [d64_length]; omega) (show (((d64 qs).drop 0).take xs.length) = d64 (un64 (((d64 qs).drop 0).take xs.length)) by rw [e0, un64_d64]) (show ∀ x ∈ un64 (((d64 qs).drop 0).take xs.length), x < b10k by rw [e0, un64_d64]; exact hqd)) (V := .tup [.dig (dval b10k (un64 (((d64 qs).drop 0).take xs.length))) (14 * (((d64 qs).drop 0).take xs.length).length), AV.dig r C]) ?_
   rw [e0, un64_d64, q1, q2]; refine Ref.tup2 (Ref.digB ?_) rr rfl rfl rfl rfl
   have := Nat.div_le_self (dval b10k xs) m; omega
 | succ j ih =>
   intro r qs hk hr hql hqd hinv; rw [show (((j + 1 : Nat) : Int) - (1 : Int)) = ((j : Nat) : Int) by omega]; have hx1 := getD_lt (b := b10k) (by decide) hx j; obtain ⟨hrd, hrv⟩ := digits_spec (b := b10k) (by decide) r; have hrl := hrd.len10 (B := C) (by rw [hrv]; omega); obtain ⟨t, ht⟩ : ∃ t, t = xs.getD j 0 + 10000 * r := ⟨_, rfl⟩; have htm : t < 10000 * m := by rw [fb] at hx1; omega
   have hval : dval b10k (xs.getD j 0 :: digits b10k r) = t := by rw [dval, hrv, ht, fb]
   have hxr : ∀ x ∈ xs.getD j 0 :: digits b10k r, x < b10k := by
     intro x hx'; rcases List.mem_cons.1 hx' with rfl | h
     · exact hx1
     · exact hrd.1 x h
   obtain ⟨htd, htv⟩ := digits_spec (b := b10k) (by decide) t; have hmlen : m < b10k ^ ys.length := by rw [<- hym]; exact dval_lt (by decide) hy.1
   have htl : (digits b10k t).length <= ys.length + 1 := digits_len_le (by decide) (by rw [Nat.pow_succ, Nat.mul_comm]; exact Nat.lt_of_lt_of_le htm (Nat.mul_le_mul_left 10000 (Nat.le_of_lt hmlen)))
   have htF : t < 2 ^ (C + 14) := by
     rw [Nat.pow_add, Nat.mul_comm]; have : 10000 * m <= 2 ^ 14 * 2 ^ C := Nat.mul_le_mul (by decide) (Nat.le_of_lt hm); omega
   have hys : Ref (AV.list 1 (d64 ys)) (AV.dig m C) := Ref.dig hy hym hm; have hts : Ref (AV.list 1 (d64 (digits b10k t))) (AV.dig t (C + 14)) := Ref.dig htd htv htF
   have hfin := inner260 (S := S) (w0 := w0) (Post := PostF S w0 (.tup [.dig (dval b10k xs / m) B, .dig (dval b10k xs % m) C])) (xs := xs) (qs := qs) (F := C + 14) (l := xs.length) (j := j) hy hym hm hm0 htm (by unfold LIM; omega) hql.symm (by omega) (by unfold LIM; omega)
     (ih (t % m) _ (by omega) (Nat.mod_lt _ hm0) (by simp [hql]) (set_lt hqd (by rw [fb]; rw [Nat.div_lt_iff_lt_mul hm0]; exact htm)) (by
       rw [dval_drop_succ (by omega : j < xs.length), dval_drop_succ (by simp; omega : j < (qs.set j (t / m)).length), set_getD_self (by omega), drop_set_lt (by omega)]; refine short_step hinv ?_
       rw [Nat.div_add_mod, ht, fb]; omega))
   have c4 : ((1 + ((d64 (digits b10k r)).length)) * 8 <= 140737488355328) := by rw [d64_length]; omega
   have c5 : (1 + ((d64 (digits b10k r)).length) <= big) := by rw [d64_length]; unfold big; omega
   have c6 : Ref (AV.dig (dval b10k (un64 ((([[(AV.int .i64 ((xs.getD j 0 : Nat) : Int))]] ++ (d64 (digits b10k r))).drop 0).take (1 + ((d64 (digits b10k r)).length))))) (14 * ((([[(AV.int .i64 ((xs.getD j 0 : Nat) : Int))]] ++ (d64 (digits b10k r))).drop 0).take (1 + ((d64 (digits b10k r)).length))).length)) (AV.list 1 (d64 (digits b10k t))) := by rw [row260, un64_d64, hval]; exact Ref.opnd
   have c7 : (0 + (1 + ((d64 (digits b10k r)).length)) <= ([[(AV.int .i64 ((xs.getD j 0 : Nat) : Int))]] ++ (d64 (digits b10k r))).length) := by simp only [List.length_append, List.length_singleton, Nat.zero_add]; omega
   have c8 : (((([[(AV.int .i64 ((xs.getD j 0 : Nat) : Int))]] ++ (d64 (digits b10k r))).drop 0).take (1 + ((d64 (digits b10k r)).length))) = d64 (un64 ((([[(AV.int .i64 ((xs.getD j 0 : Nat) : Int))]] ++ (d64 (digits b10k r))).drop 0).take (1 + ((d64 (digits b10k r)).length))))) := by rw [row260, un64_d64]
   have c9 : (∀ x ∈ un64 ((([[(AV.int .i64 ((xs.getD j 0 : Nat) : Int))]] ++ (d64 (digits b10k r))).drop 0).take (1 + ((d64 (digits b10k r)).length))), x < b10k) := by rw [row260, un64_d64]; exact hxr
   have d1 : d64 (digits b10k t) = d64 (un64 (d64 (digits b10k t))) := by rw [un64_d64]
   have d2 : ∀ x ∈ un64 (d64 (digits b10k t)), x < b10k := by rw [un64_d64]; exact htd.1
   have d3 : d64 ys = d64 (un64 (d64 ys)) := by rw [un64_d64]
   have d4 : ∀ x ∈ un64 (d64 ys), x < b10k := by rw [un64_d64]; exact hy.1
   have v0 : Ref (.cptr ((d64 xs).getD j []) 0) (.cptr [.i6 (xs.getD j 0 : Int)] 0) := Ref.cd64 ((om (j < xs.length))); have v2 : (j : Int) < ((d64 xs).length : Int) := by rw [d64_length]; omega
   have v3 : Ref (.dig r C) (.list 1 (d64 (digits b10k r))) := Ref.opnd; have v4 : C + 64 + 128 <= LIM := by unfold LIM; omega
   have v6 : (C + 14) <= LIM := by unfold LIM; omega
   have v7 : (0 : Int) <= (j : Int) := by omega
   by_cases h3 : ys.length <= 3
   · have hA : dval b10k ((un64 (d64 (digits b10k t))).drop 0) = t := by rw [un64_d64, List.drop_zero, htv]
     have hBv : dval b10k ((un64 (d64 ys)).drop 0) = m := by rw [un64_d64, List.drop_zero, hym]
     have ht16 : t < 10000000000000000 := by
       have h1 := digits_lt_len (b := b10k) (n := t) (by decide); have h2 : b10k ^ (digits b10k t).length <= b10k ^ 4 := Nat.pow_le_pow_right (by decide) (by omega); have h4 : b10k ^ 4 = 10000000000000000 := by decide
       omega
     have hK : t / m <= t := Nat.div_le_self _ _; refine gR KT260_ok none [0, 1, 4, 5, 6, 7, 8, 9] [0] [(17, tt), (22, .cptr [.i6 (xs.getD j 0 : Int)] 0), (25, .list 1 (d64 (digits b10k r))), (27, .list 1 (d64 (digits b10k t))), (30, tt), (35, .i6 (((dval b10k ((un64 (d64 (digits b10k t))).drop 0)) / (dval b10k ((un64 (d64 ys)).drop 0)) : Nat) : Int)), (53, .dig t (C + 14)), (54, .dig m C)] (.c6 (iT v7) v0 (nn j) v2 v3 r1 (.c6 c4 c5 c6 c7 c8 c9 (.c6 (iT (show ((d64 ys).length : Int) <= (3 : Int) by rw [d64_length]; omega)) (dc (0 <= (0 : Int))) d1 d2 (show 0 <= (un64 (d64 (digits b10k t))).length from Nat.zero_le _) (show (un64 (d64 (digits b10k t))).length <= 0 + 4 by rw [un64_d64]; omega) (.c6 (dc (0 <= (0 : Int))) d3 d4 (show 0 <= (un64 (d64 ys)).length from Nat.zero_le _) (show (un64 (d64 ys)).length <= 0 + 4 by rw [un64_d64]; omega) (show Ref (.i6 (IntKind.i64.wrap (((dval b10k ((un64 (d64 (digits b10k t))).drop 0) : Nat) : Int).tdiv (dval b10k ((un64 (d64 ys)).drop 0) : Int)))) (.i6 (((dval b10k ((un64 (d64 (digits b10k t))).drop 0)) / (dval b10k ((un64 (d64 ys)).drop 0)) : Nat) : Int)) from Ref.quo (a := dval b10k ((un64 (d64 (digits b10k t))).drop 0)) (b := dval b10k ((un64 (d64 ys)).drop 0)) rfl rfl (by decide) ((show (dval b10k ((un64 (d64 (digits b10k t))).drop 0) : Int) <= 9223372036854775807 by rw [hA]; omega))) (.c6 (show (dval b10k ((un64 (d64 ys)).drop 0) : Int) ≠ 0 by rw [hBv]; omega) hts hys (show (-9223372036854775808 : Int) <= (((dval b10k ((un64 (d64 (digits b10k t))).drop 0)) / (dval b10k ((un64 (d64 ys)).drop 0)) : Nat) : Int) from ?_) (show (((dval b10k ((un64 (d64 (digits b10k t))).drop 0)) / (dval b10k ((un64 (d64 ys)).drop 0)) : Nat) : Int) <= (9223372036854775807 : Int) from ?_) v4 (.a2 (show (m * ((dval b10k ((un64 (d64 (digits b10k t))).drop 0)) / (dval b10k ((un64 (d64 ys)).drop 0)))) <= t by rw [hA, hBv]; exact Nat.mul_div_le t m) v6)))))) (t := T260i) (σ := slots 76 [(0, .list 1 (d64 xs)), (1, .list 1 (d64 ys)), (6, (.dig (t - (m * ((dval b10k ((un64 (d64 (digits b10k t))).drop 0)) / (dval b10k ((un64 (d64 ys)).drop 0))))) (C + 14))), (7, .own 0 1 0 xs.length), (8, .i6 (j : Int)), (9, (.i6 (((dval b10k ((un64 (d64 (digits b10k t))).drop 0)) / (dval b10k ((un64 (d64 ys)).drop 0)) : Nat) : Int)))]) (h := [some ⟨3, 1, true, (d64 qs), none⟩]) ?_
     · exact Int.le_trans (by decide) (Int.natCast_nonneg _)
     · rw [hA, hBv]; exact Int.le_trans (Int.ofNat_le.2 hK) (by omega)
     · rw [hA, hBv]
       exact hfin _ _ _ (rl _) (by have := Nat.mul_div_le t m; rw [Nat.mul_comm]; omega)
   · have v5 : ¬ ((((d64 ys).length : Nat) : Int) <= (3 : Int)) := by rw [d64_length]; omega
     by_cases h4 : ys.length <= (digits b10k t).length
     · obtain ⟨w, hw⟩ : ∃ w, ys.length = w + 3 := ⟨ys.length - 3, by omega⟩
       obtain ⟨A, hA⟩ : ∃ A, dval b10k ((un64 (d64 (digits b10k t))).drop w) = A := ⟨_, rfl⟩; obtain ⟨Bv, hBv⟩ : ∃ Bv, dval b10k ((un64 (d64 ys)).drop w) = Bv := ⟨_, rfl⟩; have hA' := hA; have hBv' := hBv; rw [un64_d64] at hA' hBv'; have s1 := dval_split b10k w (digits b10k t); have s2 := dval_split b10k w ys; rw [hA', htv] at s1; rw [hBv', hym] at s2; have s3 := dval_take_lt (b := b10k) (by decide) hy.1 w
       have hA16 : A < 10000000000000000 := by
         have h1 := dval_lt (b := b10k) (by decide) (xs := (digits b10k t).drop w) (fun x h => htd.1 x (List.mem_of_mem_drop h)); have h2 : b10k ^ ((digits b10k t).drop w).length <= b10k ^ 4 := Nat.pow_le_pow_right (by decide) (by rw [List.length_drop]; omega); have h4 : b10k ^ 4 = 10000000000000000 := by decide
         omega
       have hB12 : Bv < 10000000000000000 := by
         have h1 := dval_lt (b := b10k) (by decide) (xs := ys.drop w) (fun x h => hy.1 x (List.mem_of_mem_drop h)); have h2 : b10k ^ (ys.drop w).length <= b10k ^ 4 := Nat.pow_le_pow_right (by decide) (by rw [List.length_drop]; omega); have h4 : b10k ^ 4 = 10000000000000000 := by decide
         omega
       have hlow : m * (A / (Bv + 1)) <= t := guess_low (P := b10k ^ w) (Bv := Bv) (by rw [Nat.mul_comm]; omega) (by rw [Nat.add_mul, Nat.one_mul, Nat.mul_comm Bv]; omega) rfl; have hK : A / (Bv + 1) <= A := Nat.div_le_self _ _; have v1 : Ref (.i6 (IntKind.i64.wrap ((((d64 ys).length : Nat) : Int) - (3 : Int)))) (.i6 (w : Int)) := Ref.wrI (by rw [d64_length]; omega) (by omega); refine gR KT260_ok none [0, 1, 4, 5, 6, 7, 8, 9] [0] [(17, tt), (22, .cptr [.i6 (xs.getD j 0 : Int)] 0), (25, .list 1 (d64 (digits b10k r))), (27, .list 1 (d64 (digits b10k t))), (30, ff), (40, tt), (44, .i6 (w : Int)), (49, .i6 (w : Int)), (51, .i6 ((dval b10k ((un64 (d64 ys)).drop w) + 1 : Nat) : Int)), (52, .i6 (((dval b10k ((un64 (d64 (digits b10k t))).drop w)) / (dval b10k ((un64 (d64 ys)).drop w) + 1) : Nat) : Int)), (53, .dig t (C + 14)), (54, .dig m C)] (.c6 (iT v7) v0 (nn j) v2 v3 r1 (.c6 c4 c5 c6 c7 c8 c9 (.c6 (iF v5) (iT (show ((d64 ys).length : Int) <= ((d64 (digits b10k t)).length : Int) by rw [d64_length, d64_length]; omega)) v1 (nn w) d1 d2 (.c6 (show w <= (un64 (d64 (digits b10k t))).length by rw [un64_d64]; omega) (show (un64 (d64 (digits b10k t))).length <= w + 4 by rw [un64_d64]; omega) v1 (nn w) d3 d4 (.c6 (show w <= (un64 (d64 ys)).length by rw [un64_d64]; omega) (show (un64 (d64 ys)).length <= w + 4 by rw [un64_d64]; omega) (wI (((dval b10k ((un64 (d64 ys)).drop w) : Nat) : Int) + (1 : Int)) ((dval b10k ((un64 (d64 ys)).drop w) + 1 : Nat) : Int) (by rw [hBv]; omega)) (show Ref (.i6 (IntKind.i64.wrap (((dval b10k ((un64 (d64 (digits b10k t))).drop w) : Nat) : Int).tdiv ((dval b10k ((un64 (d64 ys)).drop w) + 1 : Nat) : Int)))) (.i6 (((dval b10k ((un64 (d64 (digits b10k t))).drop w)) / (dval b10k ((un64 (d64 ys)).drop w) + 1) : Nat) : Int)) from Ref.quo (a := dval b10k ((un64 (d64 (digits b10k t))).drop w)) (b := dval b10k ((un64 (d64 ys)).drop w) + 1) rfl rfl (by decide) ((show (dval b10k ((un64 (d64 (digits b10k t))).drop w) : Int) <= 9223372036854775807 by rw [hA]; omega))) (show ((dval b10k ((un64 (d64 ys)).drop w) + 1 : Nat) : Int) ≠ 0 by rw [hBv]; omega) hts (.a6 hys (show (-9223372036854775808 : Int) <= (((dval b10k ((un64 (d64 (digits b10k t))).drop w)) / (dval b10k ((un64 (d64 ys)).drop w) + 1) : Nat) : Int) from ?_) (show (((dval b10k ((un64 (d64 (digits b10k t))).drop w)) / (dval b10k ((un64 (d64 ys)).drop w) + 1) : Nat) : Int) <= (9223372036854775807 : Int) from ?_) v4 (show (m * ((dval b10k ((un64 (d64 (digits b10k t))).drop w)) / (dval b10k ((un64 (d64 ys)).drop w) + 1))) <= t by rw [hA, hBv]; exact hlow) v6)))))) (t := T260i) (σ := slots 76 [(0, .list 1 (d64 xs)), (1, .list 1 (d64 ys)), (6, (.dig (t - (m * ((dval b10k ((un64 (d64 (digits b10k t))).drop w)) / (dval b10k ((un64 (d64 ys)).drop w) + 1)))) (C + 14))), (7, .own 0 1 0 xs.length), (8, .i6 (j : Int)), (9, (.i6 (((dval b10k ((un64 (d64 (digits b10k t))).drop w)) / (dval b10k ((un64 (d64 ys)).drop w) + 1) : Nat) : Int)))]) (h := [some ⟨3, 1, true, (d64 qs), none⟩]) ?_
       · exact Int.le_trans (by decide) (Int.natCast_nonneg _)
       · rw [hA, hBv]; exact Int.le_trans (Int.ofNat_le.2 hK) (by omega)
       · rw [hA, hBv]
         exact hfin _ _ _ (rl _) (by rw [Nat.mul_comm]; omega)
     · refine gR KT260_ok none [0, 1, 4, 5, 6, 7, 8, 9] [0] [(17, tt), (22, .cptr [.i6 (xs.getD j 0 : Int)] 0), (25, .list 1 (d64 (digits b10k r))), (27, .list 1 (d64 (digits b10k t))), (30, ff), (40, ff), (53, .dig t (C + 14)), (54, .dig m C)] (.c6 (iT v7) v0 (nn j) v2 v3 r1 (.c6 c4 c5 c6 c7 c8 c9 (.c6 (iF v5) (iF (show ¬ ((((d64 ys).length : Nat) : Int) <= ((d64 (digits b10k t)).length : Int)) by rw [d64_length, d64_length]; omega)) hts hys (dc ((-9223372036854775808 : Int) <= 0)) (dc (0 <= (9223372036854775807 : Int))) (.a3 v4 (om ((m * 0) <= t)) v6)))) (t := T260i) (σ := slots 76 [(0, .list 1 (d64 xs)), (1, .list 1 (d64 ys)), (6, .dig (t - (m * 0)) (C + 14)), (7, .own 0 1 0 xs.length), (8, .i6 (j : Int)), (9, .i6 (0 : Int))]) (h := [some ⟨3, 1, true, (d64 qs), none⟩]) ?_
       exact hfin _ _ 0 (rl _) (by omega)
theorem a260 : Ctr 260 k260 := fun args r ob h ho => by
 unfold k260 at h
 split at h
 · rename_i n B m C
   cases h; have hm0 : 0 < m := ho _ (by simp); have hL : B + C + 300 <= LIM := ho _ (by simp); obtain ⟨hx, hxn⟩ := digits_spec (b := b10k) (by decide) n; obtain ⟨hy, hyn⟩ := digits_spec (b := b10k) (by decide) m; refine af Tryz.f260 fun S w0 => ?_
   refine Good.diglt (n := n) (B := B) 0 rfl fun hn => Good.diglt (n := m) (B := C) 1 rfl fun hm => ?_
   refine Good.weak 76 [(0, .list 1 (d64 (digits b10k n))), (1, .list 1 (d64 (digits b10k m)))] (by kernel_rfl) (.cons Ref.opnd (.cons Ref.opnd .nil)) ?_; have l1 := hx.len10 (by rw [hxn]; exact hn); generalize digits b10k n = xs at *; generalize digits b10k m = ys at *; subst hxn; have hL' := hL; unfold LIM at hL'; refine have_ (p := (8 * ((d64 xs).length : Int) <= 281474976710656) /\ ((((d64 xs).length : Nat) : Int) <= (big : Int)) /\ (-9223372036854775808 <= ((d64 xs).length : Int) - (1 : Int) /\ ((d64 xs).length : Int) - (1 : Int) <= 9223372036854775807)) (by simp only [d64_length]; unfold big; omega) fun ⟨q0, q1, q2⟩ => gN KT260_ok [0, 1, 4, 5, 6, 7, 8, 9] [(15, .i6 ((((d64 xs).length : Nat) : Int) - (1 : Int)))] (.a5 (rfl : ((d64 xs).length : Int) = ((d64 xs).length : Int)) (show 0 <= ((d64 xs).length : Int) from Int.natCast_nonneg _) q0 q1 (wI ((((d64 xs).length : Nat) : Int) - (1 : Int)) ((((d64 xs).length : Nat) : Int) - (1 : Int)) q2)) (t := T260) (σ := slots 76 [(0, .list 1 (d64 xs)), (1, .list 1 (d64 ys)), (4, .nil), (5, .nil), (6, .nil), (7, .own 0 1 0 ((d64 xs).length)), (8, (.i6 ((((d64 xs).length : Nat) : Int) - (1 : Int))))]) (h := [some ⟨3, 1, true, (List.replicate ((d64 xs).length) [.i6 (0 : Int)]), none⟩]) ?_
   rw [d64_rep, d64_length]; refine Good.weak 76 [(0, _), (1, _), (6, .dig 0 C), (7, _), (8, _)] (by kernel_rfl) (.r (.r (.cons Ref.nil0d (.r (.r .nil))))) ?_; exact loop260 hx.1 hy hyn hm hm0 hL l1 hn xs.length 0 _ (rl _) hm0 (by simp) (rep_lt (by decide)) (by simp [dval, List.drop_length])
 · cases h
end
def KT296_ok := kn
def k296 : KF
 | [.agg [.bool s, .dig n B]] => some (.tup [.int .i64 ((if n < 10000000000000000 then n else 0 : Nat) : Int), .bool (decide (n < 10000000000000000))], [])
 | _ => none
section
variable {S : Nat -> Prop} {w0 : World}
noncomputable abbrev T296 : List Item := [.code (nav [1, 1, 1, 0, 1, 0, 0] (bodyOf Tryz.f296)), .inLoop (nav [1, 1, 1, 0, 1, 0, 0] (bodyOf Tryz.f296)), .inBlock 0, .code (nav [1, 1, 1, 1] (bodyOf Tryz.f296))]
theorem loop296 {s : Bool} {xs : List Nat} (hx : ∀ x ∈ xs, x < b10k) (hl : xs.length <= 4) : ∀ (k v : Nat), k <= xs.length -> v = dval b10k (xs.drop k) ->
   GF 296 S w0 (.tup [.i6 ((dval b10k xs : Nat) : Int), .bool true]) T296 ⟨slots 27 [(1, .ptr 0 2 0 0), (4, .i6 ((v : Nat) : Int)), (5, (.i6 (((k : Nat) : Int) - 1)))], [some ⟨64, 2, false, [[(.bool s), (.list 1 (d64 xs))]], none⟩]⟩ := by
 intro k
 induction k with
 | zero =>
   intro v hk hv; rw [List.drop_zero] at hv; rw [show (((0 : Nat) : Int) - 1) = -1 from rfl]; refine rF KT296_ok [] .nil (V := .tup [AV.int .i64 (v : Int), AV.bool true]) ?_
   rw [hv]; exact rr
 | succ i ih =>
   intro v hk hv; rw [show (((i + 1 : Nat) : Int) - 1) = ((i : Nat) : Int) by omega]; have hx1 := getD_lt (b := b10k) (by decide) hx i
   have hv3 : v < 1000000000000 := by
     have h1 := dval_lt (b := b10k) (by decide) (xs := xs.drop (i + 1)) (fun x h => hx x (List.mem_of_mem_drop h)); have h2 : b10k ^ (xs.drop (i + 1)).length <= b10k ^ 3 := Nat.pow_le_pow_right (by decide) (by rw [List.length_drop]; omega); have h3 : b10k ^ 3 = 1000000000000 := by decide
     omega
   unfold b10k at hx1; refine gN KT296_ok [1, 2, 3, 4, 5] [(15, tt), (19, .i6 ((v * 10000 : Nat) : Int)), (23, .cptr [.i6 (xs.getD i 0 : Int)] 0), (25, .i6 ((xs.getD i 0 + 10000 * v : Nat) : Int)), (17, .i6 ((i : Int) - (1 : Int)))] (.c6 (iT (om ((0 : Int) <= (i : Int)))) (wI ((v : Int) * (10000 : Int)) ((v * 10000 : Nat) : Int)) (show Ref (.cptr ((d64 xs).getD i []) 0) (.cptr [.i6 (xs.getD i 0 : Int)] 0) from Ref.cd64 ((om (i < xs.length)))) (nn i) (show (i : Int) < ((d64 xs).length : Int) by rw [d64_length]; omega) (show Ref (.i6 (IntKind.i64.wrap (((v * 10000 : Nat) : Int) + (xs.getD i 0 : Int)))) (.i6 ((xs.getD i 0 + 10000 * v : Nat) : Int)) from Ref.wrI (by omega) (by omega)) (.a1 (wI ((i : Int) - (1 : Int)) ((i : Int) - (1 : Int))))) (t := T296) (σ := slots 27 [(1, .ptr 0 2 0 0), (4, .i6 ((xs.getD i 0 + 10000 * v : Nat) : Int)), (5, .i6 ((i : Int) - (1 : Int)))]) (h := [some ⟨64, 2, false, [[.bool s, .list 1 (d64 xs)]], none⟩]) ?_
   refine ih _ (by omega) ?_; rw [dval_drop_succ (by omega : i < xs.length), hv]; rfl
theorem a296 : Ctr 296 k296 := fun args r ob h ho => by
 unfold k296 at h
 split at h
 · rename_i s n B
   cases h; obtain ⟨hx, hxn⟩ := digits_spec (b := b10k) (by decide) n; refine af Tryz.f296 fun S w0 => ?_
   refine Good.weak 27 [(0, .agg [.bool s, .list 1 (d64 (digits b10k n))])] (by kernel_rfl) (.cons (Ref.agg (RefC.tl RefC.opnd)) .nil) ?_; refine Good.aggf (p := (digits b10k n).length <= big) 0 rfl (fun ρ S w D vs h => ?_) fun hb => ?_
   · have h2 := h.cut1.2
     generalize vs.drop _ = us at h2; cases h2 with
     | list f h1 h2 => rw [d64_length] at h1; omega
   have hlen : (digits b10k n).length <= 4 ↔ n < 10000000000000000 := by
     constructor
     · intro h
       have h1 := digits_lt_len (b := b10k) (n := n) (by decide); have h2 : b10k ^ (digits b10k n).length <= b10k ^ 4 := Nat.pow_le_pow_right (by decide) h; have h4 : b10k ^ 4 = 10000000000000000 := by decide
       omega
     · intro h
       exact digits_len_le (by decide) (by have h4 : b10k ^ 4 = 10000000000000000 := by decide
                                           omega)
   generalize digits b10k n = xs at *; subst hxn; unfold big at hb
   by_cases h4 : xs.length <= 4
   · refine gN KT296_ok [1, 2, 3, 4, 5] [(9, ff), (13, .i6 ((((d64 xs).length : Nat) : Int) - (1 : Int)))] (.a2 (iF (show ¬ ((4 : Int) < ((d64 xs).length : Int)) by rw [d64_length]; omega)) (wI ((((d64 xs).length : Nat) : Int) - (1 : Int)) ((((d64 xs).length : Nat) : Int) - (1 : Int)) (by rw [d64_length]; omega))) (t := T296) (σ := slots 27 [(1, .ptr 0 2 0 0), (2, .i6 (0 : Int)), (3, .bool false), (4, .i6 (0 : Int)), (5, (.i6 ((((d64 xs).length : Nat) : Int) - (1 : Int))))]) (h := [some ⟨64, 2, false, [[.bool s, .list 1 (d64 xs)]], none⟩]) ?_
     have hn := hlen.1 h4; refine Good.weak 27 [(1, _), (4, _), (5, _)] (by kernel_rfl) (.r (.r (.r .nil))) ?_; rw [if_pos hn, decide_eq_true hn, d64_length]; exact loop296 hx.1 h4 xs.length 0 (rl _) (by rw [List.drop_length]; rfl)
   · have hn : ¬ dval b10k xs < 10000000000000000 := fun h => h4 (hlen.2 h)
     refine rF KT296_ok [(9, tt)] (.a1 (iT (show (4 : Int) < ((d64 xs).length : Int) by rw [d64_length]; omega))) (V := .tup [AV.int .i64 0, AV.bool false]) ?_
     rw [if_neg hn, decide_eq_false hn]; exact rr
 · cases h
end
def KT259_ok := ((kn.cons a296).cons a260).cons a201
section
variable {S0 C0 : Nat -> Prop} {w0 : World} {Post : Value -> World -> Prop}
theorem p259_2_1 (u v : Nat) (h1 : (v : Int) = (0 : Int)) (o : ((-9223372036854775808 : Int) <= (u : Int)) /\ ((u : Int) <= (9223372036854775807 : Int)))
   (hg : Good Tryz.prog 259 S0 C0 w0 Post [.code .ret, .code (nav [1, 1, 0, 0, 0, 1, 0, 1, 1, 1] (bodyOf Tryz.f259)), .inBlock 1, .inLoop (nav [1, 1, 0, 0, 0] (bodyOf Tryz.f259)), .inBlock 0, .code (nav [1, 1, 1] (bodyOf Tryz.f259))] ⟨slots 54 [(4, .ptr 0 2 0 0), (7, .i6 (u : Int)), (9, .i6 (v : Int))], [some ⟨64, 2, false, [[.rz (u : Int) 64]], none⟩]⟩) :
   Good Tryz.prog 259 S0 C0 w0 Post [.code (nav [1, 1, 0, 0, 0, 1, 0, 1, 1, 0, 1, 0, 0, 0, 0] (bodyOf Tryz.f259)), .inLoop (nav [1, 1, 0, 0, 0, 1, 0, 1, 1, 0, 1, 0, 0, 0, 0] (bodyOf Tryz.f259)), .inBlock 2, .code (nav [1, 1, 0, 0, 0, 1, 0, 1, 1, 0, 1, 0, 1] (bodyOf Tryz.f259)), .code (nav [1, 1, 0, 0, 0, 1, 0, 1, 1, 1] (bodyOf Tryz.f259)), .inBlock 1, .inLoop (nav [1, 1, 0, 0, 0] (bodyOf Tryz.f259)), .inBlock 0, .code (nav [1, 1, 1] (bodyOf Tryz.f259))] ⟨slots 54 [(4, .ptr 0 2 0 0), (7, .i6 (u : Int)), (9, .i6 (v : Int))], [some ⟨64, 2, false, [[.bool false, .nil]], none⟩]⟩ :=
 goR mixed TT0_ok KT259_ok 12 none [4, 7, 9] [0] [(37, (.bool false))] (ob := [Ref (.bool (!decide ((v : Int) = (0 : Int)))) (.bool false), (-9223372036854775808 : Int) <= (u : Int), (u : Int) <= (9223372036854775807 : Int)]) (by decide) (by kernel_rfl)
   (.cons (Ref.bool (congrArg Bool.not (decide_eq_true h1))) (.cons (o.1) (.cons (o.2) (AllP.nil)))) hg
end
def k259 : KF
 | [.agg [.rz n B], .agg [.rz m C]] => some (.agg [.rz ((Nat.gcd n.natAbs m.natAbs : Nat) : Int) (max B C)], [max B C + max B C + 300 <= LIM])
 | _ => none
theorem RefC.rzB {n : Int} {B C : Nat} {cs : List AV} (h : n.natAbs < 2 ^ C) : RefC (.rz n B :: cs) (.rz n C :: cs) := fun ρ S w D vs x => by
 cases x with
 | rz h1 =>
   refine .rz ?_; cases h1 with
   | bool h2 =>
     cases h2 with
     | dig xs a b c d => exact .bool (.dig xs a b h d)
theorem RefC.mkrzN {n B : Nat} {cs : List AV} : RefC (.bool false :: .dig n B :: cs) (.rz ((n : Nat) : Int) B :: cs) := RefC.mkrz (rl _) (by simp) (by simp)
section
variable {S : Nat -> Prop} {w0 : World}
noncomputable abbrev T259 : List Item := [.code (nav [1, 1, 0, 0, 0] (bodyOf Tryz.f259)), .inLoop (nav [1, 1, 0, 0, 0] (bodyOf Tryz.f259)), .inBlock 0, .code (nav [1, 1, 1] (bodyOf Tryz.f259))]
noncomputable abbrev T259i : List Item := [.code (nav [1, 1, 0, 0, 0, 1, 0, 1, 1, 0, 1, 0, 0, 0, 0] (bodyOf Tryz.f259)), .inLoop (nav [1, 1, 0, 0, 0, 1, 0, 1, 1, 0, 1, 0, 0, 0, 0] (bodyOf Tryz.f259)), .inBlock 2, .code (nav [1, 1, 0, 0, 0, 1, 0, 1, 1, 0, 1, 0, 1] (bodyOf Tryz.f259)), .code (nav [1, 1, 0, 0, 0, 1, 0, 1, 1, 1] (bodyOf Tryz.f259)), .inBlock 1, .inLoop (nav [1, 1, 0, 0, 0] (bodyOf Tryz.f259)), .inBlock 0, .code (nav [1, 1, 1] (bodyOf Tryz.f259))]
theorem inner259 {E : Nat} : ∀ (f x y : Nat), y <= f -> x < 10000000000000000 -> y < 10000000000000000 -> Nat.gcd x y < 2 ^ E ->
   GF 259 S w0 (.agg [.rz ((Nat.gcd x y : Nat) : Int) E]) T259i ⟨slots 54 [(4, .ptr 0 2 0 0), (7, .i6 ((x : Nat) : Int)), (9, .i6 ((y : Nat) : Int))], [some ⟨64, 2, false, [[(.bool false), .nil]], none⟩]⟩ := by
 have last : ∀ x, x < 10000000000000000 -> Nat.gcd x 0 < 2 ^ E -> GF 259 S w0 (.agg [.rz ((Nat.gcd x 0 : Nat) : Int) E]) T259i ⟨slots 54 [(4, .ptr 0 2 0 0), (7, .i6 ((x : Nat) : Int)), (9, .i6 ((0 : Nat) : Int))], [some ⟨64, 2, false, [[(.bool false), .nil]], none⟩]⟩ := by
   intro x hx hE; rw [Nat.gcd_zero_right] at hE ⊢; exact p259_2_1 x 0 rfl ⟨by omega, by omega⟩ (gE [.agg [AV.rz ((x : Nat) : Int) 64]] (Ref.agg (RefC.rzB (by simpa using hE))))
 intro f
 induction f with
 | zero =>
   intro x y hf hx hy hE; have : y = 0 := by omega
   subst this; exact last x hx hE
 | succ f ih =>
   intro x y hf hx hy hE
   by_cases h0 : y = 0
   · subst h0; exact last x hx hE
   · refine gN KT259_ok [4, 7, 9] [(37, tt), (41, .i6 ((x % y : Nat) : Int))] (.a3 (jT (om (¬ ((y : Int) = (0 : Int))))) (show Ref (.i6 ((x : Int).tmod (y : Int))) (.i6 ((x % y : Nat) : Int)) from Ref.rem (a := x) (b := y) rfl rfl) (om ((y : Int) ≠ 0))) (t := T259i) (σ := slots 54 [(4, .ptr 0 2 0 0), (7, .i6 (y : Int)), (9, .i6 ((x % y : Nat) : Int))]) (h := [some ⟨64, 2, false, [[.bool false, .nil]], none⟩]) ?_
     have hlt : x % y < y := Nat.mod_lt _ (by omega); rw [gcd_step] at hE ⊢; exact ih _ _ (by omega) hy (by omega) hE
theorem loop259 {E : Nat} (hL : E + E + 300 <= LIM) : ∀ (f n m : Nat), m <= f -> n < 2 ^ E -> m < 2 ^ E ->
   GF 259 S w0 (.agg [.rz ((Nat.gcd n m : Nat) : Int) E]) T259 ⟨slots 54 [(4, .ptr 0 2 0 0), (5, .dig n E), (6, .dig m E)], [some ⟨64, 2, false, [[(.bool false), .nil]], none⟩]⟩ := by
 have last : ∀ n, n < 2 ^ E -> GF 259 S w0 (.agg [.rz ((Nat.gcd n 0 : Nat) : Int) E]) T259 ⟨slots 54 [(4, .ptr 0 2 0 0), (5, .dig n E), (6, .dig 0 E)], [some ⟨64, 2, false, [[(.bool false), .nil]], none⟩]⟩ := by
   intro n hn; rw [Nat.gcd_zero_right]; refine rF KT259_ok [(17, .list 1 (d64 (digits b10k 0))), (19, ff)] (.a2 (show Ref (.dig 0 E) (.list 1 (d64 (digits b10k 0))) from Ref.opnd) (iF (show ¬ ((0 : Int) < ((d64 (digits b10k 0)).length : Int)) by simp [d64_length, digits_zero]))) (V := .agg [AV.bool false, AV.dig n E]) (Ref.agg RefC.mkrzN)
 intro f
 induction f with
 | zero =>
   intro n m hf hn hm; have : m = 0 := by omega
   subst this; exact last n hn
 | succ f ih =>
   intro n m hf hn hm
   by_cases h0 : m = 0
   · subst h0; exact last n hn
   have hy0 : 0 < (digits b10k m).length := (digits_pos (by decide)).2 (by omega); have hlt : n % m < m := Nat.mod_lt _ (by omega); have nx := ih m (n % m) (by omega) hm (by omega); rw [<- gcd_step] at nx; have v0 : (0 : Int) < ((d64 (digits b10k m)).length : Int) := by rw [d64_length]; omega
   have v1 : Ref (.dig m E) (.list 1 (d64 (digits b10k m))) := Ref.opnd
   by_cases c1 : n < 10000000000000000
   · by_cases c2 : m < 10000000000000000
     · refine gR KT259_ok none [4, 5, 6, 7, 9] [0] [(17, .list 1 (d64 (digits b10k m))), (19, tt), (33, tt), (35, tt)] (.a4 v1 (iT v0) (iT c1) (iT c2)) (t := T259i) (σ := slots 54 [(4, .ptr 0 2 0 0), (5, .dig n E), (6, .dig m E), (7, .i6 ((if n < 10000000000000000 then n else 0 : Nat) : Int)), (9, .i6 ((if m < 10000000000000000 then m else 0 : Nat) : Int))]) (h := [some ⟨64, 2, false, [[.bool false, .nil]], none⟩]) ?_
       rw [if_pos c1, if_pos c2]; refine Good.weak 54 [(4, _), (7, _), (9, _)] (by kernel_rfl) (.r (.r (.r .nil))) ?_; exact inner259 m n m (rl _) c1 c2 (gcd_lt hn hm)
     · refine gR KT259_ok none [4, 5, 6, 7, 9] [0] [(17, .list 1 (d64 (digits b10k m))), (19, tt), (33, tt), (35, ff)] (.a6 v1 (iT v0) (iT c1) (iF c2) (om (0 < m)) hL) (t := T259) (σ := slots 54 [(4, .ptr 0 2 0 0), (5, .dig m E), (6, .dig (n % m) E), (7, .i6 ((if n < 10000000000000000 then n else 0 : Nat) : Int)), (9, .i6 ((if m < 10000000000000000 then m else 0 : Nat) : Int))]) (h := [some ⟨64, 2, false, [[.bool false, .nil]], none⟩]) ?_
       exact Good.weak 54 [(4, _), (5, _), (6, _)] (by kernel_rfl) (.r (.r (.r .nil))) nx
   · refine gR KT259_ok none [4, 5, 6, 7, 9] [0] [(17, .list 1 (d64 (digits b10k m))), (19, tt), (33, ff)] (.a5 v1 (iT v0) (iF c1) (om (0 < m)) hL) (t := T259) (σ := slots 54 [(4, .ptr 0 2 0 0), (5, .dig m E), (6, .dig (n % m) E), (7, .i6 ((if n < 10000000000000000 then n else 0 : Nat) : Int)), (9, .i6 ((if m < 10000000000000000 then m else 0 : Nat) : Int))]) (h := [some ⟨64, 2, false, [[.bool false, .nil]], none⟩]) ?_
     exact Good.weak 54 [(4, _), (5, _), (6, _)] (by kernel_rfl) (.r (.r (.r .nil))) nx
theorem a259 : Ctr 259 k259 := by
 refine ctr Tryz.f259 fun _ _ _ S w0 h ho => ?_
 unfold k259 at h; split at h <;> cases h; rename_i n B m C; have hL : max B C + max B C + 300 <= LIM := ho _ (by simp); refine Good.rzlt (n := n) (B := B) 0 rfl fun hn => Good.rzlt (n := m) (B := C) 1 rfl fun hm => ?_
 refine gR KT259_ok none [4, 5, 6] [2] [] .nil (t := T259) (σ := slots 54 [(4, .ptr 0 2 0 0), (5, .dig n.natAbs B), (6, .dig m.natAbs C)]) (h := [some ⟨64, 2, false, [[.bool false, .nil]], none⟩]) ?_
 have hn' := pow_le hn (Nat.le_max_left B C); have hm' := pow_le hm (Nat.le_max_right B C); refine Good.weak 54 [(4, _), (5, .dig n.natAbs (max B C)), (6, .dig m.natAbs (max B C))] (by kernel_rfl) (.r (.cons (Ref.digB hn') (.cons (Ref.digB hm') .nil))) ?_; exact loop259 hL _ _ _ (rl _) hn' hm'
end
def KT222_ok := kn
def k222 : KF
 | [.bool s, .dig n B] => some (.agg [.rz (sgn s n) B], [])
 | _ => none
theorem a222 : Ctr 222 k222 := by
 refine ctr Tryz.f222 fun _ _ _ S w0 h ho => ?_
 unfold k222 at h; split at h <;> cases h; rename_i s n B; obtain ⟨hx, hxn⟩ := digits_spec (b := b10k) (by decide) n; refine Good.diglt (n := n) (B := B) 1 rfl fun hn => ?_
 refine Good.weak 13 [(0, .bool s), (1, .list 1 (d64 (digits b10k n)))] (by kernel_rfl) (.r (.cons Ref.opnd .nil)) ?_
 have fold : ∀ t : Bool, t = decide (sgn s n < 0) -> Ref (.agg [.bool t, .list 1 (d64 (digits b10k n))]) (.agg [.rz (sgn s n) B]) := fun t ht =>
   Ref.agg ((RefC.tl (c := .bool t) (RefC.digL hx hxn hn)).trans (RefC.mkrz (rl _) ht (sgn_natAbs s n).symm))
 cases s with
 | true =>
   refine rF KT222_ok [] .nil (V := .agg [.bool (decide ((0 : Int) < ((d64 (digits b10k n)).length : Int))), .list 1 (d64 (digits b10k n))]) (fold _ ?_)
   rw [sgn_neg, Bool.true_and]
   have := digits_pos (b := b10k) (n := n) (by decide); simp only [decide_eq_decide]; rw [d64_length]; omega
 | false =>
   refine rF KT222_ok [] .nil (V := .agg [AV.bool false, .list 1 (d64 (digits b10k n))]) (fold _ ?_)
   rw [sgn_neg, Bool.false_and]
theorem neg_sgn (n : Int) : sgn (!decide (n < 0)) n.natAbs = -n := by
 by_cases a : n < 0 <;> simp [a, sgn] <;> omega
def k59 : KF
 | [.agg [.q x B]] => some (.agg [.q (-x) B], [])
 | _ => none
theorem a59 : Ctr 59 k59 := by
 refine ctr Tryz.f59 fun _ _ _ S w0 h ho => ?_
 unfold k59 at h; split at h <;> cases h; rename_i x B; have K := kn.cons a109; refine rF K [] .nil (V := .agg [.z (sgn (!decide (x.num < 0)) x.num.natAbs) B, .nat (x.den - 1) B]) ?_
 refine Ref.agg (RefC.mkq (rl _) (rl _) ?_ rfl); exact neg_sgn x.num
def k228 : KF
 | [.agg [.rz n B]] => some (.agg [.rz (-n) B], [])
 | _ => none
theorem a228 : Ctr 228 k228 := by
 refine ctr Tryz.f228 fun _ _ _ S w0 h ho => ?_
 unfold k228 at h; split at h <;> cases h; rename_i n B; have K := kn.cons a222; exact rF K [] .nil (V := .agg [.rz (sgn (!decide (n < 0)) n.natAbs) B]) (Ref.rz1 (neg_sgn n) (rl _))
def KT200_ok := (((kn.cons a260).cons a259).cons a228).cons a222
def k200 : KF
 | [.agg [.rz n B], .agg [.rz d C]] => some (.agg [.rq ((n : Rat) / (d : Rat)) ((n : Rat) / (d : Rat)).den (max B C)], [d ≠ 0, max B C + max B C + 300 <= LIM])
 | _ => none
theorem mkRat_pos {n d : Int} (hd : 0 < d) : mkRat n d.natAbs = (n : Rat) / (d : Rat) := by
 rw [Rat.mkRat_eq_div]
 congr 1
 rw [<- Rat.intCast_natCast, Int.natAbs_of_nonneg (by omega)]
theorem div_neg_neg (n d : Int) : ((-n : Int) : Rat) / ((-d : Int) : Rat) = (n : Rat) / (d : Rat) := by
 rw [Rat.intCast_neg, Rat.intCast_neg, Rat.div_def, Rat.div_def]
 have : (-(d : Rat))⁻¹ = -((d : Rat)⁻¹) := by
   by_cases h : (d : Rat) = 0
   · rw [h]; simp
   · refine Rat.inv_eq_of_mul_eq_one ?_
     rw [Rat.neg_mul, Rat.mul_neg, Rat.neg_neg, Rat.mul_inv_cancel _ h]
 rw [this, Rat.neg_mul, Rat.mul_neg, Rat.neg_neg]
theorem fold200 {n d : Int} {B C : Nat} {X : Rat} (hX : X = mkRat n d.natAbs) (hd : 0 < d) {k e : Int} (h : (k = n /\ e = d /\ n.natAbs.gcd d.natAbs = 1) \/ (k = sgn (decide (n < 0)) (n.natAbs / n.natAbs.gcd d.natAbs) /\ e = sgn false (d.natAbs / n.natAbs.gcd d.natAbs))) :
   Ref (.agg [.rz k B, .rz e C]) (.agg [.rq X X.den (max B C)]) := by
 have dn : d.natAbs ≠ 0 := by omega
 refine Ref.agg (RefC.mkrq (Nat.le_max_left _ _) (Nat.le_max_right _ _) ?_ ?_ (.inl rfl))
 · rcases h with ⟨rfl, rfl, hg⟩ | ⟨rfl, rfl⟩
   · rw [hX, mkRat_num dn, hg]; simp
   · rw [hX, <- mkRat_sgn dn]
 · rcases h with ⟨rfl, rfl, hg⟩ | ⟨rfl, rfl⟩
   · rw [hX, mkRat_den dn, hg, Nat.div_one]; omega
   · rw [hX, mkRat_den dn]; rfl
theorem a200 : Ctr 200 k200 := by
 refine ctr Tryz.f200 fun _ _ _ S w0 h ho => ?_
 unfold k200 at h; split at h <;> cases h; rename_i n B d C; have hd : d ≠ 0 := ho _ (by simp); have hL : max B C + max B C + 300 <= LIM := ho _ (by simp); have hB1 : B <= max B C := Nat.le_max_left _ _; have hC1 : C <= max B C := Nat.le_max_right _ _
 have one : ∀ v : Nat, (digits b10k v).length = 1 -> (digits b10k v).getD 0 0 = 1 -> v = 1 := by
   intro v h1 h2; obtain ⟨hx, hxn⟩ := digits_spec (b := b10k) (by decide) v; have h3 := dval_take_succ b10k (digits b10k v) 0; rw [tkE (by omega), hxn, h2] at h3; simpa [dval] using h3
 have v4 : B + (max B C) + 300 <= LIM := by omega
 have v5 : C + (max B C) + 300 <= LIM := by omega
 have v10 : 0 <= (0 : Int) := by decide
 by_cases hneg : d < 0
 · have hX : (n : Rat) / (d : Rat) = mkRat (-n) (-d).natAbs := by rw [mkRat_pos (by omega), div_neg_neg]
   have hg : 0 < Nat.gcd (-n).natAbs (-d).natAbs := Nat.gcd_pos_of_pos_right _ (by omega); have v0 : Ref (.dig (Nat.gcd (-n).natAbs (-d).natAbs) (max B C)) (.list 1 (d64 (digits b10k (Nat.gcd (-n).natAbs (-d).natAbs)))) := Ref.opnd
   by_cases c1 : (digits b10k (Nat.gcd (-n).natAbs (-d).natAbs)).length = 1
   · have v2 : Ref (.cptr ((d64 (digits b10k (Nat.gcd (-n).natAbs (-d).natAbs))).getD 0 []) 0) (.cptr [.i6 ((digits b10k (Nat.gcd (-n).natAbs (-d).natAbs)).getD 0 0 : Int)] 0) := Ref.cd64 ((om (0 < (digits b10k (Nat.gcd (-n).natAbs (-d).natAbs)).length)))
     have v6 : ((d64 (digits b10k (Nat.gcd (-n).natAbs (-d).natAbs))).length : Int) = (1 : Int) := by rw [d64_length]; omega
     have v7 : (0 : Int) < ((d64 (digits b10k (Nat.gcd (-n).natAbs (-d).natAbs))).length : Int) := by rw [d64_length]; omega
     by_cases c2 : (digits b10k (Nat.gcd (-n).natAbs (-d).natAbs)).getD 0 0 = 1
     · refine rF KT200_ok [(11, tt), (20, .list 1 (d64 (digits b10k (Nat.gcd (-n).natAbs (-d).natAbs)))), (23, tt), (25, .list 1 (d64 (digits b10k (Nat.gcd (-n).natAbs (-d).natAbs)))), (26, .cptr [.i6 ((digits b10k (Nat.gcd (-n).natAbs (-d).natAbs)).getD 0 0 : Int)] 0), (29, tt)] (.c6 (iT hneg) hL v0 (iT v6) v0 v2 (.a3 v10 v7 (iT (om (((digits b10k (Nat.gcd (-n).natAbs (-d).natAbs)).getD 0 0 : Int) = (1 : Int)))))) (V := .agg [AV.rz (-n) B, AV.rz (-d) C]) (fold200 hX (by omega) (.inl ⟨rfl, rfl, one _ c1 c2⟩))
     · refine rF KT200_ok [(11, tt), (20, .list 1 (d64 (digits b10k (Nat.gcd (-n).natAbs (-d).natAbs)))), (23, tt), (25, .list 1 (d64 (digits b10k (Nat.gcd (-n).natAbs (-d).natAbs)))), (26, .cptr [.i6 ((digits b10k (Nat.gcd (-n).natAbs (-d).natAbs)).getD 0 0 : Int)] 0), (29, ff)] (.c6 (iT hneg) hL v0 (iT v6) v0 v2 (.c6 v10 v7 (iF (om (¬ ((((digits b10k (Nat.gcd (-n).natAbs (-d).natAbs)).getD 0 0 : Nat) : Int) = (1 : Int))))) hg v4 hg (.a1 v5))) (V := .agg [.rz (sgn (decide ((-n) < 0)) (((-n).natAbs) / (Nat.gcd (-n).natAbs (-d).natAbs))) B, .rz (sgn false (((-d).natAbs) / (Nat.gcd (-n).natAbs (-d).natAbs))) C]) (fold200 hX (by omega) (.inr ⟨rfl, rfl⟩))
   · refine rF KT200_ok [(11, tt), (20, .list 1 (d64 (digits b10k (Nat.gcd (-n).natAbs (-d).natAbs)))), (23, ff)] (.c6 (iT hneg) hL v0 (iF (show ¬ ((((d64 (digits b10k (Nat.gcd (-n).natAbs (-d).natAbs))).length : Nat) : Int) = (1 : Int)) by rw [d64_length]; omega)) hg v4 (.a2 hg v5)) (V := .agg [.rz (sgn (decide ((-n) < 0)) (((-n).natAbs) / (Nat.gcd (-n).natAbs (-d).natAbs))) B, .rz (sgn false (((-d).natAbs) / (Nat.gcd (-n).natAbs (-d).natAbs))) C]) (fold200 hX (by omega) (.inr ⟨rfl, rfl⟩))
 · have hX : (n : Rat) / (d : Rat) = mkRat n d.natAbs := by rw [mkRat_pos (by omega)]
   have hg : 0 < Nat.gcd n.natAbs d.natAbs := Nat.gcd_pos_of_pos_right _ (by omega); have v1 : Ref (.dig (Nat.gcd n.natAbs d.natAbs) (max B C)) (.list 1 (d64 (digits b10k (Nat.gcd n.natAbs d.natAbs)))) := Ref.opnd
   by_cases c1 : (digits b10k (Nat.gcd n.natAbs d.natAbs)).length = 1
   · have v3 : Ref (.cptr ((d64 (digits b10k (Nat.gcd n.natAbs d.natAbs))).getD 0 []) 0) (.cptr [.i6 ((digits b10k (Nat.gcd n.natAbs d.natAbs)).getD 0 0 : Int)] 0) := Ref.cd64 ((om (0 < (digits b10k (Nat.gcd n.natAbs d.natAbs)).length)))
     have v8 : ((d64 (digits b10k (Nat.gcd n.natAbs d.natAbs))).length : Int) = (1 : Int) := by rw [d64_length]; omega
     have v9 : (0 : Int) < ((d64 (digits b10k (Nat.gcd n.natAbs d.natAbs))).length : Int) := by rw [d64_length]; omega
     by_cases c2 : (digits b10k (Nat.gcd n.natAbs d.natAbs)).getD 0 0 = 1
     · refine rF KT200_ok [(11, ff), (20, .list 1 (d64 (digits b10k (Nat.gcd n.natAbs d.natAbs)))), (23, tt), (25, .list 1 (d64 (digits b10k (Nat.gcd n.natAbs d.natAbs)))), (26, .cptr [.i6 ((digits b10k (Nat.gcd n.natAbs d.natAbs)).getD 0 0 : Int)] 0), (29, tt)] (.c6 (iF hneg) hL v1 (iT v8) v1 v3 (.a3 v10 v9 (iT (om (((digits b10k (Nat.gcd n.natAbs d.natAbs)).getD 0 0 : Int) = (1 : Int)))))) (V := .agg [AV.rz n B, AV.rz d C]) (fold200 hX (by omega) (.inl ⟨rfl, rfl, one _ c1 c2⟩))
     · refine rF KT200_ok [(11, ff), (20, .list 1 (d64 (digits b10k (Nat.gcd n.natAbs d.natAbs)))), (23, tt), (25, .list 1 (d64 (digits b10k (Nat.gcd n.natAbs d.natAbs)))), (26, .cptr [.i6 ((digits b10k (Nat.gcd n.natAbs d.natAbs)).getD 0 0 : Int)] 0), (29, ff)] (.c6 (iF hneg) hL v1 (iT v8) v1 v3 (.c6 v10 v9 (iF (om (¬ ((((digits b10k (Nat.gcd n.natAbs d.natAbs)).getD 0 0 : Nat) : Int) = (1 : Int))))) hg v4 hg (.a1 v5))) (V := .agg [.rz (sgn (decide (n < 0)) (n.natAbs / (Nat.gcd n.natAbs d.natAbs))) B, .rz (sgn false (d.natAbs / (Nat.gcd n.natAbs d.natAbs))) C]) (fold200 hX (by omega) (.inr ⟨rfl, rfl⟩))
   · refine rF KT200_ok [(11, ff), (20, .list 1 (d64 (digits b10k (Nat.gcd n.natAbs d.natAbs)))), (23, ff)] (.c6 (iF hneg) hL v1 (iF (show ¬ ((((d64 (digits b10k (Nat.gcd n.natAbs d.natAbs))).length : Nat) : Int) = (1 : Int)) by rw [d64_length]; omega)) hg v4 (.a2 hg v5)) (V := .agg [.rz (sgn (decide (n < 0)) (n.natAbs / (Nat.gcd n.natAbs d.natAbs))) B, .rz (sgn false (d.natAbs / (Nat.gcd n.natAbs d.natAbs))) C]) (fold200 hX (by omega) (.inr ⟨rfl, rfl⟩))
def k106 : KF
 | [.int .i64 n, .int .i64 d] => some (.agg [.rq ((Int.cast n : Rat) / (Int.cast d : Rat)) ((Int.cast n : Rat) / (Int.cast d : Rat)).den 64], [(-9223372036854775808 : Int) <= n, n <= (9223372036854775807 : Int), (-9223372036854775808 : Int) <= d, d <= (9223372036854775807 : Int), (d : Int) ≠ 0])
 | _ => none
theorem a106 : Ctr 106 k106 := by
 refine ctr Tryz.f106 fun _ _ _ S w0 h ho => ?_
 unfold k106 at h; split at h <;> cases h; rename_i n d; obtain ⟨o1, o2, o3, o4, o5⟩ := ho.e5; have L := limE; have K := (kn.cons a201).cons a200; exact rR K [] (.a6 o1 o2 o3 o4 o5 (om (max 64 64 + max 64 64 + 300 <= LIM)))
def k134 : KF
 | [.agg [.rz n B], .agg [.rz m C]] => some (.agg [.rz (n * m) (B + C)], [B + C + 128 <= LIM])
 | _ => none
theorem a134 : Ctr 134 k134 := by
 refine ctr Tryz.f134 fun _ _ _ S w0 h ho => ?_
 unfold k134 at h; split at h <;> cases h; rename_i n B m C; have o1 := ho.one; have K := (kn.cons a223).cons a222; exact rF K [] (.a1 o1) (V := .agg [.rz (sgn (!((decide (n < 0)) == (decide (m < 0)))) (n.natAbs * m.natAbs)) (B + C)]) (Ref.rz1 (by rw [neq_xor, sgn_mulxor]) (rl _))
def k135 : KF
 | [.agg [.rq x d B]] => some (.agg [.rz (d : Int) (max B 64)], [d ≠ 0])
 | _ => none
theorem a135 : Ctr 135 k135 := by
 refine ctr Tryz.f135 fun _ _ _ S w0 h ho => ?_
 unfold k135 at h; split at h <;> cases h; rename_i x d B; have o1 := ho.one; have K := kn.cons a201; have v0 : Ref (.dig ((d : Int).natAbs) B) (.list 1 (d64 (digits b10k (d : Int).natAbs))) := by exact Ref.opnd
 by_cases h1 : (((d64 (digits b10k ((d : Nat) : Int).natAbs)).length : Nat) : Int) = (0 : Int)
 · refine rF K [(5, .list 1 (d64 (digits b10k (d : Int).natAbs))), (7, tt)] (.a4 v0 (iT h1) (dc ((-9223372036854775808 : Int) <= 1)) (dc (1 <= (9223372036854775807 : Int)))) (V := .agg [.rz 1 64]) ?_
   rw [d64_length] at h1; have := (digits_pos (b := b10k) (n := ((d : Nat) : Int).natAbs) (by decide)).2 (by omega); omega
 · exact rF K [(5, .list 1 (d64 (digits b10k (d : Int).natAbs))), (7, ff)] (.a2 v0 (iF h1)) (V := .agg [.rz (d : Int) B]) (Ref.rz1 rfl (by omega))
def k107 : KF
 | [.agg [.rq x d B], .agg [.rq y e C]] => some (.agg [.rq (x * y) (x * y).den (max B 64 + max C 64)], [d = x.den, e = y.den, max B 64 + max C 64 + (max B 64 + max C 64) + 300 <= LIM])
 | _ => none
theorem a107 : Ctr 107 k107 := by
 refine ctr Tryz.f107 fun _ _ _ S w0 h ho => ?_
 unfold k107 at h; split at h <;> cases h; rename_i x d B y e C; obtain ⟨o1, o2, o3⟩ := ho.e3; have L := limE; have K := ((kn.cons a200).cons a135).cons a134; have hx := x.den_nz; have hy := y.den_nz; have hm : ((d : Nat) : Int) * ((e : Nat) : Int) ≠ 0 := Int.mul_ne_zero (by omega) (by omega); have hq : (Int.cast (x.num * y.num) : Rat) / (Int.cast (((d : Nat) : Int) * ((e : Nat) : Int)) : Rat) = x * y := by subst o1; subst o2; rw [Rat.mul_def, Rat.normalize_eq_mkRat, Rat.mkRat_eq_div]; push_cast; rfl
 refine rF K [] (.a6 (om (B + C + 128 <= LIM)) (om (d ≠ 0)) (om (e ≠ 0)) (om ((max B 64) + (max C 64) + 128 <= LIM)) hm (om (max (B + C) ((max B 64) + (max C 64)) + max (B + C) ((max B 64) + (max C 64)) + 300 <= LIM))) (V := .agg [.rq ((Int.cast (x.num * y.num) : Rat) / (Int.cast ((d : Int) * (e : Int)) : Rat)) (((Int.cast (x.num * y.num) : Rat) / (Int.cast ((d : Int) * (e : Int)) : Rat)).den) (max (B + C) ((max B 64) + (max C 64)))]) ?_
 rw [hq]; exact Ref.agg (RefC.rq_le (by omega))
def KK2_ok := (kn.cons a208).cons a202
def k203 : KF
 | [.nat n B, .nat m C] => some (.nat (n + m) (max B C + 1), [max B C + 1 <= LIM])
 | _ => none
section
variable {S : Nat -> Prop} {w0 : World}
noncomputable abbrev T203 : List Item := [.code (nav [1, 1, 1, 1, 0, 1, 0, 0] (bodyOf Tryz.f203)), .inLoop (nav [1, 1, 1, 1, 0, 1, 0, 0] (bodyOf Tryz.f203)), .inBlock 0, .code (nav [1, 1, 1, 1, 1] (bodyOf Tryz.f203))]
theorem loop203 {xs ys : List Nat} {N B m : Nat} (hmm : m = xs.length + 1) (hx : ∀ x ∈ xs, x < b32) (hy : ∀ x ∈ ys, x < b32) (hl : ys.length <= xs.length) (hbig : xs.length + 2 <= big)
   (hN : dval b32 xs + dval b32 ys = N) (hB : N < 2 ^ B) : ∀ (j i c : Nat) (ds : List Nat), j = xs.length - i -> i <= xs.length -> c < 2 -> ds.length = xs.length + 1 -> (∀ x ∈ ds, x < b32) ->
   dval b32 (ds.take i) + b32 ^ i * c = dval b32 (xs.take i) + dval b32 (ys.take i) ->
   GF 203 S w0 (.nat N B) T203
     ⟨slots 58 [(0, .list 1 (d32 xs)), (1, .list 1 (d32 ys)), (5, .own 0 1 0 m), (6, .int .u64 ((c : Nat) : Int)), (20, (.i6 (((d32 xs).length : Nat) : Int))), (21, .i6 ((i : Nat) : Int))],
      [some ⟨362, 1, true, (d32 ds), none⟩]⟩ := by
 subst hmm; unfold big at hbig; intro j
 induction j with
 | zero =>
   intro i c ds hj hi hc hd hdl hinv; have hi : i = xs.length := by omega
   subst hi; have hcm : c % 4294967296 = c := by omega
   have e0 : ((((d32 ds).set (0 + (d32 xs).length) [(AV.int .u32 ((c % 4294967296 : Nat) : Int))]).drop 0).take (xs.length + 1)) = d32 (ds.set xs.length c) := by
     rw [hcm, d32_set, d32_length, Nat.zero_add, List.drop_zero, tkE (by simp [d32_length, hd])]
   have hlt : ∀ x ∈ ds.set xs.length c, x < b32 := set_lt hdl (by unfold b32; omega)
   have hval : dval b32 (ds.set xs.length c) = N := by
     have h1 := dval_take_succ b32 (ds.set xs.length c) xs.length; rw [tkE (by simp [hd]), set_take, set_getD_self (by omega)] at h1; rw [h1, hinv, tkE (rl _), tkE hl]; exact hN
   refine gN KK2_ok [0, 1, 5, 6, 20, 21, 4] [(22, ff), (54, .int .u32 ((c % 4294967296 : Nat) : Int))] (.c6 (iF (show ¬ ((xs.length : Int) < ((d32 xs).length : Int)) by rw [d32_length]; omega)) (show Ref (.int .u32 (IntKind.u32.wrap (c : Int))) (.int .u32 ((c % 4294967296 : Nat) : Int)) from Ref.md32 (by rfl)) (show 0 <= ((d32 xs).length : Int) from Int.natCast_nonneg _) (show ((d32 xs).length : Int) < (((xs.length + 1) : Nat) : Int) by rw [d32_length]; omega) (show 0 + ((d32 xs).length) < (d32 ds).length by rw [d32_length, d32_length]; omega) (show 0 + (xs.length + 1) <= ((d32 ds).set (0 + ((d32 xs).length)) [(AV.int .u32 ((c % 4294967296 : Nat) : Int))]).length by simp only [List.length_set, d32_length]; omega) (.a2 (show ((((d32 ds).set (0 + ((d32 xs).length)) [(AV.int .u32 ((c % 4294967296 : Nat) : Int))]).drop 0).take (xs.length + 1)) = d32 (un32 ((((d32 ds).set (0 + ((d32 xs).length)) [(AV.int .u32 ((c % 4294967296 : Nat) : Int))]).drop 0).take (xs.length + 1))) from ?_) (show ∀ x ∈ un32 ((((d32 ds).set (0 + ((d32 xs).length)) [(AV.int .u32 ((c % 4294967296 : Nat) : Int))]).drop 0).take (xs.length + 1)), x < b32 from ?_))) (t := [.code .ret]) (σ := slots 58 [(0, .list 1 (d32 xs)), (1, .list 1 (d32 ys)), (4, (.nat (dval b32 (un32 ((((d32 ds).set (0 + ((d32 xs).length)) [(.int .u32 ((c % 4294967296 : Nat) : Int))]).drop 0).take (xs.length + 1)))) (32 * ((((d32 ds).set (0 + ((d32 xs).length)) [(.int .u32 ((c % 4294967296 : Nat) : Int))]).drop 0).take (xs.length + 1)).length))), (5, .own 0 1 0 (xs.length + 1)), (6, .int .u64 (c : Int)), (20, .i6 ((d32 xs).length : Int)), (21, .i6 (xs.length : Int))]) (h := [none, none]) ?_
   · rw [e0, un32_d32]
   · rw [e0, un32_d32]; exact hlt
   · refine good_ret1 TT0_ok (fn := Tryz.f203) (by kernel_rfl) 4 (by kernel_rfl) rfl (by rfl) ?_
     show Ref (.nat (dval b32 (un32 ((((d32 ds).set (0 + ((d32 xs).length)) [(AV.int .u32 ((c % 4294967296 : Nat) : Int))]).drop 0).take (xs.length + 1)))) _) _; rw [e0, un32_d32, hval]; exact Ref.natB hB
 | succ j ih =>
   intro i c ds hj hi hc hd hdl hinv; have hlt : i < xs.length := by omega
   have hx1 : xs.getD i 0 < b32 := getD_lt (by decide) hx i; have hy1 : ys.getD i 0 < b32 := getD_lt (by decide) hy i; unfold b32 at hx1 hy1
   have nx : ∀ t, t = c + xs.getD i 0 + ys.getD i 0 -> GF 203 S w0 (.nat N B) T203
     ⟨slots 58 [(0, .list 1 (d32 xs)), (1, .list 1 (d32 ys)), (5, .own 0 1 0 (xs.length + 1)), (6, .int .u64 ((t / 4294967296 : Nat) : Int)), (20, (.i6 (((d32 xs).length : Nat) : Int))), (21, .i6 ((i + 1 : Nat) : Int))],
      [some ⟨362, 1, true, ((d32 ds).set (0 + i) [(AV.int .u32 ((t % 4294967296 : Nat) : Int))]), none⟩]⟩ := by
     intro t ht; rw [d32_set, Nat.zero_add]; refine ih (i + 1) (t / 4294967296) _ (by omega) (by omega) (by omega) (by simp [hd]) (set_lt hdl (by unfold b32; omega)) ?_; rw [dval_take_succ, dval_take_succ b32 xs, dval_take_succ b32 ys, set_take, set_getD_self (by omega), Nat.pow_succ]; have h1 : t = 4294967296 * (t / 4294967296) + t % 4294967296 := (Nat.div_add_mod _ _).symm
     have h2 : b32 ^ i * (t % 4294967296) + b32 ^ i * b32 * (t / 4294967296) = b32 ^ i * t := by
       rw [Nat.mul_assoc, <- Nat.mul_add]
       congr 1
       unfold b32; omega
     have h3 : b32 ^ i * t = b32 ^ i * c + b32 ^ i * xs.getD i 0 + b32 ^ i * ys.getD i 0 := by rw [ht, Nat.mul_add, Nat.mul_add]
     omega
   have v0 : (i : Int) < ((d32 xs).length : Int) := by rw [d32_length]; omega
   by_cases hyl : i < ys.length
   · refine have_ (p := (i < xs.length) /\ ((i : Int) < ((d32 xs).length : Int)) /\ (0 <= (xs.getD i 0 : Int) /\ (xs.getD i 0 : Int) <= 18446744073709551615) /\ (0 <= (c : Int) + (xs.getD i 0 : Int) /\ (c : Int) + (xs.getD i 0 : Int) <= 18446744073709551615) /\ (i < ys.length) /\ ((i : Int) < ((d32 ys).length : Int)) /\ (0 <= (ys.getD i 0 : Int) /\ (ys.getD i 0 : Int) <= 18446744073709551615) /\ (0 <= ((c + xs.getD i 0 : Nat) : Int) + (ys.getD i 0 : Int) /\ ((c + xs.getD i 0 : Nat) : Int) + (ys.getD i 0 : Int) <= 18446744073709551615) /\ ((i : Int) < (((xs.length + 1) : Nat) : Int)) /\ (0 + i < (d32 ds).length) /\ (-9223372036854775808 <= (i : Int) + (1 : Int) /\ (i : Int) + (1 : Int) <= 9223372036854775807)) ?_ fun ⟨q0, q1, q2, q3, q4, q5, q6, q7, q8, q9, q10⟩ => gN KK2_ok [0, 1, 5, 6, 20, 21, 4] [(22, tt), (27, .cptr [.int .u32 (xs.getD i 0 : Int)] 0), (29, .int .u64 (xs.getD i 0 : Int)), (30, .int .u64 ((c + xs.getD i 0 : Nat) : Int)), (34, tt), (38, .cptr [.int .u32 (ys.getD i 0 : Int)] 0), (40, .int .u64 (ys.getD i 0 : Int)), (41, .int .u64 ((c + xs.getD i 0 + ys.getD i 0 : Nat) : Int)), (45, .int .u32 (((c + xs.getD i 0 + ys.getD i 0) % 4294967296 : Nat) : Int)), (48, .int .u64 (((c + xs.getD i 0 + ys.getD i 0) / 4294967296 : Nat) : Int)), (49, .i6 ((i + 1 : Nat) : Int))] (.c6 (iT v0) (Ref.cd32 q0) (nn i) q1 (wU (xs.getD i 0 : Int) (xs.getD i 0 : Int) q2) (wU ((c : Int) + (xs.getD i 0 : Int)) ((c + xs.getD i 0 : Nat) : Int) q3) (.c6 (iT (show (i : Int) < ((d32 ys).length : Int) by rw [d32_length]; omega)) (Ref.cd32 q4) (nn i) q5 (wU (ys.getD i 0 : Int) (ys.getD i 0 : Int) q6) (wU (((c + xs.getD i 0 : Nat) : Int) + (ys.getD i 0 : Int)) ((c + xs.getD i 0 + ys.getD i 0 : Nat) : Int) q7) (.c6 (show Ref (.int .u32 (IntKind.u32.wrap ((c + xs.getD i 0 + ys.getD i 0 : Nat) : Int))) (.int .u32 (((c + xs.getD i 0 + ys.getD i 0) % 4294967296 : Nat) : Int)) from Ref.md32 (by rfl)) (nn i) q8 q9 (show Ref (.int .u64 (((c + xs.getD i 0 + ys.getD i 0 : Nat) : Int).fdiv (2 ^ (min (32 : Int).toNat 64)))) (.int .u64 (((c + xs.getD i 0 + ys.getD i 0) / 4294967296 : Nat) : Int)) from Ref.shrc (c := min (Int.toNat _) _) (by rfl) (by decide)) (dc (0 <= (32 : Int))) (.a1 (wI ((i : Int) + (1 : Int)) ((i + 1 : Nat) : Int) q10))))) (nx _ rfl)
     simp only [d32_length, hd]; omega
   · have hz : ys.getD i 0 = 0 := by simp [gdE, Nat.le_of_not_lt hyl]
     refine have_ (p := (i < xs.length) /\ ((i : Int) < ((d32 xs).length : Int)) /\ (0 <= (xs.getD i 0 : Int) /\ (xs.getD i 0 : Int) <= 18446744073709551615) /\ (0 <= (c : Int) + (xs.getD i 0 : Int) /\ (c : Int) + (xs.getD i 0 : Int) <= 18446744073709551615) /\ ((i : Int) < (((xs.length + 1) : Nat) : Int)) /\ (0 + i < (d32 ds).length) /\ (-9223372036854775808 <= (i : Int) + (1 : Int) /\ (i : Int) + (1 : Int) <= 9223372036854775807)) ?_ fun ⟨q0, q1, q2, q3, q4, q5, q6⟩ => gN KK2_ok [0, 1, 5, 6, 20, 21, 4] [(22, tt), (27, .cptr [.int .u32 (xs.getD i 0 : Int)] 0), (29, .int .u64 (xs.getD i 0 : Int)), (30, .int .u64 ((c + xs.getD i 0 : Nat) : Int)), (34, ff), (45, .int .u32 (((c + xs.getD i 0) % 4294967296 : Nat) : Int)), (48, .int .u64 (((c + xs.getD i 0) / 4294967296 : Nat) : Int)), (49, .i6 ((i + 1 : Nat) : Int))] (.c6 (iT v0) (Ref.cd32 q0) (nn i) q1 (wU (xs.getD i 0 : Int) (xs.getD i 0 : Int) q2) (wU ((c : Int) + (xs.getD i 0 : Int)) ((c + xs.getD i 0 : Nat) : Int) q3) (.c6 (iF (show ¬ ((i : Int) < ((d32 ys).length : Int)) by rw [d32_length]; omega)) (show Ref (.int .u32 (IntKind.u32.wrap ((c + xs.getD i 0 : Nat) : Int))) (.int .u32 (((c + xs.getD i 0) % 4294967296 : Nat) : Int)) from Ref.md32 (by rfl)) (nn i) q4 q5 (show Ref (.int .u64 (((c + xs.getD i 0 : Nat) : Int).fdiv (2 ^ (min (32 : Int).toNat 64)))) (.int .u64 (((c + xs.getD i 0) / 4294967296 : Nat) : Int)) from Ref.shrc (c := min (Int.toNat _) _) (by rfl) (by decide)) (.a2 (dc (0 <= (32 : Int))) (wI ((i : Int) + (1 : Int)) ((i + 1 : Nat) : Int) q6)))) (nx _ (by rw [hz, Nat.add_zero]))
     simp only [d32_length, hd]; omega
theorem a203 : Ctr 203 k203 := fun args r ob h ho => by
 unfold k203 at h
 split at h
 · rename_i n B m C
   cases h; have hL : max B C + 1 <= LIM := ho _ (by simp); unfold LIM at hL; obtain ⟨⟨hx, hxl⟩, hxn⟩ := digits_spec (b := b32) (by decide) n; obtain ⟨⟨hy, hyl⟩, hyn⟩ := digits_spec (b := b32) (by decide) m; refine af Tryz.f203 fun S w0 => ?_
   refine Good.natlt (n := n) (B := B) 0 rfl fun hn => Good.natlt (n := m) (B := C) 1 rfl fun hm => ?_
   refine Good.weak 58 [(0, .list 1 (d32 (digits b32 n))), (1, .list 1 (d32 (digits b32 m)))] (by kernel_rfl) (.cons Ref.opn (.cons Ref.opn .nil)) ?_; have l1 := Dig.len ⟨hx, hxl⟩ (by rw [hxn]; exact hn); have l2 := Dig.len ⟨hy, hyl⟩ (by rw [hyn]; exact hm); generalize digits b32 n = xs at *; generalize digits b32 m = ys at *
   have hB : n + m < 2 ^ (max B C + 1) := by
     have h1 := Nat.pow_le_pow_right (by decide : 0 < 2) (Nat.le_max_left B C); have h2 := Nat.pow_le_pow_right (by decide : 0 < 2) (Nat.le_max_right B C); rw [Nat.pow_succ]; omega
   by_cases hlt : xs.length < ys.length
   · refine have_ (p := (-9223372036854775808 <= ((d32 ys).length : Int) + (1 : Int) /\ ((d32 ys).length : Int) + (1 : Int) <= 9223372036854775807) /\ (4 * (((d32 ys).length + 1 : Nat) : Int) <= 281474976710656) /\ ((((d32 ys).length + 1 : Nat) : Int) <= (big : Int))) (by simp only [d32_length]; unfold big; omega) fun ⟨q0, q1, q2⟩ => gN KK2_ok [0, 1, 5, 6, 20, 21] [(12, tt), (17, .i6 (((d32 ys).length + 1 : Nat) : Int))] (.a6 (iT (show ((d32 xs).length : Int) < ((d32 ys).length : Int) by simp only [d32_length]; omega)) (wI ((((d32 ys).length : Nat) : Int) + (1 : Int)) (((d32 ys).length + 1 : Nat) : Int) q0) (rfl : (((d32 ys).length + 1 : Nat) : Int) = (((d32 ys).length + 1 : Nat) : Int)) (nn ((d32 ys).length + 1)) q1 q2) (t := T203) (σ := slots 58 [(0, .list 1 (d32 ys)), (1, .list 1 (d32 xs)), (5, .own 0 1 0 ((d32 ys).length + 1)), (6, .int .u64 (0 : Int)), (20, .i6 ((d32 ys).length : Int)), (21, .i6 (0 : Int))]) (h := [some ⟨362, 1, true, (List.replicate ((d32 ys).length + 1) [.int .u32 (0 : Int)]), none⟩]) ?_
     rw [d32_rep]; refine loop203 (by rw [d32_length]) hy hx (by omega) (by unfold big; omega) (by omega) hB _ 0 0 _ rfl (by omega) (by omega) (by simp [d32_length]) (rep_lt (by decide)) (by simp [dval])
   · refine have_ (p := (-9223372036854775808 <= ((d32 xs).length : Int) + (1 : Int) /\ ((d32 xs).length : Int) + (1 : Int) <= 9223372036854775807) /\ (4 * (((d32 xs).length + 1 : Nat) : Int) <= 281474976710656) /\ ((((d32 xs).length + 1 : Nat) : Int) <= (big : Int))) (by simp only [d32_length]; unfold big; omega) fun ⟨q0, q1, q2⟩ => gN KK2_ok [0, 1, 5, 6, 20, 21] [(12, ff), (17, .i6 (((d32 xs).length + 1 : Nat) : Int))] (.a6 (iF (show ¬ ((((d32 xs).length : Nat) : Int) < ((d32 ys).length : Int)) by simp only [d32_length]; omega)) (wI ((((d32 xs).length : Nat) : Int) + (1 : Int)) (((d32 xs).length + 1 : Nat) : Int) q0) (rfl : (((d32 xs).length + 1 : Nat) : Int) = (((d32 xs).length + 1 : Nat) : Int)) (nn ((d32 xs).length + 1)) q1 q2) (t := T203) (σ := slots 58 [(0, .list 1 (d32 xs)), (1, .list 1 (d32 ys)), (5, .own 0 1 0 ((d32 xs).length + 1)), (6, .int .u64 (0 : Int)), (20, .i6 ((d32 xs).length : Int)), (21, .i6 (0 : Int))]) (h := [some ⟨362, 1, true, (List.replicate ((d32 xs).length + 1) [.int .u32 (0 : Int)]), none⟩]) ?_
     rw [d32_rep]; refine loop203 (by rw [d32_length]) hx hy (by omega) (by unfold big; omega) (by omega) hB _ 0 0 _ rfl (by omega) (by omega) (by simp [d32_length]) (rep_lt (by decide)) (by simp [dval])
 · cases h
end
def k111 : KF
 | [.agg [.q x B]] => some (.nat x.den (B + 1), [max B 64 + 1 <= LIM])
 | _ => none
theorem a111 : Ctr 111 k111 := by
 refine ctr Tryz.f111 fun _ _ _ S w0 h ho => ?_
 unfold k111 at h; split at h <;> cases h; rename_i x B; have o1 := ho.one; have L := limE; have K := (kn.cons a203).cons a202; refine Good.qlt (x := x) (B := B) 0 rfl fun q1 q2 => ?_
 refine rF K [] (.a3 (dc (0 <= (1 : Int))) (dc ((1 : Int) < 18446744073709551616)) o1) (V := .nat ((x.den - 1) + 1) (max B 64 + 1)) ?_
 rw [den_pos']; exact Ref.natB (by have := den_pos' x; rw [Nat.pow_succ]; omega)
def k29 : KF
 | [.agg [.q x B], .agg [.q y C]] => some (.agg [.q (x * y) (B + C + 2)], [B + C + 200 <= LIM])
 | _ => none
theorem a29 : Ctr 29 k29 := by
 refine ctr Tryz.f29 fun _ _ _ S w0 h ho => ?_
 unfold k29 at h; split at h <;> cases h; rename_i x B y C; have o1 := ho.one; have L := limE; have K := (((kn.cons a115).cons a112).cons a111).cons a109; refine rF K [] (.a6 (om (B + C + 128 <= LIM)) (om (max B 64 + 1 <= LIM)) (om (max C 64 + 1 <= LIM)) (om ((B + 1) + (C + 1) + 128 <= LIM)) (show 0 < (x.den * y.den) by exact Nat.mul_pos x.den_pos y.den_pos) (om (max (B + C) ((B + 1) + (C + 1)) + 128 <= LIM))) (V := .agg [.q (mkRat (sgn (!((decide (x.num < 0)) == (decide (y.num < 0)))) (x.num.natAbs * y.num.natAbs)) (x.den * y.den)) (max (B + C) ((B + 1) + (C + 1)))]) ?_
 refine Ref.q1 ?_ (by omega); rw [neq_xor, sgn_mulxor, mul_mk]
def KT24_ok := (((kn.cons a107).cons a106).cons a105).cons a29
noncomputable abbrev c24T0 : List Item := [.code (nav [1, 1, 1, 1, 1, 0, 1, 0, 0] (bodyOf Tryz.f24)), .inLoop (nav [1, 1, 1, 1, 1, 0, 1, 0, 0] (bodyOf Tryz.f24)), .inBlock 0, .code (nav [1, 1, 1, 1, 1, 1] (bodyOf Tryz.f24))]
def numB (n d : Int) : Rat := (Int.cast n : Rat) / (Int.cast (if d = 0 then 1 else d) : Rat)
def numV (n d p : Int) : Rat := numB n d ^ (p.toNat % 4 + 1)
def okN (n d p : Int) : Prop := (-9223372036854775808 : Int) <= n /\ n <= (9223372036854775807 : Int) /\ (-9223372036854775808 : Int) <= d /\ d <= (9223372036854775807 : Int) /\ 0 <= p /\ p <= 255
def k24 : KF
 | [.agg [.int .i64 n, .int .i64 d, .int .u8 p]] => some (.tup [.agg [.q (numV n d p) 300], .agg [.rq (numV n d p) (numV n d p).den 300]], [okN n d p])
 | _ => none
section
variable {S : Nat -> Prop} {w0 : World}
theorem loop24 (n d : Int) (p : Nat) (x : Rat) : ∀ (f k : Nat) (y : Rat) (E F : Nat), k + f = p % 4 -> y = x ^ (k + 1) -> E = 64 + 66 * k -> F = 64 + 64 * k ->
   GF 24 S w0 (.tup [.agg [.q (x ^ (p % 4 + 1)) 300], .agg [.rq (x ^ (p % 4 + 1)) (x ^ (p % 4 + 1)).den 300]])
   c24T0
   ⟨slots 44 [(1, .ptr 0 3 0 0), (2, .ptr 1 3 0 0), (3, .ptr 2 4 0 0), (4, .ptr 3 3 0 0), (6, .ptr 4 4 0 0), (7, .ptr 5 3 0 0), (8, .ptr 6 4 0 0), (9, .int .u8 ((k : Nat) : Int))],
     [some ⟨29, 3, false, [[(.i6 n), (.i6 d), (.int .u8 ((p : Nat) : Int))]], none⟩, some ⟨56, 3, false, [[(.q 0 0)]], none⟩, some ⟨66, 4, false, [[(.rq 0 0 0)]], none⟩, some ⟨56, 3, false, [[(.q x 64)]], none⟩, some ⟨66, 4, false, [[(.rq x x.den 64)]], none⟩, some ⟨56, 3, false, [[(.q y E)]], none⟩, some ⟨66, 4, false, [[(.rq y y.den F)]], none⟩]⟩ := by
 intro f; have v0 : Ref (.int .u8 ((p : Int).tmod (4 : Int))) (.int .u8 ((p % 4 : Nat) : Int)) := Ref.rem (a := p) (b := 4) rfl rfl
 induction f with
 | zero =>
   intro k y E F h hy hE hF; have hk : k = p % 4 := by omega
   subst hy; subst hE; subst hF; refine rF KT24_ok [(32, .int .u8 ((p % 4 : Nat) : Int)), (33, ff)] (.a3 v0 (dc ((4 : Int) ≠ 0)) (iF (om (¬ ((k : Int) < ((p % 4 : Nat) : Int)))))) (V := .tup [.agg [.q (x ^ (k + 1)) (64 + 66 * k)], .agg [.rq (x ^ (k + 1)) (x ^ (k + 1)).den (64 + 64 * k)]]) ?_
   rw [<- hk]; show Ref (.tup [.agg [.q (x ^ (k + 1)) (64 + 66 * k)], .agg [.rq (x ^ (k + 1)) (x ^ (k + 1)).den (64 + 64 * k)]]) (.tup [.agg [.q (x ^ (k + 1)) 300], .agg [.rq (x ^ (k + 1)) (x ^ (k + 1)).den 300]]); have h1 : 64 + 66 * k <= 300 := by omega
   have h2 : 64 + 64 * k <= 300 := by omega
   exact Ref.tup2 (Ref.agg (RefC.q_le h1)) (Ref.agg (RefC.rq_le h2)) rfl rfl rfl rfl
 | succ f ih =>
   intro k y E F h hy hE hF; refine gR KT24_ok none [1, 2, 3, 4, 6, 7, 8, 9] [0, 1, 2, 3, 4, 5, 6] [(32, .int .u8 ((p % 4 : Nat) : Int)), (33, tt), (35, .int .u8 ((k + 1 : Nat) : Int))] (.c6 v0 (dc ((4 : Int) ≠ 0)) (iT (om ((k : Int) < ((p % 4 : Nat) : Int)))) (show E + 64 + 200 <= LIM by unfold LIM; omega) (rfl : y.den = y.den) (rfl : x.den = x.den) (.a2 (show max F 64 + max 64 64 + (max F 64 + max 64 64) + 300 <= LIM by unfold LIM; omega) (wB ((k : Int) + (1 : Int)) ((k + 1 : Nat) : Int)))) (t := c24T0) (σ := slots 44 [(1, .ptr 0 3 0 0), (2, .ptr 1 3 0 0), (3, .ptr 2 4 0 0), (4, .ptr 3 3 0 0), (6, .ptr 4 4 0 0), (7, .ptr 5 3 0 0), (8, .ptr 6 4 0 0), (9, .int .u8 ((k + 1 : Nat) : Int))]) (h := [some ⟨29, 3, false, [[.i6 n, .i6 d, .int .u8 (p : Int)]], none⟩, some ⟨56, 3, false, [[.q 0 0]], none⟩, some ⟨66, 4, false, [[.rq 0 0 0]], none⟩, some ⟨56, 3, false, [[.q x 64]], none⟩, some ⟨66, 4, false, [[.rq x x.den 64]], none⟩, some ⟨56, 3, false, [[.q (y * x) (E + 64 + 2)]], none⟩, some ⟨66, 4, false, [[.rq (y * x) ((y * x).den) (max F 64 + max 64 64)]], none⟩]) ?_
   exact ih (k + 1) (y * x) _ _ (by omega) (by rw [hy, Rat.pow_succ x (k + 1)]) (by omega) (by omega)
end
theorem a24 : Ctr 24 k24 := by
 refine ctr Tryz.f24 fun _ _ _ S w0 h ho => ?_
 unfold k24 at h; split at h <;> cases h; rename_i n d p; obtain ⟨o1, o2, o3, o4, o5, o6⟩ : okN n d p := ho _ (by simp); clear ho; obtain ⟨p, rfl⟩ := Int.eq_ofNat_of_zero_le o5; have hp : (((p : Nat) : Int)).toNat = p := by simp
 unfold numV; rw [hp]
 by_cases hd : d = 0
 · have hB : numB n d = (Int.cast n : Rat) / (Int.cast 1 : Rat) := by unfold numB; rw [if_pos hd]
   rw [hB]; have v0 : (-9223372036854775808 : Int) <= 1 := by decide
   have v1 : 1 <= (9223372036854775807 : Int) := by decide
   exact gR KT24_ok none [1, 2, 3, 4, 6, 7, 8, 9] [0, 1, 2, 4, 6, 7, 8] [(12, tt)] (.c6 (iT hd) o1 o2 v0 v1 o1 (.a4 o2 v0 v1 (dc ((1 : Int) ≠ 0)))) (loop24 n 1 p _ (p % 4) 0 _ _ _ (by omega) (Rat.pow_one _).symm rfl rfl)
 · have hB : numB n d = (Int.cast n : Rat) / (Int.cast d : Rat) := by unfold numB; rw [if_neg hd]
   rw [hB]; exact gR KT24_ok none [1, 2, 3, 4, 6, 7, 8, 9] [0, 1, 2, 4, 6, 7, 8] [(12, ff)] (.c6 (iF hd) o1 o2 o3 o4 o1 (.a4 o2 o3 o4 hd)) (loop24 n d p _ (p % 4) 0 _ _ _ (by omega) (Rat.pow_one _).symm rfl rfl)
def k23 : KF
 | [.agg [.int .i64 n, .int .i64 d, .int .u8 p, .int .i64 m, .int .i64 e, .int .u8 r]] => some (.tup [.agg [.q (numV n d p) 300, .q (numV m e r) 300], .agg [.rq (numV n d p) (numV n d p).den 300, .rq (numV m e r) (numV m e r).den 300]], [okN n d p, okN m e r])
 | _ => none
theorem a23 : Ctr 23 k23 := by
 refine ctr Tryz.f23 fun _ _ _ S w0 h ho => ?_
 unfold k23 at h; split at h <;> cases h; rename_i n d p m e r; obtain ⟨o1, o2⟩ := ho.e2; have K := kn.cons a24; exact rR K [] (.a2 o1 o2)
end Go.Av
namespace Go.Av
open Go.RowKit
structure NumD where
 n : Int
 d : Int
 p : Int
 deriving Inhabited
structure SpotD where
 x : NumD
 z : NumD
 deriving Inhabited
structure PtD where
 x : Rat
 z : Rat
 deriving Inhabited
def NumD.ok (a : NumD) : Prop := okN a.n a.d a.p
def NumD.val (a : NumD) : Rat := numV a.n a.d a.p
def SpotD.ok (a : SpotD) : Prop := a.x.ok /\ a.z.ok
def SpotD.pt (a : SpotD) : PtD := ⟨a.x.val, a.z.val⟩
def unNum (a : NumD) : List AV := [.int .i64 a.n, .int .i64 a.d, .int .u8 a.p]
def unSpot (s : SpotD) : List AV := [.int .i64 s.x.n, .int .i64 s.x.d, .int .u8 s.x.p, .int .i64 s.z.n, .int .i64 s.z.d, .int .u8 s.z.p]
def reNum : List AV -> NumD
 | [.int _ n, .int _ d, .int _ p] => ⟨n, d, p⟩
 | _ => default
def reSpot : List AV -> SpotD
 | [.int _ n, .int _ d, .int _ p, .int _ m, .int _ e, .int _ q] => ⟨⟨n, d, p⟩, ⟨m, e, q⟩⟩
 | _ => default
def unP (B : Nat) (a : PtD) : List AV := [.q a.x B, .q a.z B]
def unRP (B : Nat) (a : PtD) : List AV := [.rq a.x a.x.den B, .rq a.z a.z.den B]
theorem re_un {α : Type} {f : List AV -> α} {g : α -> List AV} (h : ∀ a, f (g a) = a) (l : List α) : (l.map g).map f = l := by
 rw [List.map_map]; conv => rhs; rw [<- List.map_id l]
 exact List.map_congr_left fun a _ => h a
theorem reNum_un (l : List NumD) : (l.map unNum).map reNum = l := re_un (fun _ => rfl) l
theorem reSpot_un (l : List SpotD) : (l.map unSpot).map reSpot = l := re_un (fun _ => rfl) l
theorem map_getD {α : Type} [Inhabited α] {f : α -> List AV} {xs : List α} {i : Nat} (h : i < xs.length) : (xs.map f).getD i [] = f (xs.getD i default) := by
 simp [List.getD_eq_getElem?_getD, List.getElem?_eq_getElem h]
theorem Ref.cmap {α : Type} [Inhabited α] {f : α -> List AV} {xs : List α} {i : Nat} (h : i < xs.length) : Ref (.cptr ((xs.map f).getD i []) 0) (.cptr (f (xs.getD i default)) 0) := Ref.eq (by rw [map_getD h])
theorem map_range {α : Type} [Inhabited α] {f : α -> List AV} (xs : List α) : xs.map f = (List.range xs.length).map fun i => f (xs.getD i default) := by
 refine List.ext_getElem (by simp) fun i h1 h2 => ?_
 simp at h1; simp [List.getD_eq_getElem?_getD, h1]
theorem getD_mem {α : Type} [Inhabited α] {xs : List α} {i : Nat} (h : i < xs.length) : xs.getD i default ∈ xs := by
 simp [List.getD_eq_getElem?_getD, List.getElem?_eq_getElem h]
section
theorem rows2 (n : Nat) (X Y : Nat -> List AV) (st : AV -> AV -> Nat -> List (Option ABlk) -> St) (k l e e' ty ty' : Nat)
   (h0 : 0 < n -> Good P f S0 C0 w0 Post todo (st (.own k e 0 1) (.own l e' 0 1) 1 [some ⟨ty, e, true, [X 0], none⟩, some ⟨ty', e', true, [Y 0], none⟩]) -> Good P f S0 C0 w0 Post todo (st .nil .nil 0 []))
   (hs : ∀ i A B, 0 < i -> i < n -> A.length = i -> B.length = i -> Good P f S0 C0 w0 Post todo (st (.own k e 0 (i + 1)) (.own l e' 0 (i + 1)) (i + 1) [some ⟨ty, e, true, A ++ [X i], none⟩, some ⟨ty', e', true, B ++ [Y i], none⟩]) ->
     Good P f S0 C0 w0 Post todo (st (.own k e 0 i) (.own l e' 0 i) i [some ⟨ty, e, true, A, none⟩, some ⟨ty', e', true, B, none⟩]))
   (hz : ∀ A B, 0 < n -> A.length = n -> B.length = n -> Good P f S0 C0 w0 Post todo (st (.list e A) (.list e' B) n []) -> Good P f S0 C0 w0 Post todo (st (.own k e 0 n) (.own l e' 0 n) n [some ⟨ty, e, true, A, none⟩, some ⟨ty', e', true, B, none⟩]))
   (hn : n = 0 -> Good P f S0 C0 w0 Post todo (st (.list e []) (.list e' []) 0 []) -> Good P f S0 C0 w0 Post todo (st .nil .nil 0 []))
   (hX : XS = (List.range n).map X) (hY : YS = (List.range n).map Y) (hend : Good P f S0 C0 w0 Post todo (st (.list e XS) (.list e' YS) n [])) : Good P f S0 C0 w0 Post todo (st .nil .nil 0 []) := by
 subst hX; subst hY
 by_cases hp : n = 0
 · subst hp; exact hn rfl hend
 · have key : ∀ f' i, 0 < i -> i + f' = n -> Good P f S0 C0 w0 Post todo (st (.own k e 0 i) (.own l e' 0 i) i [some ⟨ty, e, true, (List.range i).map X, none⟩, some ⟨ty', e', true, (List.range i).map Y, none⟩]) := by
     intro f'
     induction f' with
     | zero =>
       intro i hi h; have : i = n := by omega
       subst this; exact hz _ _ (by omega) (by simp) (by simp) hend
     | succ f' ih =>
       intro i hi h; have nx := ih (i + 1) (by omega) (by omega); rw [List.range_succ, List.map_append, List.map_append] at nx; exact hs i _ _ hi (by omega) (by simp) (by simp) nx
   exact h0 (by omega) (key (n - 1) 1 (by omega) (by omega))
theorem Good.weakB (l i : Nat) (hl : h[l]? = some (some b)) (he : b.elems[i]? = some el) (hr : RefC el el')
   (hg : Good P f S0 C0 w0 Post todo ⟨σ, h.set l (some { b with elems := b.elems.set i el' })⟩) : Good P f S0 C0 w0 Post todo ⟨σ, h⟩ := by
 refine hg.map fun ρ D a w R => ⟨ρ, D, ?_⟩
 have hlen : l < h.length := (List.getElem?_eq_some_iff.1 hl).1
 have hget : ∀ (j : Nat) (c : ABlk), (h.set l (some { b with elems := b.elems.set i el' }))[j]? = some (some c) -> ∃ d, h[j]? = some (some d) /\ c.pin = d.pin /\ (c = d \/ j = l /\ d = b /\ c = { b with elems := b.elems.set i el' }) := by
   intro j c hc; rw [List.getElem?_set] at hc
   split at hc
   · rename_i hjl; subst hjl
     injection hc with hc; injection hc with hc; subst hc; exact ⟨b, hl, rfl, .inr ⟨rfl, rfl, rfl⟩⟩
   · exact ⟨c, hc, rfl, .inl rfl⟩
 have hget' : ∀ (j : Nat) (d : ABlk), h[j]? = some (some d) -> ∃ c, (h.set l (some { b with elems := b.elems.set i el' }))[j]? = some (some c) := by
   intro j d hd; rw [List.getElem?_set]
   split
   · rename_i hjl; subst hjl
     exact ⟨_, rfl⟩
   · exact ⟨d, hd⟩
 have hS : Sof S0 ρ (h.set l (some { b with elems := b.elems.set i el' })) = Sof S0 ρ h := by
   funext k; apply propext
   constructor
   · rintro (h | ⟨j, c, hc, e⟩)
     · exact .inl h
     · obtain ⟨d, hd, _⟩ := hget j c hc; exact .inr ⟨j, d, hd, e⟩
   · rintro (h | ⟨j, d, hd, e⟩)
     · exact .inl h
     · obtain ⟨c, hc⟩ := hget' j d hd; exact .inr ⟨j, c, hc, e⟩
 exact {
   defers := R.defers
   len := R.len
   tmps := fun t v hv => by rw [hS]; exact R.tmps t v hv
   heap := fun j c hc => by
     obtain ⟨d, hd, _, hcd⟩ := hget j c hc; rw [hS]; rcases hcd with rfl | ⟨rfl, rfl, rfl⟩
     · exact R.heap j c hd
     · obtain ⟨h1, arr, h2, h3, h4⟩ := R.heap j d hd
       refine ⟨h1, arr, h2, by simpa using h3, fun m el2 hm => ?_⟩
       dsimp only at hm ⊢
       rw [List.getElem?_set] at hm
       split at hm
       · rename_i him; subst him
         split at hm
         · injection hm with hm; subst hm
           exact hr _ _ _ _ _ (h4 i el he)
         · cases hm
       · exact h4 m el2 hm
   inj := fun j j' c c' hc hc' e => by
     obtain ⟨d, hd, _⟩ := hget j c hc; obtain ⟨d', hd', _⟩ := hget j' c' hc'; exact R.inj j j' d d' hd hd' e
   lt := R.lt
   dlt := fun i hi => by
     have := R.dlt i hi; simpa using this
   chg := R.chg
   mine := fun j c hc => by
     obtain ⟨d, hd, hp, _⟩ := hget j c hc
     have := R.mine j d hd; unfold Mine at this ⊢
     rw [hp]; exact this }
end
end Go.Av
namespace Go.Av
open Go.Proofs Go.RowKit
def abcB : ByteArray := ByteArray.mk #[97, 98, 99, 100, 101, 102, 103, 104, 105, 106, 107, 108, 109, 110, 111, 112, 113, 114, 115, 116, 117, 118, 119, 120, 121, 122]
def nameB (i : Nat) : ByteArray := if i < 26 then abcB.extract i (i + 1) else ByteArray.mk #[]
def k102 : KF
 | [.int .i64 i] => some (.str (nameB i.toNat), [0 <= i, i.toNat <= 4611686018427387904])
 | _ => none
theorem a102 : Ctr 102 k102 := by
 refine ctr Tryz.f102 fun _ _ _ S w0 h ho => ?_
 unfold k102 at h; split at h <;> cases h; rename_i i; obtain ⟨o1000, o1⟩ := ho.e2; obtain ⟨i, rfl⟩ := Int.eq_ofNat_of_zero_le o1000; clear o1000; replace o1 : i <= 4611686018427387904 := o1; have hz : abcB.size = 26 := by decide
 have v0 : Ref (.str (ByteArray.mk #[97, 98, 99, 100, 101, 102, 103, 104, 105, 106, 107, 108, 109, 110, 111, 112, 113, 114, 115, 116, 117, 118, 119, 120, 121, 122])) (.str abcB) := by exact rr
 by_cases h1 : ((i : Nat) : Int) < ((abcB.size : Nat) : Int)
 · refine rF .nil [(3, .str abcB), (7, tt), (11, .i6 ((i + 1 : Nat) : Int))] (.c6 v0 (iT h1) (wI ((i : Int) + (1 : Int)) ((i + 1 : Nat) : Int) (by omega)) (nn (i + 1)) (om (((i + 1 : Nat) : Int) <= (abcB.size : Int))) (nn i) (.a1 (om ((i : Int) <= ((i + 1 : Nat) : Int))))) (V := .str (abcB.extract i (i + 1))) (r := .str (nameB i)) ?_
   unfold nameB; rw [if_pos (by omega)]; exact rr
 · refine rF .nil [(3, .str abcB), (7, ff)] (.a2 v0 (iF h1)) (V := .str (ByteArray.mk #[])) (r := .str (nameB i)) ?_
   unfold nameB; rw [if_neg (by omega)]; exact rr
end Go.Av
namespace Go.Av
open Go.RowKit
def rePt : List AV -> PtD
 | [.q x _, .q z _] => ⟨x, z⟩
 | _ => default
theorem rePt_un {B : Nat} (l : List PtD) : (l.map (unP B)).map rePt = l := re_un (fun v => by cases v; rfl) l
structure LimbD where
 par : Int
 at_ : SpotD
 c : SpotD
 ma : NumD
 inr : NumD
 low : NumD
 high : NumD
 shape : List SpotD
 deriving Inhabited
structure BodyD where
 name : ByteArray
 par : Int
 at_ : PtD
 c : PtD
 ma : Rat
 inr : Rat
 low : Rat
 high : Rat
 shape : List PtD
 deriving Inhabited
def unLimb (v : LimbD) : List AV := [.int .i64 v.par, .int .i64 v.at_.x.n, .int .i64 v.at_.x.d, .int .u8 v.at_.x.p, .int .i64 v.at_.z.n, .int .i64 v.at_.z.d, .int .u8 v.at_.z.p, .int .i64 v.c.x.n, .int .i64 v.c.x.d, .int .u8 v.c.x.p, .int .i64 v.c.z.n, .int .i64 v.c.z.d, .int .u8 v.c.z.p, .int .i64 v.ma.n, .int .i64 v.ma.d, .int .u8 v.ma.p, .int .i64 v.inr.n, .int .i64 v.inr.d, .int .u8 v.inr.p, .int .i64 v.low.n, .int .i64 v.low.d, .int .u8 v.low.p, .int .i64 v.high.n, .int .i64 v.high.d, .int .u8 v.high.p, .list 6 (v.shape.map unSpot)]
def unBody (B : Nat) (v : BodyD) : List AV := [.str v.name, .int .i64 v.par, .q v.at_.x B, .q v.at_.z B, .q v.ma B, .q v.inr B, .q v.c.x B, .q v.c.z B, .q v.low B, .q v.high B, .list 6 (v.shape.map (unP B))]
def unRBody (B : Nat) (v : BodyD) : List AV := [.int .i64 v.par, .rq v.at_.x v.at_.x.den B, .rq v.at_.z v.at_.z.den B, .rq v.ma v.ma.den B, .rq v.inr v.inr.den B, .rq v.c.x v.c.x.den B, .rq v.c.z v.c.z.den B, .rq v.low v.low.den B, .rq v.high v.high.den B, .list 8 (v.shape.map (unRP B))]
def reBody : List AV -> BodyD
 | [.str name, .int _ par, .q at_x _, .q at_z _, .q ma _, .q inr _, .q cx _, .q cz _, .q low _, .q high _, .list _ shape] => ⟨name, par, ⟨at_x, at_z⟩, ⟨cx, cz⟩, ma, inr, low, high, shape.map rePt⟩
 | _ => default
theorem reBody_un {B : Nat} (l : List BodyD) : (l.map (unBody B)).map reBody = l := re_un (fun v => by cases v; simp only [reBody, unBody, rePt_un]) l
def reLimb : List AV -> LimbD
 | [.int _ par, .int _ at_xn, .int _ at_xd, .int _ at_xp, .int _ at_zn, .int _ at_zd, .int _ at_zp, .int _ cxn, .int _ cxd, .int _ cxp, .int _ czn, .int _ czd, .int _ czp, .int _ man, .int _ mad, .int _ map, .int _ inrn, .int _ inrd, .int _ inrp, .int _ lown, .int _ lowd, .int _ lowp, .int _ highn, .int _ highd, .int _ highp, .list _ shape] => ⟨par, ⟨⟨at_xn, at_xd, at_xp⟩, ⟨at_zn, at_zd, at_zp⟩⟩, ⟨⟨cxn, cxd, cxp⟩, ⟨czn, czd, czp⟩⟩, ⟨man, mad, map⟩, ⟨inrn, inrd, inrp⟩, ⟨lown, lowd, lowp⟩, ⟨highn, highd, highp⟩, shape.map reSpot⟩
 | _ => default
theorem reLimb_un (l : List LimbD) : (l.map unLimb).map reLimb = l := re_un (fun v => by cases v; simp only [reLimb, unLimb, reSpot_un]) l
def LimbD.ok (v : LimbD) : Prop := v.at_.ok /\ v.c.ok /\ v.ma.ok /\ v.inr.ok /\ v.low.ok /\ v.high.ok /\ (∀ s ∈ v.shape, s.ok) /\ v.shape.length * 128 <= 140737488355328
def LimbD.real (name : ByteArray) (v : LimbD) : BodyD := ⟨name, v.par, v.at_.pt, v.c.pt, v.ma.val, v.inr.val, v.low.val, v.high.val, v.shape.map SpotD.pt⟩
structure CordD where
 a : Int
 b : Int
 from_ : SpotD
 to : SpotD
 k : NumD
 deriving Inhabited
structure CordyD where
 a : Int
 b : Int
 from_ : PtD
 to : PtD
 k : Rat
 deriving Inhabited
def unCord (v : CordD) : List AV := [.int .i64 v.a, .int .i64 v.b, .int .i64 v.from_.x.n, .int .i64 v.from_.x.d, .int .u8 v.from_.x.p, .int .i64 v.from_.z.n, .int .i64 v.from_.z.d, .int .u8 v.from_.z.p, .int .i64 v.to.x.n, .int .i64 v.to.x.d, .int .u8 v.to.x.p, .int .i64 v.to.z.n, .int .i64 v.to.z.d, .int .u8 v.to.z.p, .int .i64 v.k.n, .int .i64 v.k.d, .int .u8 v.k.p]
def unCordy (B : Nat) (v : CordyD) : List AV := [.int .i64 v.a, .int .i64 v.b, .q v.from_.x B, .q v.from_.z B, .q v.to.x B, .q v.to.z B, .q v.k B]
def unRCordy (B : Nat) (v : CordyD) : List AV := [.int .i64 v.a, .int .i64 v.b, .rq v.from_.x v.from_.x.den B, .rq v.from_.z v.from_.z.den B, .rq v.to.x v.to.x.den B, .rq v.to.z v.to.z.den B, .rq v.k v.k.den B]
def reCordy : List AV -> CordyD
 | [.int _ a, .int _ b, .q from_x _, .q from_z _, .q tox _, .q toz _, .q k _] => ⟨a, b, ⟨from_x, from_z⟩, ⟨tox, toz⟩, k⟩
 | _ => default
theorem reCordy_un {B : Nat} (l : List CordyD) : (l.map (unCordy B)).map reCordy = l := re_un (fun v => by cases v; simp only [reCordy, unCordy]) l
def reCord : List AV -> CordD
 | [.int _ a, .int _ b, .int _ from_xn, .int _ from_xd, .int _ from_xp, .int _ from_zn, .int _ from_zd, .int _ from_zp, .int _ toxn, .int _ toxd, .int _ toxp, .int _ tozn, .int _ tozd, .int _ tozp, .int _ kn, .int _ kd, .int _ kp] => ⟨a, b, ⟨⟨from_xn, from_xd, from_xp⟩, ⟨from_zn, from_zd, from_zp⟩⟩, ⟨⟨toxn, toxd, toxp⟩, ⟨tozn, tozd, tozp⟩⟩, ⟨kn, kd, kp⟩⟩
 | _ => default
theorem reCord_un (l : List CordD) : (l.map unCord).map reCord = l := re_un (fun v => by cases v; simp only [reCord, unCord]) l
def CordD.ok (v : CordD) : Prop := v.from_.ok /\ v.to.ok /\ v.k.ok
def CordD.real (v : CordD) : CordyD := ⟨v.a, v.b, v.from_.pt, v.to.pt, v.k.val⟩
structure DriveD where
 body : Int
 t : NumD
 h : NumD
 c : NumD
 m : NumD
 deriving Inhabited
structure MotorD where
 body : Int
 t : Rat
 h : Rat
 c : Rat
 m : Rat
 deriving Inhabited
def unDrive (v : DriveD) : List AV := [.int .i64 v.body, .int .i64 v.t.n, .int .i64 v.t.d, .int .u8 v.t.p, .int .i64 v.h.n, .int .i64 v.h.d, .int .u8 v.h.p, .int .i64 v.c.n, .int .i64 v.c.d, .int .u8 v.c.p, .int .i64 v.m.n, .int .i64 v.m.d, .int .u8 v.m.p]
def unMotor (B : Nat) (v : MotorD) : List AV := [.int .i64 v.body, .q v.t B, .q v.h B, .q v.c B, .q v.m B]
def unRMotor (B : Nat) (v : MotorD) : List AV := [.int .i64 v.body, .rq v.t v.t.den B, .rq v.h v.h.den B, .rq v.c v.c.den B, .rq v.m v.m.den B]
def reMotor : List AV -> MotorD
 | [.int _ body, .q t _, .q h _, .q c _, .q m _] => ⟨body, t, h, c, m⟩
 | _ => default
theorem reMotor_un {B : Nat} (l : List MotorD) : (l.map (unMotor B)).map reMotor = l := re_un (fun v => by cases v; simp only [reMotor, unMotor]) l
def reDrive : List AV -> DriveD
 | [.int _ body, .int _ tn, .int _ td, .int _ tp, .int _ hn, .int _ hd, .int _ hp, .int _ cn, .int _ cd, .int _ cp, .int _ mn, .int _ md, .int _ mp] => ⟨body, ⟨tn, td, tp⟩, ⟨hn, hd, hp⟩, ⟨cn, cd, cp⟩, ⟨mn, md, mp⟩⟩
 | _ => default
theorem reDrive_un (l : List DriveD) : (l.map unDrive).map reDrive = l := re_un (fun v => by cases v; simp only [reDrive, unDrive]) l
def DriveD.ok (v : DriveD) : Prop := v.t.ok /\ v.h.ok /\ v.c.ok /\ v.m.ok
def DriveD.real (v : DriveD) : MotorD := ⟨v.body, v.t.val, v.h.val, v.c.val, v.m.val⟩
structure SoleD where
 body : Int
 pts : List SpotD
 fr : NumD
 deriving Inhabited
structure FootD where
 body : Int
 pts : List PtD
 fr : Rat
 deriving Inhabited
def unSole (v : SoleD) : List AV := [.int .i64 v.body, .list 6 (v.pts.map unSpot), .int .i64 v.fr.n, .int .i64 v.fr.d, .int .u8 v.fr.p]
def unFoot (B : Nat) (v : FootD) : List AV := [.int .i64 v.body, .list 6 (v.pts.map (unP B)), .q v.fr B]
def unRFoot (B : Nat) (v : FootD) : List AV := [.int .i64 v.body, .list 8 (v.pts.map (unRP B)), .rq v.fr v.fr.den B]
def reFoot : List AV -> FootD
 | [.int _ body, .list _ pts, .q fr _] => ⟨body, pts.map rePt, fr⟩
 | _ => default
theorem reFoot_un {B : Nat} (l : List FootD) : (l.map (unFoot B)).map reFoot = l := re_un (fun v => by cases v; simp only [reFoot, unFoot, rePt_un]) l
def reSole : List AV -> SoleD
 | [.int _ body, .list _ pts, .int _ frn, .int _ frd, .int _ frp] => ⟨body, pts.map reSpot, ⟨frn, frd, frp⟩⟩
 | _ => default
theorem reSole_un (l : List SoleD) : (l.map unSole).map reSole = l := re_un (fun v => by cases v; simp only [reSole, unSole, reSpot_un]) l
def SoleD.ok (v : SoleD) : Prop := (∀ s ∈ v.pts, s.ok) /\ v.pts.length * 128 <= 140737488355328 /\ v.fr.ok
def SoleD.real (v : SoleD) : FootD := ⟨v.body, v.pts.map SpotD.pt, v.fr.val⟩
structure RigD where
 limbs : List LimbD
 springs : List CordD
 tendons : List CordD
 drives : List DriveD
 soles : List SoleD
 deriving Inhabited
structure MachD where
 name : ByteArray
 bodies : List BodyD
 springs : List CordyD
 tendons : List CordyD
 motors : List MotorD
 feet : List FootD
 deriving Inhabited
def unRig (r : RigD) : List AV := [.list 26 (r.limbs.map unLimb), .list 17 (r.springs.map unCord), .list 17 (r.tendons.map unCord), .list 13 (r.drives.map unDrive), .list 5 (r.soles.map unSole)]
def reRig : List AV -> RigD
 | [.list _ a, .list _ b, .list _ c, .list _ d, .list _ e] => ⟨a.map reLimb, b.map reCord, c.map reCord, d.map reDrive, e.map reSole⟩
 | _ => default
def unMach (B : Nat) (m : MachD) : List AV := [.str m.name, .list 27 (m.bodies.map (unBody B)), .list 17 (m.springs.map (unCordy B)), .list 17 (m.tendons.map (unCordy B)), .list 13 (m.motors.map (unMotor B)), .list 5 (m.feet.map (unFoot B))]
def unRMach (B : Nat) (m : MachD) : List AV := [.list 34 (m.bodies.map (unRBody B)), .list 22 (m.springs.map (unRCordy B)), .list 22 (m.tendons.map (unRCordy B)), .list 17 (m.motors.map (unRMotor B)), .list 6 (m.feet.map (unRFoot B))]
def reMach : List AV -> MachD
 | [.str a, .list _ b, .list _ c, .list _ d, .list _ e, .list _ f] => ⟨a, b.map reBody, c.map reCordy, d.map reCordy, e.map reMotor, f.map reFoot⟩
 | _ => default
theorem reMach_un {B : Nat} (m : MachD) : reMach (unMach B m) = m := by cases m; simp only [reMach, unMach, reBody_un, reCordy_un, reMotor_un, reFoot_un]
def rigB : ByteArray := ByteArray.mk #[114, 105, 103]
def bodiesOf (l : List LimbD) : List BodyD := (List.range l.length).map fun i => (l.getD i default).real (nameB i)
def RigD.real (r : RigD) : MachD := ⟨rigB, bodiesOf r.limbs, r.springs.map CordD.real, r.tendons.map CordD.real, r.drives.map DriveD.real, r.soles.map SoleD.real⟩
def RigD.ok (r : RigD) : Prop := (∀ v ∈ r.limbs, v.ok) /\ (∀ v ∈ r.springs, v.ok) /\ (∀ v ∈ r.tendons, v.ok) /\ (∀ v ∈ r.drives, v.ok) /\ (∀ v ∈ r.soles, v.ok) /\
 r.limbs.length * 1024 <= 140737488355328 /\ r.springs.length * 1024 <= 140737488355328 /\ r.tendons.length * 1024 <= 140737488355328 /\ r.drives.length * 1024 <= 140737488355328 /\ r.soles.length * 1024 <= 140737488355328
end Go.Av
namespace Go.Av
open Go.Proofs Go.RowKit
def KT63_ok := kn.cons a24
def unQ (B : Nat) (x : Rat) : List AV := [.q x B]
def unRQ (B : Nat) (x : Rat) : List AV := [.rq x x.den B]
def numsP (l : List NumD) : List (List AV) := (l.map NumD.val).map (unQ 300)
def numsR (l : List NumD) : List (List AV) := (l.map NumD.val).map (unRQ 300)
def k63 : KF
 | [.list 3 X] => some (.tup [.list 3 (numsP (X.map reNum)), .list 4 (numsR (X.map reNum))], [X = (X.map reNum).map unNum, ∀ s ∈ X.map reNum, s.ok, X.length * 128 <= 140737488355328])
 | _ => none
section
variable {S : Nat -> Prop} {w0 : World}
theorem loop63 (ls : List NumD) (hok : ∀ s ∈ ls, s.ok) (hL : ls.length * 128 <= 140737488355328) :
   GF 63 S w0 (.tup [.list 3 (numsP ls), .list 4 (numsR ls)])
   [.code (nav [1, 1, 1, 0, 1, 0, 0] (bodyOf Tryz.f63)), .inLoop (nav [1, 1, 1, 0, 1, 0, 0] (bodyOf Tryz.f63)), .inBlock 0, .code (nav [1, 1, 1, 1] (bodyOf Tryz.f63))]
   ⟨slots 33 [(0, .list 3 (ls.map unNum)), (4, .nil), (5, .nil), (6, .i6 ((0 : Nat) : Int))], []⟩ := by
 refine rows2 (XS := numsP ls) (YS := numsR ls) ls.length (fun i => [.q (ls.getD i default).val 300]) (fun i => [.rq (ls.getD i default).val (ls.getD i default).val.den 300]) (fun a b i h => ⟨slots 33 [(0, .list 3 (ls.map unNum)), (4, a), (5, b), (6, .i6 ((i : Nat) : Int))], h⟩) 0 1 3 4 56 66 ?_ ?_ ?_ ?_ (by rw [numsP, List.map_map]; exact map_range (f := fun s => [.q s.val 300]) ls) (by rw [numsR, List.map_map]; exact map_range (f := fun s => [.rq s.val s.val.den 300]) ls) ?_
 · intro hp hg
   have hs := hok _ (getD_mem hp); have v0 : (0 : Int) < ((ls.map unNum).length : Int) := by rw [lmE]; omega
   exact gR KT63_ok none [0, 4, 5, 6] [4, 6] [(12, tt), (18, .cptr (unNum (ls.getD 0 default)) 0), (14, .i6 ((0 + 1 : Nat) : Int))] (.c6 (iT v0) (show Ref (.cptr ((ls.map unNum).getD 0 []) 0) (.cptr (unNum (ls.getD 0 default)) 0) from Ref.cmap hp) (nn 0) v0 hs r1 (.c6 (dc (0 < 1)) (dc (1 * 56 <= 140737488355328)) (dc (1 <= big)) r1 (dc (0 < 1)) (dc (1 * 64 <= 140737488355328)) (.a2 (dc (1 <= big)) (wI ((0 : Int) + (1 : Int)) ((0 + 1 : Nat) : Int))))) hg
 · intro i A B hi hlt hA hB hg
   have hs := hok _ (getD_mem hlt); have v1 : (i : Int) < ((ls.map unNum).length : Int) := by rw [lmE]; omega
   exact gR KT63_ok none [0, 4, 5, 6] [6, 8] [(12, tt), (18, .cptr (unNum (ls.getD i default)) 0), (14, .i6 ((i + 1 : Nat) : Int))] (.c6 (iT v1) (show Ref (.cptr ((ls.map unNum).getD i []) 0) (.cptr (unNum (ls.getD i default)) 0) from Ref.cmap hlt) (nn i) v1 hs r1 (.c6 (show i = A.length from hA.symm) (om ((i + 1) * 56 <= 140737488355328)) (show i + 1 <= big by unfold big; omega) r1 (show i = B.length from hB.symm) (om ((i + 1) * 64 <= 140737488355328)) (.a2 (show i + 1 <= big by unfold big; omega) (wI ((i : Int) + (1 : Int)) ((i + 1 : Nat) : Int))))) hg
 · intro A B hp hA hB hg
   refine Good.freezeD (b := ⟨56, 3, true, A, none⟩) 0 (by rfl) (by rfl) (.cons (by show 0 + ls.length <= A.length; omega) .nil) .nil ?_; refine Good.freezeD (b := ⟨66, 4, true, B, none⟩) 1 (by rfl) (by rfl) (.cons (by show 0 + ls.length <= B.length; omega) .nil) .nil ?_; refine Good.tidy [] (by decide) (σ' := slots 33 [(0, .list 3 (ls.map unNum)), (4, .list 3 ((A.drop 0).take ls.length)), (5, .list 4 ((B.drop 0).take ls.length)), (6, .i6 ((ls.length : Nat) : Int))]) (h' := []) (by kernel_rfl) (by kernel_rfl) ?_; rw [List.drop_zero, List.drop_zero, tkE (by omega), tkE (by omega)]; exact hg
 · intro h0 hg
   exact Good.weak 33 [(0, _), (4, _), (5, _), (6, _)] (by kernel_rfl) (.r (.cons Ref.nilL (.cons Ref.nilL (.r .nil)))) hg
 · exact rR KT63_ok [(12, ff)] (.a1 (iF (show ¬ ((ls.length : Int) < ((ls.map unNum).length : Int)) by rw [lmE]; omega)))
end
theorem a63 : Ctr 63 k63 := fun args r ob h ho => by
 unfold k63 at h
 split at h
 · rename_i X
   cases h; have o1 : X = (X.map reNum).map unNum := ho _ (by simp); have o2 : ∀ s ∈ X.map reNum, s.ok := ho _ (by simp); have o3 : (X.map reNum).length * 128 <= 140737488355328 := by rw [lmE]; exact ho _ (by simp)
   clear ho; generalize X.map reNum = ls at *; subst o1; refine af Tryz.f63 fun S w0 => ?_
   have e : st0 [AV.list 3 (ls.map unNum)] Tryz.f63.ntmps = ⟨slots 33 [(0, .list 3 (ls.map unNum))], []⟩ := by kernel_rfl
   rw [e]; clear e; exact gN KT63_ok [0, 4, 5, 6] [] .nil (loop63 ls o2 o3)
 · cases h
structure StandD where
 at_ : SpotD
 turn : NumD
 joints : List NumD
 deriving Inhabited
structure PoseD where
 at_ : PtD
 turn : Rat
 joints : List Rat
 deriving Inhabited
def unStand (s : StandD) : List AV := [.i6 s.at_.x.n, .i6 s.at_.x.d, .int .u8 s.at_.x.p, .i6 s.at_.z.n, .i6 s.at_.z.d, .int .u8 s.at_.z.p, .i6 s.turn.n, .i6 s.turn.d, .int .u8 s.turn.p, .list 3 (s.joints.map unNum)]
def StandD.ok (s : StandD) : Prop := s.at_.ok /\ s.turn.ok /\ (∀ v ∈ s.joints, v.ok) /\ s.joints.length * 128 <= 140737488355328
def StandD.real (s : StandD) : PoseD := ⟨s.at_.pt, s.turn.val, s.joints.map NumD.val⟩
def unPose (B : Nat) (p : PoseD) : List AV := [.q p.at_.x B, .q p.at_.z B, .q p.turn B, .list 3 (p.joints.map (unQ B))]
def unRPose (B : Nat) (p : PoseD) : List AV := [.rq p.at_.x p.at_.x.den B, .rq p.at_.z p.at_.z.den B, .rq p.turn p.turn.den B, .list 4 (p.joints.map (unRQ B))]
def k19 : KF
 | [.agg [.int .i64 n, .int .i64 d, .int .u8 p, .int .i64 n', .int .i64 d', .int .u8 p', .int .i64 nt, .int .i64 dt, .int .u8 pt, .list 3 X]] => some (.tup [.agg [.q (numV n d p) 300, .q (numV n' d' p') 300, .q (numV nt dt pt) 300, .list 3 (numsP (X.map reNum))], .agg [.rq (numV n d p) (numV n d p).den 300, .rq (numV n' d' p') (numV n' d' p').den 300, .rq (numV nt dt pt) (numV nt dt pt).den 300, .list 4 (numsR (X.map reNum))]], [okN n d p, okN n' d' p', okN nt dt pt, X = (X.map reNum).map unNum, ∀ s ∈ X.map reNum, s.ok, X.length * 128 <= 140737488355328])
 | _ => none
theorem a19 : Ctr 19 k19 := by
 refine ctr Tryz.f19 fun _ _ _ S w0 h ho => ?_
 unfold k19 at h; split at h <;> cases h; rename_i n d p n' d' p' nt dt pt X; obtain ⟨o1, o2, o3, o4, o5, o6⟩ := ho.e6; have K := ((kn.cons a63).cons a24).cons a23; exact rR K [] (.a6 o1 o2 o3 o4 o5 o6)
def KT20_ok := kn
noncomputable abbrev c20T0 : List Item := [.code (nav [1, 1, 0, 1, 0, 0] (bodyOf Tryz.f20)), .inLoop (nav [1, 1, 0, 1, 0, 0] (bodyOf Tryz.f20)), .inBlock 0, .code (nav [1, 1, 1] (bodyOf Tryz.f20))]
noncomputable abbrev c20T1 : List Item := [.code (nav [1, 1, 1, 0, 1, 0, 0] (bodyOf Tryz.f20)), .inLoop (nav [1, 1, 1, 0, 1, 0, 0] (bodyOf Tryz.f20)), .inBlock 2, .code (nav [1, 1, 1, 1] (bodyOf Tryz.f20))]
def RigD.small (r : RigD) : Bool := decide (r.limbs.length <= 8 /\ r.springs.length <= 5 /\ r.tendons.length <= 5 /\ r.drives.length <= 9 /\ r.soles.length <= 5 /\ (∀ v ∈ r.limbs, v.shape.length <= 6) /\ (∀ v ∈ r.soles, v.pts.length <= 6))
def k20 : KF
 | [.agg R] => some (.bool (reRig R).small, [R = unRig (reRig R), (reRig R).ok])
 | _ => none
theorem down {G : Nat -> Prop} (n : Nat) (hend : G n) (hs : ∀ i, i < n -> G (i + 1) -> G i) : G 0 := by
 have key : ∀ f i, i + f = n -> G i := by
   intro f
   induction f with
   | zero => intro i h; have : i = n := by omega
             subst this; exact hend
   | succ f ih => intro i h; exact hs i (by omega) (ih (i + 1) (by omega))
 exact key n 0 (by omega)
theorem getD_all {α : Type} [Inhabited α] {xs : List α} {p : α -> Prop} (h : ∀ j, j < xs.length -> p (xs.getD j default)) : ∀ v ∈ xs, p v := fun v hv => by
 obtain ⟨j, hj, rfl⟩ := List.getElem_of_mem hv
 have := h j hj; simpa [gdE, hj] using this
section
variable {S : Nat -> Prop} {w0 : World}
theorem ret20 {r : RigD} {todo : List Item} {σ : List AV} {h : List (Option ABlk)} {b : Bool} (e : b = r.small) (hσ : σ.getD 2 .any = .bool b) : GF 20 S w0 (.bool r.small) (.code .ret :: todo) ⟨σ, h⟩ :=
 good_ret1 TT0_ok (fn := Tryz.f20) (by kernel_rfl) 2 (by kernel_rfl) rfl (by rw [hσ]; rfl) (by rw [hσ, e]; exact rr)
theorem loop20b {r : RigD} (hok : r.ok) (h0 : r.limbs.length <= 8 /\ r.springs.length <= 5 /\ r.tendons.length <= 5 /\ r.drives.length <= 9 /\ r.soles.length <= 5 /\ (∀ v ∈ r.limbs, v.shape.length <= 6)) :
   GF 20 S w0 (.bool r.small) c20T1
   ⟨slots 63 [(1, .ptr 0 5 0 0), (4, .i6 ((0 : Nat) : Int))], [some ⟨27, 5, false, [unRig r], none⟩]⟩ := by
 refine down (G := fun i => (∀ j, j < i -> (r.soles.getD j default).pts.length <= 6) -> GF 20 S w0 (.bool r.small) c20T1
   ⟨slots 63 [(1, .ptr 0 5 0 0), (4, .i6 ((i : Nat) : Int))], [some ⟨27, 5, false, [unRig r], none⟩]⟩) r.soles.length ?_ ?_ (fun j hj => absurd hj (Nat.not_lt_zero j))
 · intro hj
   exact rF KT20_ok [(52, ff)] (.a1 (iF (show ¬ ((r.soles.length : Int) < ((r.soles.map unSole).length : Int)) by rw [lmE]; omega))) (V := .bool true) (Ref.bool (decide_eq_true ⟨h0.1, h0.2.1, h0.2.2.1, h0.2.2.2.1, h0.2.2.2.2.1, h0.2.2.2.2.2, getD_all hj⟩).symm)
 · intro i hlt ih hj
   have v0 : (i : Int) < ((r.soles.map unSole).length : Int) := by rw [lmE]; omega
   have v1 : Ref (.cptr ((r.soles.map unSole).getD i []) 0) (.cptr (unSole (r.soles.getD i default)) 0) := Ref.cmap hlt
   by_cases c : (r.soles.getD i default).pts.length <= 6
   · have hl := h0.2.2.2.2.1
     exact gN KT20_ok [1, 2, 4] [(52, tt), (58, .cptr (unSole (r.soles.getD i default)) 0), (62, ff), (54, .i6 ((i + 1 : Nat) : Int))] (.a6 (iT v0) v1 (nn i) v0 (iF (show ¬ ((6 : Int) < (((r.soles.getD i default).pts.map unSpot).length : Int)) by rw [lmE]; omega)) (wI ((i : Int) + (1 : Int)) ((i + 1 : Nat) : Int))) (ih fun j hj' => if e : j = i then e ▸ c else hj j (by omega))
   · exact rF KT20_ok [(52, tt), (58, .cptr (unSole (r.soles.getD i default)) 0), (62, tt)] (.a5 (iT v0) v1 (nn i) v0 (iT (show (6 : Int) < (((r.soles.getD i default).pts.map unSpot).length : Int) by rw [lmE]; omega))) (V := .bool false) (Ref.bool (decide_eq_false fun h => c (h.2.2.2.2.2.2 _ (getD_mem hlt))).symm)
theorem loop20a {r : RigD} (hok : r.ok) (h0 : r.limbs.length <= 8 /\ r.springs.length <= 5 /\ r.tendons.length <= 5 /\ r.drives.length <= 9 /\ r.soles.length <= 5) :
   GF 20 S w0 (.bool r.small) c20T0
   ⟨slots 63 [(1, .ptr 0 5 0 0), (3, .i6 ((0 : Nat) : Int))], [some ⟨27, 5, false, [unRig r], none⟩]⟩ := by
 refine down (G := fun i => (∀ j, j < i -> (r.limbs.getD j default).shape.length <= 6) -> GF 20 S w0 (.bool r.small) c20T0
   ⟨slots 63 [(1, .ptr 0 5 0 0), (3, .i6 ((i : Nat) : Int))], [some ⟨27, 5, false, [unRig r], none⟩]⟩) r.limbs.length ?_ ?_ (fun j hj => absurd hj (Nat.not_lt_zero j))
 · intro hj
   exact gN KT20_ok [1, 4] [(37, ff)] (.a1 (iF (show ¬ ((r.limbs.length : Int) < ((r.limbs.map unLimb).length : Int)) by rw [lmE]; omega))) (loop20b hok ⟨h0.1, h0.2.1, h0.2.2.1, h0.2.2.2.1, h0.2.2.2.2, getD_all hj⟩)
 · intro i hlt ih hj
   have v0 : (i : Int) < ((r.limbs.map unLimb).length : Int) := by rw [lmE]; omega
   have v1 : Ref (.cptr ((r.limbs.map unLimb).getD i []) 0) (.cptr (unLimb (r.limbs.getD i default)) 0) := Ref.cmap hlt
   by_cases c : (r.limbs.getD i default).shape.length <= 6
   · have hl := h0.1
     refine gN KT20_ok [1, 2, 3] [(37, tt), (43, .cptr (unLimb (r.limbs.getD i default)) 0), (47, ff), (39, .i6 ((i + 1 : Nat) : Int))] (.a6 (iT v0) v1 (nn i) v0 (iF (show ¬ ((6 : Int) < (((r.limbs.getD i default).shape.map unSpot).length : Int)) by rw [lmE]; omega)) (wI ((i : Int) + (1 : Int)) ((i + 1 : Nat) : Int))) (t := c20T0) (σ := slots 63 [(1, .ptr 0 5 0 0), (3, .i6 ((i + 1 : Nat) : Int))]) (h := [some ⟨27, 5, false, [(unRig r)], none⟩]) ?_
     exact ih fun j hj' => by by_cases e : j = i
                              · subst e; exact c
                              · exact hj j (by omega)
   · exact rF KT20_ok [(37, tt), (43, .cptr (unLimb (r.limbs.getD i default)) 0), (47, tt)] (.a5 (iT v0) v1 (nn i) v0 (iT (show (6 : Int) < (((r.limbs.getD i default).shape.map unSpot).length : Int) by rw [lmE]; omega))) (V := .bool false) (Ref.bool (decide_eq_false fun h => c (h.2.2.2.2.2.1 _ (getD_mem hlt))).symm)
end
theorem a20 : Ctr 20 k20 := by
 refine ctr Tryz.f20 fun _ _ _ S w0 h ho => ?_
 unfold k20 at h; split at h <;> cases h; rename_i R; obtain ⟨o1, o2⟩ := ho.e2; clear ho; generalize reRig R = r at *; subst o1; have len : ∀ {α : Type} {f : α -> List AV} {l : List α} {n : Nat}, ¬ l.length <= n -> ((n : Nat) : Int) < (((l.map f).length : Nat) : Int) := fun h => by rw [lmE]; omega
 have len' : ∀ {α : Type} {f : α -> List AV} {l : List α} {n : Nat}, l.length <= n -> ¬ ((n : Nat) : Int) < (((l.map f).length : Nat) : Int) := fun h => by rw [lmE]; omega
 by_cases c1 : r.limbs.length <= 8
 · have v0 : Ref (.bool (decide ((8 : Int) < ((r.limbs.map unLimb).length : Int)))) (.bool false) := Ref.bool (decide_eq_false (len' c1))
   by_cases c2 : r.springs.length <= 5
   · have v1 : Ref (.bool (decide ((5 : Int) < ((r.springs.map unCord).length : Int)))) (.bool false) := Ref.bool (decide_eq_false (len' c2))
     by_cases c3 : r.tendons.length <= 5
     · have v2 : Ref (.bool (decide ((5 : Int) < ((r.tendons.map unCord).length : Int)))) (.bool false) := Ref.bool (decide_eq_false (len' c3))
       by_cases c4 : r.drives.length <= 9
       · have v3 : Ref (.bool (decide ((9 : Int) < ((r.drives.map unDrive).length : Int)))) (.bool false) := Ref.bool (decide_eq_false (len' c4))
         by_cases c5 : r.soles.length <= 5
         · refine gN KT20_ok [1, 2, 3] [(9, ff), (15, ff), (21, ff), (27, ff), (32, ff)] (.a5 v0 v1 v2 v3 (show Ref (.bool (decide ((5 : Int) < ((r.soles.map unSole).length : Int)))) (.bool false) from Ref.bool (decide_eq_false (len' c5)))) (t := c20T0) (σ := slots 63 [(1, .ptr 0 5 0 0), (2, .bool false), (3, .i6 (0 : Int))]) (h := [some ⟨27, 5, false, [(unRig r)], none⟩]) ?_
           exact Good.weak 63 [(1, _), (3, _)] (by kernel_rfl) (.r (.r .nil)) (loop20a o2 ⟨c1, c2, c3, c4, c5⟩)
         · exact rF KT20_ok [(9, ff), (15, ff), (21, ff), (27, ff), (32, tt)] (.a5 v0 v1 v2 v3 (show Ref (.bool (decide ((5 : Int) < ((r.soles.map unSole).length : Int)))) (.bool true) from Ref.bool (decide_eq_true (len c5)))) (V := .bool false) (Ref.bool (decide_eq_false fun h => c5 h.2.2.2.2.1).symm)
       · exact rF KT20_ok [(9, ff), (15, ff), (21, ff), (27, tt)] (.a4 v0 v1 v2 (show Ref (.bool (decide ((9 : Int) < ((r.drives.map unDrive).length : Int)))) (.bool true) from Ref.bool (decide_eq_true (len c4)))) (V := .bool false) (Ref.bool (decide_eq_false fun h => c4 h.2.2.2.1).symm)
     · exact rF KT20_ok [(9, ff), (15, ff), (21, tt)] (.a3 v0 v1 (show Ref (.bool (decide ((5 : Int) < ((r.tendons.map unCord).length : Int)))) (.bool true) from Ref.bool (decide_eq_true (len c3)))) (V := .bool false) (Ref.bool (decide_eq_false fun h => c3 h.2.2.1).symm)
   · exact rF KT20_ok [(9, ff), (15, tt)] (.a2 v0 (show Ref (.bool (decide ((5 : Int) < ((r.springs.map unCord).length : Int)))) (.bool true) from Ref.bool (decide_eq_true (len c2)))) (V := .bool false) (Ref.bool (decide_eq_false fun h => c2 h.2.1).symm)
 · exact rF KT20_ok [(9, tt)] (.a1 (show Ref (.bool (decide ((8 : Int) < ((r.limbs.map unLimb).length : Int)))) (.bool true) from Ref.bool (decide_eq_true (len c1)))) (V := .bool false) (Ref.bool (decide_eq_false fun h => c1 h.1).symm)
def KT188_ok := kn
abbrev n188_0 (ff : Func) : List Item := [.code (nav [1, 1, 0, 1, 0, 0] (bodyOf ff)), .inLoop (nav [1, 1, 0, 1, 0, 0] (bodyOf ff)), .inBlock 0, .code (nav [1, 1, 1] (bodyOf ff))]
section
variable {S0 C0 : Nat -> Prop} {w0 : World} {Post : Value -> World -> Prop}
theorem p188_1_1 (X : List (List AV)) (i n : Nat) (c : Int) (h1 : (i : Int) < (n : Int)) (h2 : c = (0 : Int)) (o : (Ref (.cptr (X.getD i []) 0) (.cptr [.i6 c] 0)) /\ ((i : Int) < (X.length : Int)) /\ (-9223372036854775808 <= (i : Int) + (1 : Int) /\ (i : Int) + (1 : Int) <= 9223372036854775807))
   (hg : Good Tryz.prog 188 S0 C0 w0 Post (n188_0 Tryz.f188) ⟨slots 18 [(3, .i6 (0 : Int)), (6, .list 1 X), (7, .i6 (n : Int)), (8, .i6 ((i + 1 : Nat) : Int))], []⟩) :
   Good Tryz.prog 188 S0 C0 w0 Post (n188_0 Tryz.f188) ⟨slots 18 [(3, .i6 (0 : Int)), (6, .list 1 X), (7, .i6 (n : Int)), (8, .i6 (i : Int))], []⟩ :=
 go mixed TT0_ok KT188_ok 21 none [2, 3, 6, 7, 8] [(9, (.bool true)), (10, (.cptr [.i6 c] 0)), (14, (.bool false)), (16, (.i6 ((i + 1 : Nat) : Int)))] (ob := [Ref (.bool (decide ((i : Int) < (n : Int)))) (.bool true), Ref (.cptr (X.getD i []) 0) (.cptr [.i6 c] 0), 0 <= (i : Int), (i : Int) < (X.length : Int), Ref (.bool (!decide (c = (0 : Int)))) (.bool false), Ref (.i6 (IntKind.i64.wrap ((i : Int) + (1 : Int)))) (.i6 ((i + 1 : Nat) : Int))]) (by kernel_rfl)
   (.cons (Ref.bool (decide_eq_true h1)) (.cons (o.1) (.cons (Int.natCast_nonneg _) (.cons (o.2.1) (.cons (Ref.bool (congrArg Bool.not (decide_eq_true h2))) (.cons ((Ref.wr o.2.2).trans (Ref.int (by rfl))) (AllP.nil))))))) hg
end
def unI (n : Int) : List AV := [.i6 n]
def reI : List AV -> Int
 | [.int _ n] => n
 | _ => 0
def orE : List Int -> Int
 | [] => 0
 | e :: es => if e = 0 then orE es else e
theorem orE_eq {es : List Int} {r : Int} (i : Nat) (h : ∀ j, j < i -> es.getD j 0 = 0) (k : (i < es.length /\ es.getD i 0 = r /\ r ≠ 0) \/ es.length <= i /\ r = 0) : r = orE es := by
 induction es generalizing i with
 | nil => rcases k with ⟨k, _⟩ | ⟨_, k⟩
          · simp at k
          · exact k
 | cons e es ih =>
   cases i with
   | zero =>
     rcases k with ⟨_, k, k'⟩ | ⟨k, _⟩
     · simp at k; subst k; simp [orE, k']
     · simp at k
   | succ i =>
     have h0 : e = 0 := by simpa using h 0 (by omega)
     subst h0; simp only [orE, if_true]; refine ih i (fun j hj => by simpa using h (j + 1) (by omega)) ?_; rcases k with ⟨k1, k2, k3⟩ | ⟨k1, k2⟩
     · exact .inl ⟨by simpa using k1, by simpa using k2, k3⟩
     · exact .inr ⟨by simpa using k1, k2⟩
theorem Ref.cI {es : List Int} {i : Nat} (h : i < es.length) : Ref (.cptr ((es.map unI).getD i []) 0) (.cptr [.i6 (es.getD i 0)] 0) := by
 have : es.getD i 0 = es.getD i default := rfl; rw [this]; exact Ref.cmap (f := unI) h
def k188 : KF
 | [.list 1 X] => some (.int .i64 (orE (X.map reI)), [X = (X.map reI).map unI, X.length <= 4611686018427387904])
 | _ => none
section
variable {S : Nat -> Prop} {w0 : World}
theorem ret188 {s : List Int} {todo : List Item} {σ : List AV} {h : List (Option ABlk)} {b : Int} (e : b = orE s) (hσ : σ.getD 2 .any = .i6 b) : GF 188 S w0 (.i6 (orE s)) (.code .ret :: todo) ⟨σ, h⟩ :=
 good_ret1 TT0_ok (fn := Tryz.f188) (by kernel_rfl) 2 (by kernel_rfl) rfl (by rw [hσ]; rfl) (by rw [hσ, e]; exact rr)
noncomputable abbrev T188 : List Item := [.code (nav [1, 1, 0, 1, 0, 0] (bodyOf Tryz.f188)), .inLoop (nav [1, 1, 0, 1, 0, 0] (bodyOf Tryz.f188)), .inBlock 0, .code (nav [1, 1, 1] (bodyOf Tryz.f188))]
theorem loop188 {es : List Int} (hL : es.length <= 4611686018427387904) :
   GF 188 S w0 (.i6 (orE es)) T188 ⟨slots 18 [(3, .i6 (0 : Int)), (6, .list 1 (es.map unI)), (7, .i6 ((es.length : Nat) : Int)), (8, .i6 ((0 : Nat) : Int))], []⟩ := by
 refine down (G := fun i => (∀ j, j < i -> es.getD j 0 = 0) -> GF 188 S w0 (.i6 (orE es)) T188 ⟨slots 18 [(3, .i6 (0 : Int)), (6, .list 1 (es.map unI)), (7, .i6 ((es.length : Nat) : Int)), (8, .i6 ((i : Nat) : Int))], []⟩) es.length ?_ ?_ (fun j hj => absurd hj (Nat.not_lt_zero j))
 · intro hj
   exact rF KT188_ok [(9, ff)] (.a1 (iF (om (¬ ((es.length : Int) < (es.length : Int)))))) (V := .i6 (0 : Int)) (Ref.int (orE_eq es.length hj (.inr ⟨Nat.le_refl _, rfl⟩)))
 · intro i hlt ih hj
   by_cases c : es.getD i 0 = 0
   · exact p188_1_1 (es.map unI) i es.length (es.getD i 0) (by omega) c ⟨Ref.cI hlt, by rw [lmE]; omega, by omega⟩ (ih fun j hj' => by
       by_cases e : j = i
       · subst e; exact c
       · exact hj j (by omega))
   · exact rF KT188_ok [(9, tt), (10, .cptr [.i6 (es.getD i 0)] 0), (14, tt)] (.a5 (iT (om ((i : Int) < (es.length : Int)))) (show Ref (.cptr ((es.map unI).getD i []) 0) (.cptr [.i6 (es.getD i 0)] 0) from Ref.cI hlt) (nn i) (show (i : Int) < ((es.map unI).length : Int) by rw [lmE]; omega) (jT c)) (V := .i6 (es.getD i 0)) (Ref.int (orE_eq i hj (.inl ⟨hlt, rfl, c⟩)))
end
theorem a188 : Ctr 188 k188 := by
 refine ctr Tryz.f188 fun _ _ _ S w0 h ho => ?_
 unfold k188 at h; split at h <;> cases h; rename_i X; obtain ⟨o1, -⟩ := ho.e2; have o2 : (X.map reI).length <= 4611686018427387904 := by rw [lmE]; exact ho _ (by simp)
 clear ho; generalize X.map reI = es at *; subst o1; refine gN KT188_ok [0, 2, 3, 6, 7, 8] [] .nil (t := T188) (σ := slots 18 [(0, .list 1 (es.map unI)), (2, .i6 (0 : Int)), (3, .i6 (0 : Int)), (6, .list 1 (es.map unI)), (7, .i6 ((es.map unI).length : Int)), (8, .i6 (0 : Int))]) (h := []) ?_
 rw [lmE]; exact Good.weak 18 [(3, _), (6, _), (7, _), (8, _)] (by kernel_rfl) (.r (.r (.r (.r .nil)))) (loop188 o2)
def KT187_ok := kn
abbrev n187_0 (ff : Func) : List Item := [.code (nav [1, 1, 0, 1, 0, 0] (bodyOf ff)), .inLoop (nav [1, 1, 0, 1, 0, 0] (bodyOf ff)), .inBlock 0, .code (nav [1, 1, 1] (bodyOf ff))]
section
variable {S0 C0 : Nat -> Prop} {w0 : World} {Post : Value -> World -> Prop}
theorem p187_0_3 (s : ByteArray) (h1 : ¬ ((s.size : Int) < (1 : Int))) (h2 : ¬ ((32 : Int) < (s.size : Int))) (h3 : (48 : Int) <= ((s.data.toList.getD 0 0).toNat : Int)) (h4 : ¬ ((((s.data.toList.getD 0 0).toNat : Nat) : Int) <= (57 : Int))) (o : ((0 : Int) < (s.size : Int)))
   (hg : Good Tryz.prog 187 S0 C0 w0 Post (n187_0 Tryz.f187) ⟨slots 61 [(0, .str s), (2, .bool false), (24, .i6 (s.size : Int)), (25, .i6 (0 : Int))], []⟩) :
   Good Tryz.prog 187 S0 C0 w0 Post [.code (nav [] (bodyOf Tryz.f187))] ⟨slots 61 [(0, .str s)], []⟩ :=
 go mixed TT0_ok KT187_ok 17 none [0, 2, 24, 25] [(8, (.bool false)), (13, (.bool false)), (17, (.bool true)), (22, (.bool false))] (ob := [Ref (.bool (decide ((s.size : Int) < (1 : Int)))) (.bool false), Ref (.bool (decide ((32 : Int) < (s.size : Int)))) (.bool false), 0 <= (0 : Int), (0 : Int) < (s.size : Int), Ref (.bool (decide ((48 : Int) <= ((s.data.toList.getD 0 0).toNat : Int)))) (.bool true), 0 <= (0 : Int), (0 : Int) < (s.size : Int), Ref (.bool (decide ((((s.data.toList.getD 0 0).toNat : Nat) : Int) <= (57 : Int)))) (.bool false)]) (by kernel_rfl)
   (.cons (Ref.bool (decide_eq_false h1)) (.cons (Ref.bool (decide_eq_false h2)) (.cons (by decide) (.cons (o) (.cons (Ref.bool (decide_eq_true h3)) (.cons (by decide) (.cons (o) (.cons (Ref.bool (decide_eq_false h4)) (AllP.nil))))))))) hg
theorem p187_0_4 (s : ByteArray) (h1 : ¬ ((s.size : Int) < (1 : Int))) (h2 : ¬ ((32 : Int) < (s.size : Int))) (h3 : ¬ ((48 : Int) <= ((s.data.toList.getD 0 0).toNat : Int))) (o : ((0 : Int) < (s.size : Int)))
   (hg : Good Tryz.prog 187 S0 C0 w0 Post (n187_0 Tryz.f187) ⟨slots 61 [(0, .str s), (2, .bool false), (24, .i6 (s.size : Int)), (25, .i6 (0 : Int))], []⟩) :
   Good Tryz.prog 187 S0 C0 w0 Post [.code (nav [] (bodyOf Tryz.f187))] ⟨slots 61 [(0, .str s)], []⟩ :=
 go mixed TT0_ok KT187_ok 17 none [0, 2, 24, 25] [(8, (.bool false)), (13, (.bool false)), (17, (.bool false))] (ob := [Ref (.bool (decide ((s.size : Int) < (1 : Int)))) (.bool false), Ref (.bool (decide ((32 : Int) < (s.size : Int)))) (.bool false), 0 <= (0 : Int), (0 : Int) < (s.size : Int), Ref (.bool (decide ((48 : Int) <= ((s.data.toList.getD 0 0).toNat : Int)))) (.bool false)]) (by kernel_rfl)
   (.cons (Ref.bool (decide_eq_false h1)) (.cons (Ref.bool (decide_eq_false h2)) (.cons (by decide) (.cons (o) (.cons (Ref.bool (decide_eq_false h3)) (AllP.nil)))))) hg
end
end Go.Av
