/- PoseHinges: a part of its proof. No condition. -/
import Derived.Test.YtbdhgnlabjmnoaaGreatK3
set_option linter.all false
set_option maxRecDepth 100000
set_option autoImplicit true
set_option relaxedAutoImplicit true
namespace Go.Av
open Go.Proofs Go.RowKit
theorem Chg.alloc (w : World) (o : Obj) : Chg No w (w.alloc o) := Chg.ofNo rfl rfl rfl (by simp) fun k hk => Below.heap_alloc w o k hk
def Aft (F : Nat -> List AV) (n r : Nat) (S1 : Nat -> Prop) (w : World) (β : Base) : Prop :=
 β.S = S1 /\ (∀ k, β.C k -> w.heap.size <= k) /\ ¬ β.C r /\ Chg No w β.w /\ Memo F n (fun k => S1 k \/ β.C k) β.w r
abbrev mapV (r : Nat) : AV := .lit (.map (some r))
abbrev ptrV (k : Nat) : AV := .lit (.pointer (some ⟨k, 0, none⟩))
structure G4 where
 ov : List (Nat × AV)
 r : Nat
 k : Nat
structure J4 (F : Nat -> List AV) (S : Nat -> Prop) (w : World) (l0 l7 l8 l9 l10 : Bool) (g : G4) (β : Base) : Prop where
 c : ∀ x, β.C x -> w.heap.size <= x
 chg : Chg No w β.w
 ov : g.ov = (if l0 = true then [(17, mapV g.r)] else []) ++ (if l8 = true then [(24, mapV g.r)] else []) ++ (if l9 = true then [(7, ptrV g.k)] else [])
 s : ∀ x, β.S x ↔ S x \/ (l0 = true /\ x = g.r) \/ (l9 = true /\ x = g.k)
 r0 : l0 = true -> w.heap.size <= g.r /\ ¬ β.C g.r /\ g.r < β.w.heap.size
 r1 : l0 = true -> l7 = false -> β.w.heap[g.r]? = some (.map #[] 0)
 r2 : l7 = true -> Memo F 1 (fun x => β.S x \/ β.C x) β.w g.r
 k0 : l9 = true -> w.heap.size <= g.k /\ ¬ β.C g.k /\ g.k < β.w.heap.size
 k1 : l9 = true -> ∃ c, β.w.heap[g.k]? = some (.cells #[c] 366 (0, 0)) /\ (l10 = true -> c = .map (some g.r))
 e7 : l7 = true -> l0 = true
 e8 : l8 = true -> l7 = true
 e10 : l10 = true -> l8 = true /\ l9 = true
def I4 (F : Nat -> List AV) (S : Nat -> Prop) (w : World) (L : Array Bool) (g : G4) (β : Base) : Prop :=
 J4 F S w (L.getD 0 false) (L.getD 7 false) (L.getD 8 false) (L.getD 9 false) (L.getD 10 false) g β
theorem I4.other {F : Nat -> List AV} {S : Nat -> Prop} {w : World} {L : Array Bool} {i : Nat} {g : G4} {β : Base} (hi : i ∉ [0, 7, 8, 9, 10]) (h : I4 F S w L g β) : I4 F S w (L.setIfInBounds i true) g β := by
 have e : ∀ j ∈ [0, 7, 8, 9, 10], (L.setIfInBounds i true).getD j false = L.getD j false := fun j hj => by
   rw [getD_setA, if_neg]; rintro ⟨rfl, _⟩; exact hi hj
 unfold I4; rw [e 0 (by simp), e 7 (by simp), e 8 (by simp), e 9 (by simp), e 10 (by simp)]; exact h
section
variable {S0 C0 : Nat -> Prop} {w0 w : World} {ρ : Nat -> Nat} {D : Nat -> Prop} {σ : List AV} {h : List (Option ABlk)} {a : Act}
theorem Rel.ownC_no (R : Rel S0 C0 w0 ρ D ⟨σ, h⟩ a w) {x : Nat} (hx : S0 x) : ¬ ownC ρ h x := by
 rintro ⟨l, b, hb, rfl⟩; exact (R.mine l b hb).2.1 hx
theorem Rel.ownC_lt (R : Rel S0 C0 w0 ρ D ⟨σ, h⟩ a w) {x : Nat} (hx : ownC ρ h x) : x < w.heap.size := by
 obtain ⟨l, b, hb, rfl⟩ := hx; obtain ⟨_, arr, h1, _⟩ := R.heap l b hb; exact heap_lt h1
theorem Rel.ownC_ge (R : Rel S0 C0 w0 ρ D ⟨σ, h⟩ a w) {x n : Nat} (hx : ownC ρ h x) (hC : ∀ k, C0 k -> n <= k) (hn : n <= w0.heap.size) : n <= x := by
 obtain ⟨l, b, hb, rfl⟩ := hx; rcases (R.mine l b hb).1 with h1 | h1
 · exact hC _ h1
 · omega
end
theorem getD_ne {σ : List AV} {t : Nat} {V : AV} (h : σ.getD t .any = V) (hV : V ≠ .any) : t < σ.length := by
 rcases Nat.lt_or_ge t σ.length with h1 | h1
 · exact h1
 · rw [gdE, List.getElem?_eq_none h1] at h
   exact absurd h.symm hV
theorem set_at {σ : List AV} {t : Nat} {V : AV} (h : t < σ.length) : (σ.set t V).getD t .any = V := by
 rw [set_getD, if_pos ⟨rfl, h⟩]
noncomputable abbrev R4 : Code := nav [1, 1, 0] (bodyOf Tryz.f117)
theorem r4_size : (regOps R4).size = 11 := by kernel_rfl
theorem r4_0 : ∀ oX, (regOps R4)[0]? = some oX -> oX.op = .makeMap 366 none /\ oX.dst = some 17 := by
 intro oX h; have : (regOps R4)[0]? = some (((regOps R4).toList[0]?).getD default) := by kernel_rfl
 rw [this] at h; injection h with h; subst h; exact ⟨by kernel_rfl, by kernel_rfl⟩
theorem r4_7 : ∀ oX, (regOps R4)[7]? = some oX -> oX.op = .insert 366 (.tmp 17) (.const (.int .i64 0)) (.tmp 23) /\ oX.dst = none /\ (∃ e ∈ oX.after.toList, Region.binds .any e = true /\ e.on = 0) := by
 intro oX h; have : (regOps R4)[7]? = some (((regOps R4).toList[7]?).getD default) := by kernel_rfl
 rw [this] at h; injection h with h; subst h; refine ⟨by kernel_rfl, by kernel_rfl, ?_⟩; have h1 : (((regOps R4).toList[7]?).getD default).after.toList.any (fun e => Region.binds .any e && e.on == 0) = true := by kernel_rfl
 obtain ⟨e, e1, e2⟩ := List.any_eq_true.1 h1; rw [Bool.and_eq_true] at e2; exact ⟨e, e1, e2.1, by simpa using e2.2⟩
theorem r4_8 : ∀ oX, (regOps R4)[8]? = some oX -> oX.op = .move (.tmp 17) /\ oX.dst = some 24 /\ (∃ e ∈ oX.after.toList, Region.binds .any e = true /\ e.on = 7) := by
 intro oX h; have : (regOps R4)[8]? = some (((regOps R4).toList[8]?).getD default) := by kernel_rfl
 rw [this] at h; injection h with h; subst h; refine ⟨by kernel_rfl, by kernel_rfl, ?_⟩; have h1 : (((regOps R4).toList[8]?).getD default).after.toList.any (fun e => Region.binds .any e && e.on == 7) = true := by kernel_rfl
 obtain ⟨e, e1, e2⟩ := List.any_eq_true.1 h1; rw [Bool.and_eq_true] at e2; exact ⟨e, e1, e2.1, by simpa using e2.2⟩
theorem r4_9 : ∀ oX, (regOps R4)[9]? = some oX -> oX.op = .alloc 366 /\ oX.dst = some 7 := by
 intro oX h; have : (regOps R4)[9]? = some (((regOps R4).toList[9]?).getD default) := by kernel_rfl
 rw [this] at h; injection h with h; subst h; exact ⟨by kernel_rfl, by kernel_rfl⟩
theorem r4_10 : ∀ oX, (regOps R4)[10]? = some oX -> oX.op = .store 366 (.tmp 7) (.tmp 24) /\ oX.dst = none /\ (∃ e ∈ oX.after.toList, Region.binds .any e = true /\ e.on = 8) /\ (∃ e ∈ oX.after.toList, Region.binds .any e = true /\ e.on = 9) := by
 intro oX h; have : (regOps R4)[10]? = some (((regOps R4).toList[10]?).getD default) := by kernel_rfl
 rw [this] at h; injection h with h; subst h; refine ⟨by kernel_rfl, by kernel_rfl, ?_, ?_⟩
 · have h1 : (((regOps R4).toList[10]?).getD default).after.toList.any (fun e => Region.binds .any e && e.on == 8) = true := by kernel_rfl
   obtain ⟨e, e1, e2⟩ := List.any_eq_true.1 h1; rw [Bool.and_eq_true] at e2; exact ⟨e, e1, e2.1, by simpa using e2.2⟩
 · have h1 : (((regOps R4).toList[10]?).getD default).after.toList.any (fun e => Region.binds .any e && e.on == 9) = true := by kernel_rfl
   obtain ⟨e, e1, e2⟩ := List.any_eq_true.1 h1; rw [Bool.and_eq_true] at e2; exact ⟨e, e1, e2.1, by simpa using e2.2⟩
theorem alloc366 (w : World) : (Instr.alloc 366 true (.tuple #[])).run Tryz.prog w = .ok (.pointer (some ⟨w.heap.size, 0, none⟩)) (w.alloc (.cells #[.map none] 366 (0, 0))) := by
 have hz : (zeroValue 366).run Tryz.prog w = .ok (.map none) w := by kernel_rfl
 simp only [Instr.alloc, newVar, newRow, newObj, Sem.run_bind, hz, Result.andThen_ok, Sem.run_pure]; rfl
theorem lay_append (xs ys : List (Nat × AV)) (σ : List AV) : lay (xs ++ ys) σ = lay ys (lay xs σ) := List.foldl_append ..
theorem lay_mid {xs ys : List (Nat × AV)} {σ : List AV} {d : Nat} {V X : AV} (hx : ∀ p ∈ xs, p.1 ≠ d) (hy : ∀ p ∈ ys, p.1 ≠ d) : lay (xs ++ (d, X) :: ys) (σ.set d V) = (lay (xs ++ ys) σ).set d X := by
 rw [lay_append, lay_append, lay_set hx]; show lay ys (((lay xs σ).set d V).set d X) = _; rw [List.set_set, lay_set hy]
theorem lay_at {xs ys : List (Nat × AV)} {σ : List AV} {d : Nat} {X : AV} (hy : ∀ p ∈ ys, p.1 ≠ d) (hd : d < σ.length) : (lay (xs ++ (d, X) :: ys) σ).getD d .any = X := by
 have hl : ∀ (xs : List (Nat × AV)) (σ : List AV), (lay xs σ).length = σ.length := by
   intro xs
   induction xs with
   | nil => intro σ; rfl
   | cons p xs ih => intro σ; show (lay xs (σ.set p.1 p.2)).length = _; rw [ih]; simp
 rw [lay_append]; show (lay ys ((lay xs σ).set d X)).getD d .any = X; rw [lay_get hy, set_at (by rw [hl]; exact hd)]
def ifL (b : Bool) (p : Nat × AV) : List (Nat × AV) := if b = true then [p] else []
theorem ifL_mem {b : Bool} {p q : Nat × AV} (h : q ∈ ifL b p) : q = p := by
 unfold ifL at h; split at h <;> simp at h; exact h
section
variable {F : Nat -> List AV} {S : Nat -> Prop} {w0 : World} {Q : Exit -> Act -> World -> Prop} {L : Array Bool} {g : G4} {β : Base} {ρ : Nat -> Nat} {D : Nat -> Prop} {σ : List AV} {h : List (Option ABlk)} {a : Act} {w : World} {V : AV} {oX : Oper}
theorem getD_on (hsz : L.size = 11) {i j : Nat} (hi : i < 11) : (L.setIfInBounds i true).getD j false = if i = j then true else L.getD j false := by
 rw [getD_setA]
 by_cases e : i = j
 · rw [if_pos ⟨e, by omega⟩, if_pos e]
 · rw [if_neg (fun h => e h.1), if_neg e]
theorem J4.cnext {l0 l7 l8 l9 l10 : Bool} (hI : J4 F S w0 l0 l7 l8 l9 l10 g β) (R : Rel β.S β.C β.w ρ D ⟨σ, h⟩ a w) : (∀ x, ownC ρ h x -> w0.heap.size <= x) /\ Chg No w0 w := by
 refine ⟨fun x hx => R.ownC_ge hx hI.c hI.chg.size, hI.chg.trans R.chg fun i hi hc => ?_⟩
 have := hI.c i hc; omega
theorem x4_0 (hoX : (regOps R4)[0]? = some oX) (hg : oX.guard = none) (hI : I4 F S w0 L g β) (hsz : L.size = 11) (hun : L.getD 0 false = false) (R : Rel β.S β.C β.w ρ D ⟨lay g.ov σ, h⟩ a w) :
   wpOp Tryz.prog (regOps R4) Q 0 (fun a' w' => ∃ g' β', I4 F S w0 (L.setIfInBounds 0 true) g' β' /\ Rel β'.S β'.C β'.w ρ D ⟨lay g'.ov (put σ oX.dst V), h⟩ a' w') a w := by
 obtain ⟨hop, hd⟩ := r4_0 oX hoX; unfold I4 at hI; rw [hun] at hI
 have h7 : L.getD 7 false = false := by
   cases h : L.getD 7 false with
   | false => rfl
   | true => exact absurd (hI.e7 h) (by decide)
 rw [h7] at hI
 have h8 : L.getD 8 false = false := by
   cases h : L.getD 8 false with
   | false => rfl
   | true => exact absurd (hI.e8 h) (by decide)
 rw [h8] at hI
 have h10 : L.getD 10 false = false := by
   cases h : L.getD 10 false with
   | false => rfl
   | true => exact absurd ((hI.e10 h).1) (by decide)
 rw [h10] at hI; obtain ⟨l9, h9⟩ : ∃ b, L.getD 9 false = b := ⟨_, rfl⟩; rw [h9] at hI; obtain ⟨c1, c2⟩ := hI.cnext R; have hw9 : l9 = true -> β.S g.k := fun h9 => (hI.s _).2 (.inr (.inr ⟨h9, rfl⟩))
 have R1 := R.grow (X := No) (S1 := fun x => β.S x \/ x = w.heap.size) (Chg.alloc w (.map #[] 0)) (fun _ h => h.elim) (fun _ h => .inl h) (fun k hk => hk.imp id fun e => by subst e; exact ⟨Nat.le_refl _, by simp⟩) (dst := some 17) (V := mapV w.heap.size) (v := .map (some w.heap.size)) (RelV_one (.lit rfl .done)); have hov : g.ov = ifL l9 (7, ptrV g.k) := hI.ov
 have e : lay ((17, mapV w.heap.size) :: ifL l9 (7, ptrV g.k)) (put σ (some 17) V) = put (lay g.ov σ) (some 17) (mapV w.heap.size) := by
   rw [hov]; exact lay_mid (xs := []) (by simp) fun p hp => by rw [ifL_mem hp]; simp
 refine wpOp_run hoX hg (v := .map (some w.heap.size)) (w' := w.alloc (.map #[] 0)) (by rw [execOp, hop]; rfl) ?_; rw [hd]; refine ⟨⟨(17, mapV w.heap.size) :: ifL l9 (7, ptrV g.k), w.heap.size, g.k⟩, ⟨fun x => β.S x \/ x = w.heap.size, ownC ρ h, w.alloc (.map #[] 0)⟩, ?_, by simp only [e]; exact R1⟩; have a0 : (L.setIfInBounds 0 true).getD 0 false = true := by rw [getD_on hsz (by decide), if_pos rfl]
 have a7 : (L.setIfInBounds 0 true).getD 7 false = false := by rw [getD_on hsz (by decide), if_neg (by decide)]; exact h7
 have a8 : (L.setIfInBounds 0 true).getD 8 false = false := by rw [getD_on hsz (by decide), if_neg (by decide)]; exact h8
 have a9 : (L.setIfInBounds 0 true).getD 9 false = l9 := by rw [getD_on hsz (by decide), if_neg (by decide)]; exact h9
 have a10 : (L.setIfInBounds 0 true).getD 10 false = false := by rw [getD_on hsz (by decide), if_neg (by decide)]; exact h10
 unfold I4; rw [a0, a7, a8, a9, a10]
 exact {
     c := c1
     chg := c2.trans (Chg.alloc _ _) fun _ _ h => h.elim
     ov := by simp [ifL]
     s := fun x => by
       have := hI.s x; simp at this ⊢; rw [this]; constructor
       · rintro ((h | h) | h)
         · exact .inl h
         · exact .inr (.inr h)
         · exact .inr (.inl h)
       · rintro (h | h | h)
         · exact .inl (.inl h)
         · exact .inr h
         · exact .inl (.inr h)
     r0 := fun _ => ⟨c2.size, fun hx => Nat.lt_irrefl _ (R.ownC_lt hx), by simp⟩
     r1 := fun _ _ => heap_alloc_new w _
     r2 := fun h => by cases h
     k0 := fun h9 => by
       obtain ⟨k1, k2, k3⟩ := hI.k0 h9; exact ⟨k1, R.ownC_no (hw9 h9), by simp; have := R.chg.size; omega⟩
     k1 := fun h9 => by
       obtain ⟨k1, k2, k3⟩ := hI.k0 h9; obtain ⟨c, e1, e2⟩ := hI.k1 h9; refine ⟨c, ?_, fun h => by cases h⟩; rw [<- e1, <- R.chg.block _ k3 k2]; exact Below.heap_alloc w _ _ (Nat.lt_of_lt_of_le k3 R.chg.size)
     e7 := fun h => by cases h
     e8 := fun h => by cases h
     e10 := fun h => by cases h }
theorem x4_7 (hF : noRefV (.agg (F 0)) = true) (hoX : (regOps R4)[7]? = some oX) (hg : oX.guard = none) (hI : I4 F S w0 L g β) (hsz : L.size = 11) (hun : L.getD 7 false = false) (hed : ∀ e ∈ oX.after.toList, Region.binds .any e = true -> L.getD e.on false = true) (hA : σ.getD 23 .any = .agg (F 0)) (R : Rel β.S β.C β.w ρ D ⟨lay g.ov σ, h⟩ a w) :
   wpOp Tryz.prog (regOps R4) Q 7 (fun a' w' => ∃ g' β', I4 F S w0 (L.setIfInBounds 7 true) g' β' /\ Rel β'.S β'.C β'.w ρ D ⟨lay g'.ov (put σ oX.dst V), h⟩ a' w') a w := by
 obtain ⟨hop, hd, e0, e1, e2, e3⟩ := r4_7 oX hoX; have h0 := hed _ e1 e2; rw [e3] at h0; unfold I4 at hI; rw [h0, hun] at hI
 have h8 : L.getD 8 false = false := by
   cases h : L.getD 8 false with
   | false => rfl
   | true => exact absurd (hI.e8 h) (by decide)
 rw [h8] at hI
 have h10 : L.getD 10 false = false := by
   cases h : L.getD 10 false with
   | false => rfl
   | true => exact absurd ((hI.e10 h).1) (by decide)
 rw [h10] at hI; obtain ⟨l9, h9⟩ : ∃ b, L.getD 9 false = b := ⟨_, rfl⟩; rw [h9] at hI; obtain ⟨c1, c2⟩ := hI.cnext R; have hov : g.ov = (17, mapV g.r) :: ifL l9 (7, ptrV g.k) := hI.ov; have hlen : 23 < σ.length := getD_ne hA (by intro h; cases h); have q1 := R.eval (.tmp 17); have q2 := R.eval (.tmp 23)
 have e17 : aval (lay g.ov σ) (.tmp 17) = mapV g.r := by
   rw [hov]; exact lay_at (xs := []) (fun p hp => by rw [ifL_mem hp]; simp) (by omega)
 have e23 : aval (lay g.ov σ) (.tmp 23) = .agg (F 0) := by
   show (lay g.ov σ).getD 23 .any = _; rw [lay_get, hA]; intro p hp; rw [hov] at hp; rcases List.mem_cons.1 hp with rfl | hp
   · simp
   · rw [ifL_mem hp]; simp
 rw [e17] at q1; rw [e23] at q2; obtain ⟨us, u1, u2⟩ := RelV0.noRef q2 hF ρ0; obtain ⟨r1, r2, r3⟩ := hI.r0 rfl; have hr := hI.r1 rfl rfl; have hrw : w.heap[g.r]? = some (.map #[] 0) := by rw [R.chg.block _ r3 r2]; exact hr
 have hS : β.S g.r := (hI.s _).2 (.inr (.inl ⟨rfl, rfl⟩)); have M0 : Memo F 0 (Sof β.S ρ h) w g.r := ⟨#[], 0, hrw, rfl, fun j e he => by simp at he⟩; obtain ⟨w2, hrun, hch, M2⟩ := M0.upd und366 und3 u2 (.inl hS); have hw9 : l9 = true -> β.S g.k := fun h9 => (hI.s _).2 (.inr (.inr ⟨h9, rfl⟩))
 have q0 : a.eval (.const (.int .i64 0)) = .int .i64 ((0 : Nat) : Int) := rfl; refine wpOp_skip hoX hg (w' := w2) (by rw [execOp, hop]; simp only [q1.lit_inv, u1, q0, Sem.run_bind, hrun]; rfl) ?_; rw [hd]; refine ⟨g, ⟨β.S, ownC ρ h, w2⟩, ?_, R.turn hch (fun k hk => by subst hk; exact hS) (V := .any) (.inl rfl)⟩; have a0 : (L.setIfInBounds 7 true).getD 0 false = true := by rw [getD_on hsz (by decide), if_neg (by decide)]; exact h0
 have a7 : (L.setIfInBounds 7 true).getD 7 false = true := by rw [getD_on hsz (by decide), if_pos rfl]
 have a8 : (L.setIfInBounds 7 true).getD 8 false = false := by rw [getD_on hsz (by decide), if_neg (by decide)]; exact h8
 have a9 : (L.setIfInBounds 7 true).getD 9 false = l9 := by rw [getD_on hsz (by decide), if_neg (by decide)]; exact h9
 have a10 : (L.setIfInBounds 7 true).getD 10 false = false := by rw [getD_on hsz (by decide), if_neg (by decide)]; exact h10
 unfold I4; rw [a0, a7, a8, a9, a10]
 exact {
     c := c1
     chg := c2.trans hch fun i hi hx => by subst hx; omega
     ov := by rw [hov]; simp [ifL]
     s := hI.s
     r0 := fun _ => ⟨r1, R.ownC_no hS, Nat.lt_of_lt_of_le r3 (Nat.le_trans R.chg.size hch.size)⟩
     r1 := fun _ h => by cases h
     r2 := fun _ => M2
     k0 := fun h9 => by
       obtain ⟨k1, k2, k3⟩ := hI.k0 h9; exact ⟨k1, R.ownC_no (hw9 h9), Nat.lt_of_lt_of_le k3 (Nat.le_trans R.chg.size hch.size)⟩
     k1 := fun h9 => by
       obtain ⟨k1, k2, k3⟩ := hI.k0 h9; obtain ⟨c, e1, e2⟩ := hI.k1 h9; refine ⟨c, ?_, fun h => by cases h⟩; rw [<- e1, <- R.chg.block _ k3 k2]; refine hch.block _ (Nat.lt_of_lt_of_le k3 R.chg.size) fun e => ?_
       rw [e, hr] at e1; cases e1
     e7 := fun _ => rfl
     e8 := fun h => by cases h
     e10 := fun h => by cases h }
theorem x4_8 (hoX : (regOps R4)[8]? = some oX) (hg : oX.guard = none) (hI : I4 F S w0 L g β) (hsz : L.size = 11) (hun : L.getD 8 false = false) (hed : ∀ e ∈ oX.after.toList, Region.binds .any e = true -> L.getD e.on false = true) (hA : σ.getD 23 .any = .agg (F 0)) (R : Rel β.S β.C β.w ρ D ⟨lay g.ov σ, h⟩ a w) :
   wpOp Tryz.prog (regOps R4) Q 8 (fun a' w' => ∃ g' β', I4 F S w0 (L.setIfInBounds 8 true) g' β' /\ Rel β'.S β'.C β'.w ρ D ⟨lay g'.ov (put σ oX.dst V), h⟩ a' w') a w := by
 obtain ⟨hop, hd, e0, e1, e2, e3⟩ := r4_8 oX hoX; have h7 := hed _ e1 e2; rw [e3] at h7; unfold I4 at hI; rw [h7, hun] at hI; have h0 := hI.e7 rfl; rw [h0] at hI
 have h10 : L.getD 10 false = false := by
   cases h : L.getD 10 false with
   | false => rfl
   | true => exact absurd ((hI.e10 h).1) (by decide)
 rw [h10] at hI; obtain ⟨l9, h9⟩ : ∃ b, L.getD 9 false = b := ⟨_, rfl⟩; rw [h9] at hI; have hov : g.ov = (17, mapV g.r) :: ifL l9 (7, ptrV g.k) := hI.ov; have hlen : 23 < σ.length := getD_ne hA (by intro h; cases h); have q1 := R.eval (.tmp 17)
 have e17 : aval (lay g.ov σ) (.tmp 17) = mapV g.r := by
   rw [hov]; exact lay_at (xs := []) (fun p hp => by rw [ifL_mem hp]; simp) (by omega)
 rw [e17] at q1
 have e : lay ([(17, mapV g.r)] ++ (24, mapV g.r) :: ifL l9 (7, ptrV g.k)) (put σ (some 24) V) = put (lay g.ov σ) (some 24) (mapV g.r) := by
   rw [hov]; exact lay_mid (xs := [(17, mapV g.r)]) (by simp) fun p hp => by rw [ifL_mem hp]; simp
 refine wpOp_run hoX hg (v := .map (some g.r)) (w' := w) (by rw [execOp, hop]; simp only [q1.lit_inv]; rfl) ?_; rw [hd]; refine ⟨⟨[(17, mapV g.r)] ++ (24, mapV g.r) :: ifL l9 (7, ptrV g.k), g.r, g.k⟩, β, ?_, by simp only [e]; exact R.val (RelV_one (.lit rfl .done))⟩; have a0 : (L.setIfInBounds 8 true).getD 0 false = true := by rw [getD_on hsz (by decide), if_neg (by decide)]; exact h0
 have a7 : (L.setIfInBounds 8 true).getD 7 false = true := by rw [getD_on hsz (by decide), if_neg (by decide)]; exact h7
 have a8 : (L.setIfInBounds 8 true).getD 8 false = true := by rw [getD_on hsz (by decide), if_pos rfl]
 have a9 : (L.setIfInBounds 8 true).getD 9 false = l9 := by rw [getD_on hsz (by decide), if_neg (by decide)]; exact h9
 have a10 : (L.setIfInBounds 8 true).getD 10 false = false := by rw [getD_on hsz (by decide), if_neg (by decide)]; exact h10
 unfold I4; rw [a0, a7, a8, a9, a10]
 exact {
     c := hI.c
     chg := hI.chg
     ov := by simp [ifL]
     s := hI.s
     r0 := hI.r0
     r1 := fun _ h => by cases h
     r2 := hI.r2
     k0 := hI.k0
     k1 := fun h9 => by
       obtain ⟨c, e1, e2⟩ := hI.k1 h9; exact ⟨c, e1, fun h => by cases h⟩
     e7 := fun _ => rfl
     e8 := fun _ => rfl
     e10 := fun h => by cases h }
theorem x4_9 (hoX : (regOps R4)[9]? = some oX) (hg : oX.guard = none) (hI : I4 F S w0 L g β) (hsz : L.size = 11) (hun : L.getD 9 false = false) (R : Rel β.S β.C β.w ρ D ⟨lay g.ov σ, h⟩ a w) :
   wpOp Tryz.prog (regOps R4) Q 9 (fun a' w' => ∃ g' β', I4 F S w0 (L.setIfInBounds 9 true) g' β' /\ Rel β'.S β'.C β'.w ρ D ⟨lay g'.ov (put σ oX.dst V), h⟩ a' w') a w := by
 obtain ⟨hop, hd⟩ := r4_9 oX hoX; unfold I4 at hI; rw [hun] at hI
 have h10 : L.getD 10 false = false := by
   cases h : L.getD 10 false with
   | false => rfl
   | true => exact absurd ((hI.e10 h).2) (by decide)
 rw [h10] at hI; obtain ⟨l0, h0⟩ : ∃ b, L.getD 0 false = b := ⟨_, rfl⟩; obtain ⟨l7, h7⟩ : ∃ b, L.getD 7 false = b := ⟨_, rfl⟩; obtain ⟨l8, h8⟩ : ∃ b, L.getD 8 false = b := ⟨_, rfl⟩; rw [h0, h7, h8] at hI; obtain ⟨c1, c2⟩ := hI.cnext R; have hw0 : l0 = true -> β.S g.r := fun h => (hI.s _).2 (.inr (.inl ⟨h, rfl⟩))
 have R1 := R.grow (X := No) (S1 := fun x => β.S x \/ x = w.heap.size) (Chg.alloc w (.cells #[.map none] 366 (0, 0))) (fun _ h => h.elim) (fun _ h => .inl h) (fun k hk => hk.imp id fun e => by subst e; exact ⟨Nat.le_refl _, by simp⟩) (dst := some 7) (V := ptrV w.heap.size) (v := .pointer (some ⟨w.heap.size, 0, none⟩)) (RelV_one (.lit rfl .done)); have hov : g.ov = ifL l0 (17, mapV g.r) ++ ifL l8 (24, mapV g.r) := by rw [hI.ov]; simp [ifL]
 have e : lay ((ifL l0 (17, mapV g.r) ++ ifL l8 (24, mapV g.r)) ++ (7, ptrV w.heap.size) :: []) (put σ (some 7) V) = put (lay g.ov σ) (some 7) (ptrV w.heap.size) := by
   have := lay_mid (xs := ifL l0 (17, mapV g.r) ++ ifL l8 (24, mapV g.r)) (ys := []) (σ := σ) (d := 7) (V := V) (X := ptrV w.heap.size) (fun p hp => by
     rcases List.mem_append.1 hp with hp | hp
     · rw [ifL_mem hp]; simp
     · rw [ifL_mem hp]; simp) (by simp)
   rw [List.append_nil, <- hov] at this; rw [<- hov]; exact this
 refine wpOp_run hoX hg (v := .pointer (some ⟨w.heap.size, 0, none⟩)) (w' := w.alloc (.cells #[.map none] 366 (0, 0))) (by rw [execOp, hop]; simp only [Sem.run_bind, alloc366]; rfl) ?_; rw [hd]; have hne : l0 = true -> g.r < w.heap.size := fun h => by have := (hI.r0 h).2.2; have := R.chg.size; omega
 refine ⟨⟨(ifL l0 (17, mapV g.r) ++ ifL l8 (24, mapV g.r)) ++ (7, ptrV w.heap.size) :: [], g.r, w.heap.size⟩, ⟨fun x => β.S x \/ x = w.heap.size, ownC ρ h, w.alloc (.cells #[.map none] 366 (0, 0))⟩, ?_, by simp only [e]; exact R1⟩; have a0 : (L.setIfInBounds 9 true).getD 0 false = l0 := by rw [getD_on hsz (by decide), if_neg (by decide)]; exact h0
 have a7 : (L.setIfInBounds 9 true).getD 7 false = l7 := by rw [getD_on hsz (by decide), if_neg (by decide)]; exact h7
 have a8 : (L.setIfInBounds 9 true).getD 8 false = l8 := by rw [getD_on hsz (by decide), if_neg (by decide)]; exact h8
 have a9 : (L.setIfInBounds 9 true).getD 9 false = true := by rw [getD_on hsz (by decide), if_pos rfl]
 have a10 : (L.setIfInBounds 9 true).getD 10 false = false := by rw [getD_on hsz (by decide), if_neg (by decide)]; exact h10
 unfold I4; rw [a0, a7, a8, a9, a10]
 exact {
     c := c1
     chg := c2.trans (Chg.alloc _ _) fun _ _ h => h.elim
     ov := by simp [ifL]
     s := fun x => by
       have := hI.s x; simp at this ⊢; rw [this]; constructor
       · rintro ((h | h) | h)
         · exact .inl h
         · exact .inr (.inl h)
         · exact .inr (.inr h)
       · rintro (h | h | h)
         · exact .inl (.inl h)
         · exact .inl (.inr h)
         · exact .inr h
     r0 := fun h => by
       obtain ⟨k1, k2, k3⟩ := hI.r0 h; exact ⟨k1, R.ownC_no (hw0 h), by simp; have := R.chg.size; omega⟩
     r1 := fun h k => by
       obtain ⟨k1, k2, k3⟩ := hI.r0 h; rw [<- hI.r1 h k, <- R.chg.block _ k3 k2]; exact Below.heap_alloc w _ _ (hne h)
     r2 := fun h => by
       have h' := hI.e7 h; obtain ⟨k1, k2, k3⟩ := hI.r0 h'; have M1 := (hI.r2 h).now R k2; refine M1.keep (by simp) (Below.heap_alloc w _ _ (hne h')) fun k hk hs => ⟨?_, Below.heap_alloc w _ _ hk⟩
       rintro ((h | h) | h)
       · exact hs (.inl h)
       · omega
       · exact hs (.inr h)
     k0 := fun _ => ⟨c2.size, fun hx => Nat.lt_irrefl _ (R.ownC_lt hx), by simp⟩
     k1 := fun _ => ⟨.map none, heap_alloc_new w _, fun h => by cases h⟩
     e7 := hI.e7
     e8 := hI.e8
     e10 := fun h => by cases h }
theorem x4_10 (h24 : 24 < σ.length) (hoX : (regOps R4)[10]? = some oX) (hg : oX.guard = none) (hI : I4 F S w0 L g β) (hsz : L.size = 11) (hun : L.getD 10 false = false) (hed : ∀ e ∈ oX.after.toList, Region.binds .any e = true -> L.getD e.on false = true) (hA : σ.getD 23 .any = .agg (F 0)) (R : Rel β.S β.C β.w ρ D ⟨lay g.ov σ, h⟩ a w) :
   wpOp Tryz.prog (regOps R4) Q 10 (fun a' w' => ∃ g' β', I4 F S w0 (L.setIfInBounds 10 true) g' β' /\ Rel β'.S β'.C β'.w ρ D ⟨lay g'.ov (put σ oX.dst V), h⟩ a' w') a w := by
 obtain ⟨hop, hd, ⟨e1, e2, e3, e4⟩, f1, f2, f3, f4⟩ := r4_10 oX hoX; have h8 := hed _ e2 e3; rw [e4] at h8; have h9 := hed _ f2 f3; rw [f4] at h9; unfold I4 at hI; rw [h8, h9, hun] at hI; have h7 := hI.e8 rfl; rw [h7] at hI; have h0 := hI.e7 rfl; rw [h0] at hI; obtain ⟨c1, c2⟩ := hI.cnext R; have hov : g.ov = [(17, mapV g.r), (24, mapV g.r), (7, ptrV g.k)] := hI.ov; have hlen : 23 < σ.length := getD_ne hA (by intro h; cases h); have q1 := R.eval (.tmp 7); have q2 := R.eval (.tmp 24); obtain ⟨r1, r2, r3⟩ := hI.r0 rfl; obtain ⟨k1, k2, k3⟩ := hI.k0 rfl; obtain ⟨c, kc, _⟩ := hI.k1 rfl; have hS : β.S g.r := (hI.s _).2 (.inr (.inl ⟨rfl, rfl⟩)); have hK : β.S g.k := (hI.s _).2 (.inr (.inr ⟨rfl, rfl⟩)); have M1 := hI.r2 rfl
 have hrk : g.r ≠ g.k := fun e => by
   obtain ⟨es, clk, m1, _⟩ := M1; rw [e, kc] at m1; cases m1
 have e7 : aval (lay g.ov σ) (.tmp 7) = ptrV g.k := by
   rw [hov]; show (lay ([(17, mapV g.r), (24, mapV g.r)] ++ (7, ptrV g.k) :: []) σ).getD 7 .any = _; exact lay_at (by simp) (by omega)
 have e24 : aval (lay g.ov σ) (.tmp 24) = mapV g.r := by
   rw [hov]; show (lay ([(17, mapV g.r)] ++ (24, mapV g.r) :: [(7, ptrV g.k)]) σ).getD 24 .any = _; exact lay_at (by simp) h24
 rw [e7] at q1; rw [e24] at q2; have kw : w.heap[g.k]? = some (.cells #[c] 366 (0, 0)) := by rw [R.chg.block _ k3 k2]; exact kc
 have hklt := heap_lt kw; have hset := MapKept.heap_set (o' := .cells #[.map (some g.r)] 366 (0, 0)) kw
 have hch : Chg (· = g.k) w { w with heap := w.heap.setIfInBounds g.k (.cells #[.map (some g.r)] 366 (0, 0)) } :=
   ⟨rfl, rfl, rfl, by simp, fun k _ hk => hset.2 k hk, fun k arr ty ha => by
     by_cases e : k = g.k
     · subst e
       rw [kw] at ha; injection ha with ha; injection ha with ha1 ha2; subst ha1; exact ⟨_, _, hset.1, by simp⟩
     · exact ⟨arr, ty, by rw [hset.2 k e]; exact ha, Nat.le_refl _⟩⟩
 have hrun : (storeVar 366 ⟨g.k, 0, none⟩ (.map (some g.r))).run Tryz.prog w = .ok () { w with heap := w.heap.setIfInBounds g.k (.cells #[.map (some g.r)] 366 (0, 0)) } := by
   have := run_storeVar' (P := Tryz.prog) (TT0_ok 366 ⟨1, 8, [.lit (.map none)], .other⟩ (by kernel_rfl)) kw (v := .map (some g.r)) (off := 0) rfl (by simp [Value.cells, Value.oneCell']) (by simp); simpa [Value.cells] using this
 refine wpOp_skip hoX hg (w' := { w with heap := w.heap.setIfInBounds g.k (.cells #[.map (some g.r)] 366 (0, 0)) }) (by rw [execOp, hop]; simp only [q1.lit_inv, q2.lit_inv, run_storeAt, Sem.run_bind, hrun, Result.andThen_ok, Sem.run_pure]) ?_; rw [hd]; refine ⟨g, ⟨β.S, ownC ρ h, _⟩, ?_, R.turn hch (fun k hk => by subst hk; exact hK) (V := .any) (.inl rfl)⟩; have a0 : (L.setIfInBounds 10 true).getD 0 false = true := by rw [getD_on hsz (by decide), if_neg (by decide)]; exact h0
 have a7 : (L.setIfInBounds 10 true).getD 7 false = true := by rw [getD_on hsz (by decide), if_neg (by decide)]; exact h7
 have a8 : (L.setIfInBounds 10 true).getD 8 false = true := by rw [getD_on hsz (by decide), if_neg (by decide)]; exact h8
 have a9 : (L.setIfInBounds 10 true).getD 9 false = true := by rw [getD_on hsz (by decide), if_neg (by decide)]; exact h9
 have a10 : (L.setIfInBounds 10 true).getD 10 false = true := by rw [getD_on hsz (by decide), if_pos rfl]
 unfold I4; rw [a0, a7, a8, a9, a10]
 exact {
     c := c1
     chg := c2.trans hch fun i hi hx => by subst hx; omega
     ov := hI.ov
     s := hI.s
     r0 := fun _ => ⟨r1, R.ownC_no hS, Nat.lt_of_lt_of_le r3 (Nat.le_trans R.chg.size hch.size)⟩
     r1 := fun _ h => by cases h
     r2 := fun _ => (M1.now R r2).keep hch.size (hset.2 _ hrk) fun k hk hs => ⟨hs, hch.block k hk fun e => hs (.inl (e ▸ hK))⟩
     k0 := fun _ => ⟨k1, R.ownC_no hK, Nat.lt_of_lt_of_le hklt hch.size⟩
     k1 := fun _ => ⟨_, hset.1, fun _ => rfl⟩
     e7 := fun _ => rfl
     e8 := fun _ => rfl
     e10 := fun _ => ⟨rfl, rfl⟩ }
end
def KT117_ok := (kn.cons a38).cons a21
abbrev n117_0 (r : Nat) (m : MachD) (jb : Nat) (p : PoseD) : List AV := [.cptr [.lit (.map (some r))] 0, .cptr [.fn 209 [.cptr [.lit (.map (some r))] 0, AV.any, .cptr (unMach 300 m) 0, .cptr (unPose jb p) 0]] 0, .cptr (unMach 300 m) 0, .cptr (unPose jb p) 0]
abbrev n117_1 (ff : Func) : List Item := [.code (nav [1, 1, 1, 1, 1, 1, 0, 1, 0, 0, 1, 1, 0, 0, 1] (bodyOf ff)), .inBlock 1, .code (nav [1, 1, 1, 1, 1, 1, 0, 1, 0, 0, 1, 1, 1] (bodyOf ff)), .inLoop (nav [1, 1, 1, 1, 1, 1, 0, 1, 0, 0] (bodyOf ff)), .inBlock 0, .code (nav [1, 1, 1, 1, 1, 1, 1] (bodyOf ff))]
abbrev n117_2 (ff : Func) : List Item := [.inBlock 1, .code (nav [1, 1, 1, 1, 1, 1, 0, 1, 0, 0, 1, 1, 1] (bodyOf ff)), .inLoop (nav [1, 1, 1, 1, 1, 1, 0, 1, 0, 0] (bodyOf ff)), .inBlock 0, .code (nav [1, 1, 1, 1, 1, 1, 1] (bodyOf ff))]
section
variable {S0 C0 : Nat -> Prop} {w0 : World} {Post : Value -> World -> Prop}
theorem x117_4 {γ : Type} (ovl : γ -> List (Nat × AV)) (I : Array Bool -> γ -> Base -> Prop) (m : MachD) (p : PoseD) (jb e : Nat) (f : FrameD) (o : (4 * jb + 800 <= LIM) /\ (Ref (.agg [.q p.at_.x jb, .q p.at_.z jb, .q ((1 - p.turn * p.turn) / (1 + p.turn * p.turn)) (4 * jb + 200), .q ((p.turn + p.turn) / (1 + p.turn * p.turn)) (4 * jb + 200)]) (.agg (unF e f))))
   (hks : ∀ L g β, I L g β -> ∀ q ∈ ovl g, q.1 ∈ [17, 24, 7]) (hI : ∀ listed i g β, i ∉ [0, 7, 8, 9, 10] -> I listed g β -> I (listed.setIfInBounds i true) g β) (hX : ∀ i ∈ [0, 7, 8, 9, 10], ∀ (Q : Exit -> Act -> World -> Prop) listed g β ρ D σ h a w V oX, (regOps (nav [1, 1, 0] (bodyOf Tryz.f117)))[i]? = some oX -> oX.guard = none -> I listed g β -> listed.size = (regOps (nav [1, 1, 0] (bodyOf Tryz.f117))).size -> listed.getD i false = false -> (∀ e ∈ oX.after.toList, Region.binds .any e = true -> listed.getD e.on false = true) -> (∀ τ ∈ (fun i => if i = 7 then [23] else if i = 8 then [23] else if i = 10 then [23] else []) i, σ.getD τ .any = (slots 49 [(2, .cptr (unMach 300 m) 0), (3, (.cptr [(.q p.at_.x jb), (.q p.at_.z jb), (.q p.turn jb), (.list 3 (p.joints.map (unQ jb)))] 0)), (18, (.cptr [(.q p.at_.x jb), (.q p.at_.z jb), (.q p.turn jb), (.list 3 (p.joints.map (unQ jb)))] 0)), (19, .agg [(.q p.at_.x jb), (.q p.at_.z jb)]), (20, (.cptr [(.q p.at_.x jb), (.q p.at_.z jb), (.q p.turn jb), (.list 3 (p.joints.map (unQ jb)))] 6)), (21, .agg [(.q p.turn jb)]), (22, (.agg [(.q ((1 - p.turn * p.turn) / (1 + p.turn * p.turn)) (4 * jb + 200)), (.q ((p.turn + p.turn) / (1 + p.turn * p.turn)) (4 * jb + 200))])), (23, .agg [(.q f.at_.x (2 * e)), (.q f.at_.z (2 * e)), (.q f.c e), (.q f.s e)])]).getD τ .any) -> σ.length = (slots 49 [(2, .cptr (unMach 300 m) 0), (3, (.cptr [(.q p.at_.x jb), (.q p.at_.z jb), (.q p.turn jb), (.list 3 (p.joints.map (unQ jb)))] 0)), (18, (.cptr [(.q p.at_.x jb), (.q p.at_.z jb), (.q p.turn jb), (.list 3 (p.joints.map (unQ jb)))] 0)), (19, .agg [(.q p.at_.x jb), (.q p.at_.z jb)]), (20, (.cptr [(.q p.at_.x jb), (.q p.at_.z jb), (.q p.turn jb), (.list 3 (p.joints.map (unQ jb)))] 6)), (21, .agg [(.q p.turn jb)]), (22, (.agg [(.q ((1 - p.turn * p.turn) / (1 + p.turn * p.turn)) (4 * jb + 200)), (.q ((p.turn + p.turn) / (1 + p.turn * p.turn)) (4 * jb + 200))])), (23, .agg [(.q f.at_.x (2 * e)), (.q f.at_.z (2 * e)), (.q f.c e), (.q f.s e)])]).length -> Rel β.S β.C β.w ρ D ⟨lay (ovl g) σ, h⟩ a w -> wpOp Tryz.prog (regOps (nav [1, 1, 0] (bodyOf Tryz.f117))) Q i (fun a' w' => ∃ g' β', I (listed.setIfInBounds i true) g' β' /\ Rel β'.S β'.C β'.w ρ D ⟨lay (ovl g') (put σ oX.dst V), h⟩ a' w') a w) (g0 : γ) (hB : I (Array.replicate (regOps (nav [1, 1, 0] (bodyOf Tryz.f117))).size false) g0 ⟨S0, C0, w0⟩) (h0 : ovl g0 = [])
   (hgood : ∀ listed g β, (∀ i, i < (regOps (nav [1, 1, 0] (bodyOf Tryz.f117))).size -> listed.getD i false = true) -> I listed g β -> Good Tryz.prog 117 β.S β.C β.w Post [.code (nav [1, 1, 1] (bodyOf Tryz.f117))] ⟨lay (ovl g) (slots 49 [(2, .cptr (unMach 300 m) 0), (3, .cptr (unPose jb p) 0), (18, .cptr (unPose jb p) 0), (19, .agg [.q p.at_.x jb, .q p.at_.z jb]), (20, .cptr (unPose jb p) 6), (21, .agg [.q p.turn jb]), (22, .agg [.q ((1 - p.turn * p.turn) / (1 + p.turn * p.turn)) (4 * jb + 200), .q ((p.turn + p.turn) / (1 + p.turn * p.turn)) (4 * jb + 200)]), (23, .agg (unF e f))]), [none]⟩) :
   Good Tryz.prog 117 S0 C0 w0 Post [.code (nav [1, 1, 0] (bodyOf Tryz.f117)), .code (nav [1, 1, 1] (bodyOf Tryz.f117))] ⟨slots 49 [(2, .cptr (unMach 300 m) 0), (3, .cptr (unPose jb p) 0)], []⟩ :=
 Good.regXs mixed TT0_ok KT117_ok (c := nav [1, 1, 0] (bodyOf Tryz.f117)) [0, 7, 8, 9, 10] [17, 24, 7] (fun i => if i = 7 then [23] else if i = 8 then [23] else if i = 10 then [23] else []) ovl I (ov := [(17, AV.any), (23, (.agg (unF e f))), (24, AV.any), (7, AV.any)]) (ob := [4 * jb + 800 <= LIM, Ref (.agg [.q p.at_.x jb, .q p.at_.z jb, .q ((1 - p.turn * p.turn) / (1 + p.turn * p.turn)) (4 * jb + 200), .q ((p.turn + p.turn) / (1 + p.turn * p.turn)) (4 * jb + 200)]) (.agg (unF e f))]) (by kernel_rfl) (by kernel_rfl)
   (.cons (o.1) (.cons (o.2) (AllP.nil))) (by kernel_rfl) (by kernel_rfl) hks hI hX g0 hB h0 hgood
theorem x117_0 {B B' : Base -> Prop} (m : MachD) (p : PoseD) (jb r : Nat) (i n s : Nat) (f : FrameD) (o : (1 * 224 <= 140737488355328) /\ (1 <= big))
   (hB : B ⟨S0, C0, w0⟩) (hX : ∀ (Q : Exit -> Act -> World -> Prop) β ρ D σ h a w, B β -> Rel β.S β.C β.w ρ D ⟨σ, h⟩ a w -> (∀ τ ∈ [40, 41], σ.getD τ .any = (slots 49 [(8, (.cptr [(.fn 209 [(.cptr [(.lit (.map (some r)))] 0), (.cptr [(.fn 209 [(.cptr [(.lit (.map (some r)))] 0), .any, (.cptr (unMach 300 m) 0), (.cptr [(.q p.at_.x jb), (.q p.at_.z jb), (.q p.turn jb), (.list 3 (p.joints.map (unQ jb)))] 0)])] 0), (.cptr (unMach 300 m) 0), (.cptr [(.q p.at_.x jb), (.q p.at_.z jb), (.q p.turn jb), (.list 3 (p.joints.map (unQ jb)))] 0)])] 0)), (9, .ptr 0 7 0 0), (10, .i6 (i : Int)), (31, .i6 (n : Int)), (32, .i6 (i : Int)), (35, .ptr 0 7 0 0), (36, .ptr 0 7 0 0), (37, .ptr 0 7 0 0), (38, .ptr 0 7 0 6), (39, .nil), (40, (.fn 209 [(.cptr [(.lit (.map (some r)))] 0), (.cptr [(.fn 209 [(.cptr [(.lit (.map (some r)))] 0), .any, (.cptr (unMach 300 m) 0), (.cptr [(.q p.at_.x jb), (.q p.at_.z jb), (.q p.turn jb), (.list 3 (p.joints.map (unQ jb)))] 0)])] 0), (.cptr (unMach 300 m) 0), (.cptr [(.q p.at_.x jb), (.q p.at_.z jb), (.q p.turn jb), (.list 3 (p.joints.map (unQ jb)))] 0)])), (41, .i6 (i : Int)), (42, .agg [(.q f.at_.x (2 * s)), (.q f.at_.z (2 * s)), (.q f.c s), (.q f.s s)]), (43, .own 1 12 0 1), (44, .own 2 12 0 1), (45, .ptr 0 7 0 0), (46, .ptr 0 7 0 6)]).getD τ .any) -> wpOp Tryz.prog (regOps (nav [1, 1, 1, 1, 1, 1, 0, 1, 0, 0, 1, 1, 0, 0, 1] (bodyOf Tryz.f117))) Q 7 (fun a' w' => ∃ β', B' β' /\ Rel β'.S β'.C β'.w ρ D ⟨put σ (some 42) (.agg (unF s f)), h⟩ a' w') a w)
   (hg : ∀ β, B' β -> Good Tryz.prog 117 β.S β.C β.w Post (n117_2 Tryz.f117) ⟨slots 49 [(8, .cptr [.fn 209 (n117_0 r m jb p)] 0), (9, .ptr 0 7 0 0), (10, .i6 (i : Int)), (31, .i6 (n : Int)), (32, .i6 (i : Int)), (35, .ptr 0 7 0 0), (36, .ptr 0 7 0 0), (37, .ptr 0 7 0 0), (38, .ptr 0 7 0 6), (39, .nil), (40, .fn 209 (n117_0 r m jb p)), (41, .i6 (i : Int)), (42, .agg (unF s f)), (43, .own 1 12 0 1), (44, .own 2 12 0 1), (45, .ptr 0 7 0 0), (46, .ptr 0 7 0 6)], [some ⟨264, 7, false, [[.str m.name, .list 27 (m.bodies.map (unBody 300)), .list 17 (m.springs.map (unCordy 300)), .list 17 (m.tendons.map (unCordy 300)), .list 13 (m.motors.map (unMotor 300)), .list 5 (m.feet.map (unFoot 300)), .own 2 12 0 1]], none⟩, some ⟨175, 12, false, [(unF s f)], none⟩, some ⟨175, 12, true, [(unF s f)], none⟩]⟩) :
   Good Tryz.prog 117 S0 C0 w0 Post (n117_1 Tryz.f117) ⟨slots 49 [(8, .cptr [.fn 209 (n117_0 r m jb p)] 0), (9, .ptr 0 7 0 0), (10, .i6 (i : Int)), (31, .i6 (n : Int)), (32, .i6 (i : Int))], [some ⟨264, 7, false, [[.str m.name, .list 27 (m.bodies.map (unBody 300)), .list 17 (m.springs.map (unCordy 300)), .list 17 (m.tendons.map (unCordy 300)), .list 13 (m.motors.map (unMotor 300)), .list 5 (m.feet.map (unFoot 300)), .nil]], none⟩]⟩ :=
 Good.regX mixed TT0_ok KT117_ok 7 (c := nav [1, 1, 1, 1, 1, 1, 0, 1, 0, 0, 1, 1, 0, 0, 1] (bodyOf Tryz.f117)) (oX := ((regOps (nav [1, 1, 1, 1, 1, 1, 0, 1, 0, 0, 1, 1, 0, 0, 1] (bodyOf Tryz.f117))).toList[7]?).getD default) (dX := some 42) (V := (.agg (unF s f))) (ov := [(42, (.agg (unF s f)))]) (ob := [1 = 1, 0 < 1, 1 * 224 <= 140737488355328, 1 <= big]) [40, 41] (by kernel_rfl) (by kernel_rfl) (by kernel_rfl) (by kernel_rfl) (by kernel_rfl)
   (.cons (rfl) (.cons (by decide) (.cons (o.1) (.cons (o.2) (AllP.nil))))) (Or.inr (by kernel_rfl)) (by kernel_rfl) hX hB hg
theorem x117_1 {B B' : Base -> Prop} (m : MachD) (p : PoseD) (jb r : Nat) (i n s k : Nat) (f : FrameD) (A : List (List AV)) (o : (k = A.length) /\ ((k + 1) * 224 <= 140737488355328) /\ (k + 1 <= big))
   (hB : B ⟨S0, C0, w0⟩) (hX : ∀ (Q : Exit -> Act -> World -> Prop) β ρ D σ h a w, B β -> Rel β.S β.C β.w ρ D ⟨σ, h⟩ a w -> (∀ τ ∈ [40, 41], σ.getD τ .any = (slots 49 [(8, (.cptr [(.fn 209 [(.cptr [(.lit (.map (some r)))] 0), (.cptr [(.fn 209 [(.cptr [(.lit (.map (some r)))] 0), .any, (.cptr (unMach 300 m) 0), (.cptr [(.q p.at_.x jb), (.q p.at_.z jb), (.q p.turn jb), (.list 3 (p.joints.map (unQ jb)))] 0)])] 0), (.cptr (unMach 300 m) 0), (.cptr [(.q p.at_.x jb), (.q p.at_.z jb), (.q p.turn jb), (.list 3 (p.joints.map (unQ jb)))] 0)])] 0)), (9, .ptr 0 7 0 0), (10, .i6 (i : Int)), (31, .i6 (n : Int)), (32, .i6 (i : Int)), (35, .ptr 0 7 0 0), (36, .ptr 0 7 0 0), (37, .ptr 0 7 0 0), (38, .ptr 0 7 0 6), (39, .own 1 12 0 k), (40, (.fn 209 [(.cptr [(.lit (.map (some r)))] 0), (.cptr [(.fn 209 [(.cptr [(.lit (.map (some r)))] 0), .any, (.cptr (unMach 300 m) 0), (.cptr [(.q p.at_.x jb), (.q p.at_.z jb), (.q p.turn jb), (.list 3 (p.joints.map (unQ jb)))] 0)])] 0), (.cptr (unMach 300 m) 0), (.cptr [(.q p.at_.x jb), (.q p.at_.z jb), (.q p.turn jb), (.list 3 (p.joints.map (unQ jb)))] 0)])), (41, .i6 (i : Int)), (42, .agg [(.q f.at_.x (2 * s)), (.q f.at_.z (2 * s)), (.q f.c s), (.q f.s s)]), (43, .own 2 12 0 1), (44, .own 3 12 0 (k + 1)), (45, .ptr 0 7 0 0), (46, .ptr 0 7 0 6)]).getD τ .any) -> wpOp Tryz.prog (regOps (nav [1, 1, 1, 1, 1, 1, 0, 1, 0, 0, 1, 1, 0, 0, 1] (bodyOf Tryz.f117))) Q 7 (fun a' w' => ∃ β', B' β' /\ Rel β'.S β'.C β'.w ρ D ⟨put σ (some 42) (.agg (unF s f)), h⟩ a' w') a w)
   (hg : ∀ β, B' β -> Good Tryz.prog 117 β.S β.C β.w Post (n117_2 Tryz.f117) ⟨slots 49 [(8, .cptr [.fn 209 (n117_0 r m jb p)] 0), (9, .ptr 0 7 0 0), (10, .i6 (i : Int)), (31, .i6 (n : Int)), (32, .i6 (i : Int)), (35, .ptr 0 7 0 0), (36, .ptr 0 7 0 0), (37, .ptr 0 7 0 0), (38, .ptr 0 7 0 6), (39, .own 1 12 0 k), (40, .fn 209 (n117_0 r m jb p)), (41, .i6 (i : Int)), (42, .agg (unF s f)), (43, .own 2 12 0 1), (44, .own 3 12 0 (k + 1)), (45, .ptr 0 7 0 0), (46, .ptr 0 7 0 6)], [some ⟨264, 7, false, [[.str m.name, .list 27 (m.bodies.map (unBody 300)), .list 17 (m.springs.map (unCordy 300)), .list 17 (m.tendons.map (unCordy 300)), .list 13 (m.motors.map (unMotor 300)), .list 5 (m.feet.map (unFoot 300)), .own 3 12 0 (k + 1)]], none⟩, none, some ⟨175, 12, false, [(unF s f)], none⟩, some ⟨175, 12, true, (A ++ [[(AV.q f.at_.x (2 * s)), (AV.q f.at_.z (2 * s)), (AV.q f.c s), (AV.q f.s s)]]), none⟩]⟩) :
   Good Tryz.prog 117 S0 C0 w0 Post (n117_1 Tryz.f117) ⟨slots 49 [(8, .cptr [.fn 209 (n117_0 r m jb p)] 0), (9, .ptr 0 7 0 0), (10, .i6 (i : Int)), (31, .i6 (n : Int)), (32, .i6 (i : Int))], [some ⟨264, 7, false, [[.str m.name, .list 27 (m.bodies.map (unBody 300)), .list 17 (m.springs.map (unCordy 300)), .list 17 (m.tendons.map (unCordy 300)), .list 13 (m.motors.map (unMotor 300)), .list 5 (m.feet.map (unFoot 300)), .own 1 12 0 k]], none⟩, some ⟨175, 12, true, A, none⟩]⟩ :=
 Good.regX mixed TT0_ok KT117_ok 7 (c := nav [1, 1, 1, 1, 1, 1, 0, 1, 0, 0, 1, 1, 0, 0, 1] (bodyOf Tryz.f117)) (oX := ((regOps (nav [1, 1, 1, 1, 1, 1, 0, 1, 0, 0, 1, 1, 0, 0, 1] (bodyOf Tryz.f117))).toList[7]?).getD default) (dX := some 42) (V := (.agg (unF s f))) (ov := [(42, (.agg (unF s f)))]) (ob := [1 = 1, k = A.length, (k + 1) * 224 <= 140737488355328, k + 1 <= big]) [40, 41] (by kernel_rfl) (by kernel_rfl) (by kernel_rfl) (by kernel_rfl) (by kernel_rfl)
   (.cons (rfl) (.cons (o.1) (.cons (o.2.1) (.cons (o.2.2) (AllP.nil))))) (Or.inr (by kernel_rfl)) (by kernel_rfl) hX hB hg
end
noncomputable abbrev c117T0 : List Item := [.code (nav [1, 1, 1, 1, 1, 1, 0, 1, 0, 0, 1, 1, 0, 0, 1] (bodyOf Tryz.f117)), .inBlock 1, .code (nav [1, 1, 1, 1, 1, 1, 0, 1, 0, 0, 1, 1, 1] (bodyOf Tryz.f117)), .inLoop (nav [1, 1, 1, 1, 1, 1, 0, 1, 0, 0] (bodyOf Tryz.f117)), .inBlock 0, .code (nav [1, 1, 1, 1, 1, 1, 1] (bodyOf Tryz.f117))]
theorem firstE_zero {f : Nat -> Int} : ∀ (k i : Nat), firstE f i k = 0 -> ∀ j, i <= j -> j < i + k -> f j = 0
 | 0, i, h, j, h1, h2 => by omega
 | k + 1, i, h, j, h1, h2 => by
   rw [firstE] at h
   by_cases c : f i = 0
   · rw [if_pos c] at h
     by_cases e : j = i
     · rw [e]; exact c
     · exact firstE_zero k (i + 1) h j (by omega) (by omega)
   · rw [if_neg c] at h; exact absurd h c
theorem eachE_zero {n : Nat} {t : Int} {f : Nat -> Int} (h : eachE n t f = 0) : ∀ j, j < n -> f j = 0 := by
 unfold eachE at h
 split at h
 · cases h
 · exact fun j hj => firstE_zero n 0 h j (by omega) (by omega)
theorem check_parts {m : MachD} (h : checkE m = 0) : m.bodies.length ≠ 0 /\ (∀ i, i < m.bodies.length -> bodyE m.bodies i = 0) /\ (∀ i, i < m.springs.length -> springE m.bodies.length (m.springs.getD i default) = 0) /\
   (∀ i, i < m.tendons.length -> tendonE m.bodies.length (m.tendons.getD i default) = 0) /\ (∀ i, i < m.motors.length -> motorE m.bodies.length m.motors i = 0) /\ (∀ i, i < m.feet.length -> footE m.bodies.length (m.feet.getD i default) = 0) := by
 unfold checkE at h
 split at h
 · cases h
 · split at h
   · cases h
   · rename_i h1 h2
     unfold orE at h
     split at h
     · rename_i a1
       unfold orE at h
       split at h
       · rename_i a2
         unfold orE at h
         split at h
         · rename_i a3
           unfold orE at h
           split at h
           · rename_i a4
             unfold orE at h
             split at h
             · rename_i a5
               exact ⟨h2, eachE_zero a1, eachE_zero a2, eachE_zero a3, eachE_zero a4, eachE_zero a5⟩
             · rename_i a5; exact absurd h a5
           · rename_i a4; exact absurd h a4
         · rename_i a3; exact absurd h a3
       · rename_i a2; exact absurd h a2
     · rename_i a1; exact absurd h a1
theorem body_limb {bs : List BodyD} {i : Nat} (h : bodyE bs i = 0) (h0 : 0 < i) : limbB (bs.getD i default) i = true := by
 unfold bodyE bodyV at h
 split at h
 · cases h
 · split at h
   · cases h
   · unfold bodyF at h
     split at h
     · cases h
     · rename_i hn
       cases hl : limbB (bs.getD i default) i with
       | true => rfl
       | false => exact absurd (.inr (.inl ⟨h0, hl⟩)) hn
theorem check_tree {m : MachD} (h : checkE m = 0) : m.tree := fun i h0 hi => by
 have := body_limb ((check_parts h).2.1 i hi) h0; unfold limbB at this
 have := of_decide_eq_true this; exact ⟨this.1, this.2.1⟩
theorem pose_parts {m : MachD} {n : Nat} (h : poseE m n = 0) : checkE m = 0 /\ n + 1 = m.bodies.length := by
 unfold poseE at h
 split at h
 · rename_i h1
   split at h
   · exact ⟨h1, by omega⟩
   · cases h
 · rename_i h1; exact absurd h h1
def unPl (jb : Nat) (m : MachD) (p : PoseD) : List AV :=
 [.str m.name, .list 27 (m.bodies.map (unBody 300)), .list 17 (m.springs.map (unCordy 300)), .list 17 (m.tendons.map (unCordy 300)), .list 13 (m.motors.map (unMotor 300)), .list 5 (m.feet.map (unFoot 300)), .list 12 ((List.range m.bodies.length).map fun i => unF (SZ jb) (fr m p i))]
def standP (jb : Nat) (m : MachD) (p : PoseD) : AV := if poseE m p.joints.length = 0 then .cptr (unPl jb m p) 0 else .lit (.pointer none)
def reQ : List AV -> Rat
 | [.q x _] => x
 | _ => 0
theorem reQ_un {B : Nat} (l : List Rat) : (l.map (unQ B)).map reQ = l := re_un (fun _ => rfl) l
def k117 : KF
 | [.agg M, .agg [.q ax A1, .q az A2, .q tu A3, .list 3 J]] => some (.tup [standP A1 (reMach M) ⟨⟨ax, az⟩, tu, J.map reQ⟩, .int .i64 (poseE (reMach M) J.length)],
     [M = unMach 300 (reMach M), (reMach M).small, (reMach M).bodies.length <= 8, A2 <= A1, A3 <= A1, A1 <= 100000, Ref (.list 3 J) (.list 3 ((J.map reQ).map (unQ A1))), J.length <= 4611686018427387904])
 | _ => none
theorem Rel.known {S0 C0 : Nat -> Prop} {w0 : World} {ρ : Nat -> Nat} {D : Nat -> Prop} {σ : List AV} {h : List (Option ABlk)} {a : Act} {w : World} (R : Rel S0 C0 w0 ρ D ⟨σ, h⟩ a w) {t : Nat} {V : AV} (hv : ∀ v, a.tmps[t]? = some v -> RelV ρ (Sof S0 ρ h) w D V v) : Rel S0 C0 w0 ρ D ⟨σ.set t V, h⟩ a w :=
 { R with
   len := by rw [R.len]; simp
   tmps := fun u v hu => by
     show RelV ρ (Sof S0 ρ h) w D ((σ.set t V).getD u .any) v; rw [set_getD]
     split
     · rename_i e; obtain ⟨rfl, _⟩ := e; exact hv v hu
     · exact R.tmps u v hu }
section
variable {S : Nat -> Prop} {w0 : World}
theorem reg4 (hS : ∀ k, S k -> k < w0.heap.size) {jb : Nat} {m : MachD} {p : PoseD} (hjb : jb <= 100000) {Post : Value -> World -> Prop}
   (hg : ∀ r β, w0.heap.size <= r -> Aft (frs jb m p) 1 r (fun x => S x \/ x = r) w0 β -> Good Tryz.prog 117 β.S β.C β.w Post [.code (nav [1, 1, 1] (bodyOf Tryz.f117))] ⟨slots 49 [(2, .cptr (unMach 300 m) 0), (3, .cptr (unPose jb p) 0), (7, kbA r)], [none]⟩) :
   Good Tryz.prog 117 S No w0 Post [.code R4, .code (nav [1, 1, 1] (bodyOf Tryz.f117))] ⟨slots 49 [(2, .cptr (unMach 300 m) 0), (3, .cptr (unPose jb p) 0)], []⟩ := by
 refine x117_4 (γ := G4) G4.ov (I4 (frs jb m p) S w0) m p jb (rz jb 0) (fr m p 0) ⟨by unfold LIM; omega, ?_⟩ (fun L g β hI q hq => ?_) (fun L i g β hi h => h.other hi) (fun i hi Q L g β ρ D σ h a w V oX hoX hog hI hsz hun hed hA hlen R => ?_) ⟨[], 0, 0⟩ ?_ rfl (fun L g β hall hI => ?_)
 · exact Ref.agg (RefC.cons (RefC.q_le (by simp only [rz]; omega)) (RefC.cons (RefC.q_le (by simp only [rz]; omega)) (RefC.cons (RefC.q_le (rl _)) (RefC.q_le (rl _)))))
 · rw [hI.ov] at hq
   rcases List.mem_append.1 hq with hq | hq
   · rcases List.mem_append.1 hq with hq | hq
     · rw [ifL_mem (b := L.getD 0 false) hq]; simp
     · rw [ifL_mem (b := L.getD 8 false) hq]; simp
   · rw [ifL_mem (b := L.getD 9 false) hq]; simp
 · rw [r4_size] at hsz
   have h24 : 24 < σ.length := by rw [hlen, slots_length]; decide
   simp only [List.mem_cons, List.mem_nil_iff, or_false] at hi; rcases hi with rfl | rfl | rfl | rfl | rfl
   · exact x4_0 hoX hog hI hsz hun R
   · exact x4_7 (F := frs jb m p) rfl hoX hog hI hsz hun hed (hA 23 (by simp)) R
   · exact x4_8 hoX hog hI hsz hun hed (hA 23 (by simp)) R
   · exact x4_9 hoX hog hI hsz hun R
   · exact x4_10 h24 hoX hog hI hsz hun hed (hA 23 (by simp)) R
 · unfold I4
   rw [r4_size]
   have z : ∀ j, (Array.replicate 11 false).getD j false = false := fun j => by
     simp [Array.getD]
   rw [z, z, z, z, z]
   exact {
     c := fun x h => h.elim
     chg := Chg.refl _ _
     ov := rfl
     s := fun x => by simp
     r0 := fun h => by cases h
     r1 := fun h => by cases h
     r2 := fun h => by cases h
     k0 := fun h => by cases h
     k1 := fun h => by cases h
     e7 := fun h => by cases h
     e8 := fun h => by cases h
     e10 := fun h => by cases h }
 · rw [r4_size] at hall
   unfold I4 at hI; rw [hall 0 (by decide), hall 7 (by decide), hall 8 (by decide), hall 9 (by decide), hall 10 (by decide)] at hI; have hov : g.ov = [(17, mapV g.r), (24, mapV g.r), (7, ptrV g.k)] := hI.ov; obtain ⟨r1, r2, r3⟩ := hI.r0 rfl; obtain ⟨k1, k2, k3⟩ := hI.k0 rfl; obtain ⟨c, kc, hc⟩ := hI.k1 rfl; have hc := hc rfl; subst hc; have M1 := hI.r2 rfl
   have hrk : g.r ≠ g.k := fun e => by
     obtain ⟨es, clk, m1, _⟩ := M1; rw [e, kc] at m1; cases m1
   have hS1 : ∀ x, S x \/ x = g.r -> β.S x := fun x hx => (hI.s x).2 (hx.imp id fun h => .inl ⟨rfl, h⟩)
   have M2 : Memo (frs jb m p) 1 (fun x => (S x \/ x = g.r) \/ β.C x) β.w g.r :=
     M1.keep (rl _) rfl fun k _ hs => ⟨fun h => hs (h.imp (hS1 k) id), rfl⟩
   have hgood := hg g.r ⟨fun x => S x \/ x = g.r, β.C, β.w⟩ r1 ⟨rfl, hI.c, r2, hI.chg, M2⟩; intro ρ D a w R b cs hb hk; have R1 := R.shrink hS1
   have hkS : ¬ (fun x => S x \/ x = g.r) g.k := by
     rintro (h | h)
     · have := hS _ h; omega
     · exact hrk h.symm
   have kw : w.heap[g.k]? = some (.cells #[.map (some g.r)] 366 (0, 0)) := by rw [R.chg.block _ k3 k2]; exact kc
   have R2 := R1.slots (σ' := slots 49 [(2, .cptr (unMach 300 m) 0), (3, .cptr (unPose jb p) 0), (7, ptrV g.k)]) (by rw [hov]; rfl) (slots_ref (by
     rw [hov]
     exact .r (.r (.r .nil))))
   have R3 := R2.known (t := 7) (V := kbA g.r) fun v hv => by
     have h1 := R2.tmps 7 v hv; have h2 : v = .pointer (some ⟨g.k, 0, none⟩) := RelV.lit_inv (u := .pointer (some ⟨g.k, 0, none⟩)) h1; subst h2; refine RelV_one (RelCs.cptr (a := ⟨g.k, 0, none⟩) (o := 0) (.lit (v := .map (some g.r)) rfl .done) (heap_lt kw) ?_ ?_ .done)
     · rintro (h | ⟨l, b, hb, e⟩)
       · exact hkS h
       · exact R.ownC_no ((hI.s _).2 (.inr (.inr ⟨rfl, rfl⟩))) ⟨l, b, hb, e⟩
     · intro j v hv
       cases j with
       | zero => simp at hv; subst hv; simp [World.cell?, Addr.add, kw]
       | succ j => simp at hv
   exact hgood ρ D a w R3 b cs hb hk
theorem Ref.cptr {cs cs' : List AV} {o : Nat} (h : RefC cs cs') : Ref (.cptr cs o) (.cptr cs' o) := fun ρ S w D v x => by
 have x' : RelCs ρ S w D [.cptr cs o] [v] := x; cases x' with
 | cptr h1 h2 h3 h4 h5 => exact RelV_one (.cptr (h _ _ _ _ _ h1) h2 h3 h4 .done)
abbrev clo2 (jb r : Nat) (m : MachD) (p : PoseD) : AV := .cptr [.fn 209 [kbA r, cloA jb r m p, .cptr (unMach 300 m) 0, .cptr (unPose jb p) 0]] 0
theorem slots2 (A B : AV) (t : Nat) : (slots 49 [(2, A), (8, B)]).getD t .any = if 8 = t /\ 8 < 49 then B else if 2 = t /\ 2 < 49 then A else .any := by
 have hr : (List.replicate 49 AV.any).getD t .any = .any := by
   simp only [gdE, List.getElem?_replicate]
   split <;> rfl
 unfold slots; simp only [List.foldl]; rw [set_getD, set_getD, hr]; simp only [List.length_set, List.length_replicate]
theorem knot {S0 C0 : Nat -> Prop} {w1 : World} {Post : Value -> World -> Prop} {todo : List Item} {jb r : Nat} {m : MachD} {p : PoseD}
   (hg : Good Tryz.prog 117 S0 C0 w1 Post todo ⟨slots 49 [(2, .cptr (unMach 300 m) 0), (8, clo2 jb r m p)], []⟩) :
   Good Tryz.prog 117 S0 C0 w1 Post todo ⟨slots 49 [(2, .cptr (unMach 300 m) 0), (3, .cptr (unPose jb p) 0), (7, kbA r), (8, .ptr 0 1 0 0)], [some ⟨367, 1, false, [[.fn 209 [kbA r, .ptr 0 1 0 0, .cptr (unMach 300 m) 0, .cptr (unPose jb p) 0]]], none⟩]⟩ := by
 intro ρ D a w R b cs hb hk; refine hg ρ No a w ?_ b cs hb hk; obtain ⟨hD0, arr, h1, h2, h3⟩ := R.heap 0 _ rfl; have hc := h3 0 _ rfl
 have kp : ∀ {cs : List AV} {vs : List Value}, RelCs ρ (Sof S0 ρ [some ⟨367, 1, false, [[.fn 209 [kbA r, .ptr 0 1 0 0, .cptr (unMach 300 m) 0, .cptr (unPose jb p) 0]]], none⟩]) w No cs vs -> RelCs ρ S0 w No cs vs :=
   fun x => x.keep _ (fun _ h => h) ⟨Nat.le_refl _, fun l h => h.elim, fun k _ hs => ⟨fun h => hs (.inl h), rfl⟩⟩
 have hns : ¬ S0 (ρ 0) := (R.mine 0 _ rfl).2.1; have hSn : ∀ k, ¬ Sof S0 ρ [some ⟨367, 1, false, [[.fn 209 [kbA r, .ptr 0 1 0 0, .cptr (unMach 300 m) 0, .cptr (unPose jb p) 0]]], none⟩] k -> ¬ S0 k := fun k hs h => hs (.inl h)
 simp only [Nat.zero_mul, List.drop_zero, Bool.false_eq_true, if_false] at hc
 obtain ⟨v0, hv0⟩ : ∃ v0, arr.toList.take 1 = [v0] := by
   have := hc.wds_eq; simp [wds, wd] at this; exact List.length_eq_one_iff.1 (by simpa using this)
 rw [hv0] at hc
 have hcell : w.cell? ⟨ρ 0, 0, none⟩ = some v0 := by
   have : arr[0]? = some v0 := by
     have h := congrArg (fun l => l[0]?) hv0; simpa [List.getElem?_take] using h
   simp [World.cell?, h1, this]
 have hseg : Seg w ⟨ρ 0, 0, none⟩ [v0] := fun j v hv => by
   cases j with
   | zero => simp at hv; subst hv; simpa [Addr.add] using hcell
   | succ j => simp at hv
 cases hc with
 | fn hcaps hdone =>
   cases hcaps with
   | cptr x1 x2 x3 x4 x5 =>
     cases x5 with
     | ptr y1 y2 =>
       cases y2 with
       | cptr z1 z2 z3 z4 z5 =>
         cases z5 with
         | cptr u1 u2 u3 u4 u5 =>
           cases u5; have any : RelCs ρ S0 w No [AV.fn 209 [kbA r, .any, .cptr (unMach 300 m) 0, .cptr (unPose jb p) 0]] _ := .fn (.cptr (kp x1) x2 (hSn _ x3) x4 (.any (v := .pointer (some ⟨ρ 0, 0 * 1 + 0, none⟩)) rfl (.cptr (kp z1) z2 (hSn _ z3) z4 (.cptr (kp u1) u2 (hSn _ u3) u4 .done)))) .done
           have full : RelCs ρ S0 w No [clo2 jb r m p] [.pointer (some (Addr.add ⟨ρ 0, 0, none⟩ 0))] :=
             .cptr (.fn (.cptr (kp x1) x2 (hSn _ x3) x4 (.cptr any (heap_lt h1) hns hseg (.cptr (kp z1) z2 (hSn _ z3) z4 (.cptr (kp u1) u2 (hSn _ u3) u4 .done)))) .done) (heap_lt h1) hns hseg .done
           have hS0 : Sof S0 ρ ([] : List (Option ABlk)) = S0 := by funext k; apply propext; unfold Sof; simp
           exact {
             defers := R.defers
             len := by rw [R.len]; simp [slots_length]
             tmps := fun t v hv => by
               show RelV ρ (Sof S0 ρ []) w No _ v; rw [hS0]
               have hget : (slots 49 [(2, .cptr (unMach 300 m) 0), (8, clo2 jb r m p)]).getD t .any = if 8 = t /\ 8 < 49 then clo2 jb r m p else if 2 = t /\ 2 < 49 then .cptr (unMach 300 m) 0 else .any := by
                 exact slots2 _ _ t
               show RelV ρ S0 w No ((slots 49 [(2, .cptr (unMach 300 m) 0), (8, clo2 jb r m p)]).getD t .any) v; rw [hget]; have h5 := R.tmps t v hv
               split
               · rename_i e
                 obtain ⟨rfl, _⟩ := e; obtain ⟨e1, _⟩ := ptr_inv (show RelV ρ _ w D (.ptr 0 1 0 0) v from h5); subst e1; exact RelV_one full
               · split
                 · rename_i e
                   obtain ⟨rfl, _⟩ := e; have h6 : RelCs ρ _ w D [AV.cptr (unMach 300 m) 0] [v] := h5; exact RelV_one (kp (h6.noRef0 rfl ρ))
                 · trivial
             heap := fun l b h => by simp at h
             inj := fun l l' b b' h => by simp at h
             lt := R.lt
             dlt := fun l h => h.elim
             chg := R.chg
             mine := fun l b h => by simp at h }
noncomputable abbrev T117 : List Item := [.code (nav [1, 1, 1, 1, 1, 1, 0, 1, 0, 0] (bodyOf Tryz.f117)), .inLoop (nav [1, 1, 1, 1, 1, 1, 0, 1, 0, 0] (bodyOf Tryz.f117)), .inBlock 0, .code (nav [1, 1, 1, 1, 1, 1, 1] (bodyOf Tryz.f117))]
abbrev zbA (m : MachD) (x : AV) : ABlk := ⟨264, 7, false, [[.str m.name, .list 27 (m.bodies.map (unBody 300)), .list 17 (m.springs.map (unCordy 300)), .list 17 (m.tendons.map (unCordy 300)), .list 13 (m.motors.map (unMotor 300)), .list 5 (m.feet.map (unFoot 300)), x]], none⟩
theorem op117_11 : ∃ (oX : Oper) (c : Call), (regOps (nav [1, 1, 1, 1, 1, 1, 0, 1, 0, 0, 1, 1, 0, 0, 1] (bodyOf Tryz.f117)))[7]? = some oX /\ oX.guard = none /\ oX.op = Op.call c /\ c.callee = Callee.value (Operand.tmp 40) /\ c.args = #[Operand.tmp 41] /\ oX.dst = some 42 :=
 ⟨((regOps (nav [1, 1, 1, 1, 1, 1, 0, 1, 0, 0, 1, 1, 0, 0, 1] (bodyOf Tryz.f117))).toList[7]?).getD default, ⟨Callee.value (Operand.tmp 40), #[Operand.tmp 41], #[3]⟩, by kernel_rfl, by kernel_rfl, by kernel_rfl, rfl, rfl, by kernel_rfl⟩
section
variable {jb r : Nat} {m : MachD} {p : PoseD}
theorem end117 (n : Nat) (hn : n = m.bodies.length) (h8 : n <= 8) {β : Base} (hβ : Aft (frs jb m p) n r (fun x => S x \/ x = r) w0 β) :
   Good Tryz.prog 117 β.S β.C β.w (PostF S w0 (.tup [.cptr (unPl jb m p) 0, .i6 0])) [.code .ret] ⟨slots 49 [(4, .ptr 0 7 0 0), (5, .i6 0)], [some (zbA m (.own 1 12 0 n)), some ⟨175, 12, true, (List.range n).map (frs jb m p), none⟩]⟩ := by
 obtain ⟨b1, b2, b3, b4, b5⟩ := hβ; refine Good.freezeD (b := ⟨175, 12, true, (List.range n).map (frs jb m p), none⟩) 1 (by rfl) (by rfl) .on (.oe (.a1 (show 0 + n <= ((List.range n).map (frs jb m p)).length by simp))) ?_; refine Good.freezeD (b := zbA m (.list 12 ((((List.range n).map (frs jb m p)).drop 0).take n))) 0 (by rfl) (by rfl) (.oe (.a1 (dc (0 < 1)))) .on ?_; refine good_end TT0_ok (fn := Tryz.f117) (by kernel_rfl) (.inr ⟨_, rfl⟩) (Vs := [.cptr [.str m.name, .list 27 (m.bodies.map (unBody 300)), .list 17 (m.springs.map (unCordy 300)), .list 17 (m.tendons.map (unCordy 300)), .list 13 (m.motors.map (unMotor 300)), .list 5 (m.feet.map (unFoot 300)), .list 12 ((((List.range n).map (frs jb m p)).drop 0).take n)] 0, .i6 0]) (by kernel_rfl) (.inr rfl) fun ρ D a w2 u R hu => ⟨?_, ?_⟩
 · have h1 := outer_rel (S' := S) hu rfl fun k h => .inl (b1 ▸ .inl h)
   refine Ref.tup2 (Ref.cptr ?_) rr rfl rfl rfl rfl _ _ _ _ _ h1; refine .tl (.tl (.tl (.tl (.tl (.tl ?_))))); subst hn; rw [List.drop_zero, tkE (by simp)]; refine RefC.listM _ fun i hi => ?_
   have hi := List.mem_range.1 hi
   have := rz_le (jb := jb) (i := i) (by omega); exact RefC.cons (RefC.q_le (by omega)) (RefC.cons (RefC.q_le (by omega)) (RefC.cons (RefC.q_le (by omega)) (RefC.q_le (by omega))))
 · exact b4.trans R.chg fun i hi hc => by have := b2 i hc; omega
abbrev lst (jb r n i : Nat) (m : MachD) (p : PoseD) : List AV := slots 49 [(8, clo2 jb r m p), (9, .ptr 0 7 0 0), (31, .i6 ((n : Nat) : Int)), (32, .i6 ((i : Nat) : Int))]
theorem loop117 (hS : ∀ k, S k -> k < w0.heap.size) (hjb : jb <= 100000) (ht : m.tree) (h8 : m.bodies.length <= 8) (hj : p.joints.length + 1 = m.bodies.length) (hr : w0.heap.size <= r) : ∀ (j i : Nat), i + j = m.bodies.length -> 1 <= i ->
   ∀ β, Aft (frs jb m p) i r (fun x => S x \/ x = r) w0 β -> Good Tryz.prog 117 β.S β.C β.w (PostF S w0 (.tup [.cptr (unPl jb m p) 0, .i6 0])) T117 ⟨lst jb r m.bodies.length i m p, [some (zbA m (.own 1 12 0 i)), some ⟨175, 12, true, (List.range i).map (frs jb m p), none⟩]⟩ := by
 intro j
 induction j with
 | zero =>
   intro i hij h1 β hβ; exact gS KT117_ok (some 11) [4, 5] [(33, ff)] (.a1 (iF (om (¬ ((i : Int) < (m.bodies.length : Int)))))) (end117 i (by omega) (by omega) hβ)
 | succ j ih =>
   intro i hij h1 β hβ; refine gS KT117_ok (some 11) [4, 5, 8, 9, 10, 31, 32] [(33, tt)] (.a1 (iT (om ((i : Int) < (m.bodies.length : Int))))) (t := c117T0) (σ := slots 49 [(8, .cptr [.fn 209 [.cptr [.lit (.map (some r))] 0, .cptr [.fn 209 [.cptr [.lit (.map (some r))] 0, .any, .cptr (unMach 300 m) 0, .cptr (unPose jb p) 0]] 0, .cptr (unMach 300 m) 0, .cptr (unPose jb p) 0]] 0), (9, .ptr 0 7 0 0), (10, .i6 (i : Int)), (31, .i6 (m.bodies.length : Int)), (32, .i6 (i : Int))]) (h := [some ⟨264, 7, false, [[.str m.name, .list 27 (m.bodies.map (unBody 300)), .list 17 (m.springs.map (unCordy 300)), .list 17 (m.tendons.map (unCordy 300)), .list 13 (m.motors.map (unMotor 300)), .list 5 (m.feet.map (unFoot 300)), .own 1 12 0 i]], none⟩, some ⟨175, 12, true, ((List.range i).map (frs jb m p)), none⟩]) ?_
   refine x117_1 (B := fun β' => β' = β) (B' := Aft (frs jb m p) (i + 1) r (fun x => S x \/ x = r) w0) m p jb r i m.bodies.length (rz jb i) i (fr m p i) ((List.range i).map (frs jb m p)) ⟨by simp, by omega, by unfold big; omega⟩ (by cases β; rfl) ?_ ?_
   · rintro Q β' ρ D σ h a w1 rfl R hA
     obtain ⟨b1, b2, b3, b4, b5⟩ := hβ; have e1 : aval σ (.tmp 40) = .fn 209 [kbA r, cloA jb r m p, .cptr (unMach 300 m) 0, .cptr (unPose jb p) 0] := (hA 40 (by simp)).trans (by kernel_rfl); have e2 : aval σ (.tmp 41) = .i6 ((i : Nat) : Int) := (hA 41 (by simp)).trans (by kernel_rfl); obtain ⟨oX, c, hoX, hg, hop, hc, hargs, hd⟩ := op117_11; have M1 : Memo (frs jb m p) i (Sof β'.S ρ h) w1 r := Memo.now R (by rw [b1]; exact b5) b3; have hSr : β'.S r := by rw [b1]; exact .inr rfl
     have hmap : c.args.toList.map (aval σ) = [.i6 ((i : Nat) : Int)] := by rw [hargs]; simp [e2]
     have hcall := wpOp_call (Q := Q) (J := fun v w' => RelV ρ0 (Sof β'.S ρ h) w' No (.agg (frs jb m p i)) v /\ Chg (· = r) w1 w' /\ Memo (frs jb m p) (i + 1) (Sof β'.S ρ h) w' r) R hoX hg hop hc e1 (by rw [hmap]; simp [noRefV, noRef, noRef0, isCap, wd]) has209 (fun vals hvals => by
       rw [hmap] at hvals
       exact miss209 hjb m p ht (fun k => R.Slt) (.inl hSr) M1 (by omega) (by omega) (by omega) (by omega) hvals)
     refine wpOp_mono ?_ hcall; rintro a' w' ⟨u, ⟨hu, hch, M2⟩, rfl⟩; rw [hd]; refine ⟨⟨β'.S, ownC ρ h, w'⟩, ⟨b1, fun k hk => R.ownC_ge hk b2 b4.size, R.ownC_no hSr, ?_, ?_⟩, R.turn hch (fun k hk => by subst hk; exact hSr) (.inr ?_)⟩
     · refine (b4.trans R.chg fun i hi hc => by have := b2 i hc; omega).trans hch fun i hi hx => ?_
       subst hx; omega
     · rw [b1] at M2; exact M2
     · obtain ⟨us, h1, h2⟩ := hu
       exact ⟨us, h1, toD h2⟩
   intro β' hβ'; refine Good.pk 49 [(8, clo2 jb r m p), (9, .ptr 0 7 0 0), (31, .i6 ((m.bodies.length : Nat) : Int)), (32, .i6 ((i : Nat) : Int))] ?_; refine Good.tidy [0, 3] (by decide) (σ' := lst jb r m.bodies.length i m p) (h' := [some (zbA m (.own 1 12 0 (i + 1))), some ⟨175, 12, true, (List.range i).map (frs jb m p) ++ [frs jb m p i], none⟩]) (by kernel_rfl) (by kernel_rfl) ?_; have e : (List.range i).map (frs jb m p) ++ [frs jb m p i] = (List.range (i + 1)).map (frs jb m p) := by rw [List.range_succ]; simp
   rw [e]; exact gN KT117_ok [8, 9, 31, 32] [(47, .i6 ((i + 1 : Nat) : Int))] (.a1 (wI ((i : Int) + (1 : Int)) ((i + 1 : Nat) : Int))) (ih (i + 1) (by omega) (by omega) β' hβ')
theorem run117 (hS : ∀ k, S k -> k < w0.heap.size) (hjb : jb <= 100000) (ht : m.tree) (h0 : 0 < m.bodies.length) (h8 : m.bodies.length <= 8) (hj : p.joints.length + 1 = m.bodies.length) :
   GF 117 S w0 (.tup [.cptr (unPl jb m p) 0, .i6 0]) [.code R4, .code (nav [1, 1, 1] (bodyOf Tryz.f117))] ⟨slots 49 [(2, .cptr (unMach 300 m) 0), (3, .cptr (unPose jb p) 0)], []⟩ := by
 refine reg4 hS hjb fun r β hr hβ => ?_
 refine Good.tidy [] (by decide) (σ' := slots 49 [(2, .cptr (unMach 300 m) 0), (3, .cptr (unPose jb p) 0), (7, kbA r)]) (h' := []) (by kernel_rfl) (by kernel_rfl) ?_; refine gS KT117_ok (some 7) [2, 3, 7, 8] [] .nil (t := [.code (nav [1, 1, 1, 1, 1, 0] (bodyOf Tryz.f117)), .code (nav [1, 1, 1, 1, 1, 1] (bodyOf Tryz.f117))]) (σ := slots 49 [(2, .cptr (unMach 300 m) 0), (3, .cptr (unPose jb p) 0), (7, .cptr [.lit (.map (some r))] 0), (8, .ptr 0 1 0 0)]) (h := [some ⟨367, 1, false, [[.fn 209 [.cptr [.lit (.map (some r))] 0, .ptr 0 1 0 0, .cptr (unMach 300 m) 0, .cptr (unPose jb p) 0]]], none⟩]) ?_
 refine knot ?_; refine gN KT117_ok [4, 5, 8, 9, 31, 32] [] .nil (t := T117) (σ := slots 49 [(8, .cptr [.fn 209 [.cptr [.lit (.map (some r))] 0, .cptr [.fn 209 [.cptr [.lit (.map (some r))] 0, .any, .cptr (unMach 300 m) 0, .cptr (unPose jb p) 0]] 0, .cptr (unMach 300 m) 0, .cptr (unPose jb p) 0]] 0), (9, .ptr 0 7 0 0), (31, (.i6 ((m.bodies.map (unBody 300)).length : Int))), (32, .i6 (0 : Int))]) (h := [some ⟨264, 7, false, [[.str m.name, .list 27 (m.bodies.map (unBody 300)), .list 17 (m.springs.map (unCordy 300)), .list 17 (m.tendons.map (unCordy 300)), .list 13 (m.motors.map (unMotor 300)), .list 5 (m.feet.map (unFoot 300)), .nil]], none⟩]) ?_
 have hlen : (m.bodies.map (unBody 300)).length = m.bodies.length := lmE ..; rw [hlen]; refine gS KT117_ok (some 11) [4, 5, 8, 9, 10, 31, 32] [(33, tt)] (.a1 (iT (om ((0 : Int) < (m.bodies.length : Int))))) (t := c117T0) (σ := slots 49 [(8, .cptr [.fn 209 [.cptr [.lit (.map (some r))] 0, .cptr [.fn 209 [.cptr [.lit (.map (some r))] 0, .any, .cptr (unMach 300 m) 0, .cptr (unPose jb p) 0]] 0, .cptr (unMach 300 m) 0, .cptr (unPose jb p) 0]] 0), (9, .ptr 0 7 0 0), (10, .i6 (0 : Int)), (31, .i6 (m.bodies.length : Int)), (32, .i6 (0 : Int))]) (h := [some ⟨264, 7, false, [[.str m.name, .list 27 (m.bodies.map (unBody 300)), .list 17 (m.springs.map (unCordy 300)), .list 17 (m.tendons.map (unCordy 300)), .list 13 (m.motors.map (unMotor 300)), .list 5 (m.feet.map (unFoot 300)), .nil]], none⟩]) ?_
 refine x117_0 (B := fun β' => β' = β) (B' := Aft (frs jb m p) 1 r (fun x => S x \/ x = r) w0) m p jb r 0 m.bodies.length (rz jb 0) (fr m p 0) ⟨by decide, by unfold big; omega⟩ (by cases β; rfl) ?_ ?_
 · rintro Q β' ρ D σ h a w1 rfl R hA
   obtain ⟨b1, b2, b3, b4, b5⟩ := hβ; have e1 : aval σ (.tmp 40) = .fn 209 [kbA r, cloA jb r m p, .cptr (unMach 300 m) 0, .cptr (unPose jb p) 0] := (hA 40 (by simp)).trans (by kernel_rfl); have e2 : aval σ (.tmp 41) = .i6 ((0 : Nat) : Int) := (hA 41 (by simp)).trans (by kernel_rfl); obtain ⟨oX, c, hoX, hg, hop, hc, hargs, hd⟩ := op117_11; have M1 : Memo (frs jb m p) 1 (Sof β'.S ρ h) w1 r := Memo.now R (by rw [b1]; exact b5) b3; have hmap : c.args.toList.map (aval σ) = [.i6 ((0 : Nat) : Int)] := by rw [hargs]; simp [e2]
   have hcall := wpOp_call (Q := Q) (J := PostF (Sof β'.S ρ h) w1 (.agg (frs jb m p 0))) R hoX hg hop hc e1 (by rw [hmap]; simp [noRefV, noRef, noRef0, isCap, wd]) has209 (fun vals hvals => by
     rw [hmap] at hvals
     exact hit209 jb m p (fun k => R.Slt) M1 (by omega) hvals)
   refine wpOp_mono ?_ hcall; rintro a' w' ⟨u, ⟨hu, hch⟩, rfl⟩; rw [hd]; refine ⟨_, ⟨b1, b2, b3, b4, b5⟩, R.called hch ?_⟩; obtain ⟨us, h1, h2⟩ := hu; exact ⟨us, h1, toD h2⟩
 intro β' hβ'; refine Good.pk 49 [(8, clo2 jb r m p), (9, .ptr 0 7 0 0), (31, .i6 ((m.bodies.length : Nat) : Int)), (32, .i6 ((0 : Nat) : Int))] ?_; refine Good.tidy [0, 2] (by decide) (σ' := lst jb r m.bodies.length 0 m p) (h' := [some (zbA m (.own 1 12 0 1)), some ⟨175, 12, true, [frs jb m p 0], none⟩]) (by kernel_rfl) (by kernel_rfl) ?_; exact gN KT117_ok [8, 9, 31, 32] [(47, .i6 ((0 + 1 : Nat) : Int))] (.a1 (wI ((0 : Int) + (1 : Int)) ((0 + 1 : Nat) : Int))) (loop117 hS hjb ht h8 hj hr (m.bodies.length - 1) 1 (by omega) (by omega) β' hβ')
end
end
theorem a117 : Ctr 117 k117 := fun args r ob h ho => by
 unfold k117 at h
 split at h
 · rename_i M ax jb az A2 tu A3 J
   cases h; have o1 : M = unMach 300 (reMach M) := ho _ (by simp); have o2 : (reMach M).small := ho _ (by simp); have o3 : (reMach M).bodies.length <= 8 := ho _ (by simp); have o4 : A2 <= jb := ho _ (by simp); have o5 : A3 <= jb := ho _ (by simp); have o6 : jb <= 100000 := ho _ (by simp); have o7 : Ref (.list 3 J) (.list 3 ((J.map reQ).map (unQ jb))) := ho _ (by simp); have o8 : J.length <= 4611686018427387904 := ho _ (by simp); clear ho; generalize hm : reMach M = m at *; subst o1; obtain ⟨p, hp⟩ : ∃ p : PoseD, p = ⟨⟨ax, az⟩, tu, J.map reQ⟩ := ⟨_, rfl⟩; have hpj : p.joints.length = J.length := by rw [hp]; simp
   rw [<- hp, <- hpj]; refine ⟨⟨Tryz.f117, by kernel_rfl, by kernel_rfl, by kernel_rfl⟩, fun S w0 vals hS hvals => calls_of (Post := PostF S w0 (.tup [standP jb m p, .i6 (poseE m p.joints.length)])) (fn := Tryz.f117) (c := bodyOf Tryz.f117) (by kernel_rfl) (by kernel_rfl) hS hvals ?_⟩; refine Good.weak 49 [(0, .agg (unMach 300 m)), (1, .agg (unPose jb p))] (by kernel_rfl) (.r (.cons (Ref.agg ?_) .nil)) ?_
   · rw [hp]
     refine RefC.tl (RefC.cons (RefC.q_le o4) (RefC.cons (RefC.q_le o5) ?_)); intro ρ S w D vs x; cases x with
     | list f1 f2 f3 f4 f5 f6 f7 =>
       cases f7; exact o7 _ _ _ _ _ (RelV_one (.list f1 f2 f3 f4 f5 f6 .done))
   have hjl : (p.joints.map (unQ jb)).length = p.joints.length := lmE ..; have hbl : (m.bodies.map (unBody 300)).length = m.bodies.length := lmE ..; have hob : Ref (.i6 (poseE (reMach (unMach 300 m)) (p.joints.map (unQ jb)).length)) (.i6 (poseE m p.joints.length)) := Ref.int (by rw [reMach_un, hjl]); have hsm : (reMach (unMach 300 m)).small := by rw [reMach_un]; exact o2
   have hun : unMach 300 m = unMach 300 (reMach (unMach 300 m)) := by rw [reMach_un]
   have v0 : (p.joints.map (unQ jb)).length <= 4611686018427387904 := by rw [hjl, hpj]; exact o8
   have v1 : (m.bodies.map (unBody 300)).length <= 4611686018427387904 := by rw [hbl]; omega
   by_cases c : poseE m p.joints.length = 0
   · refine gR KT117_ok (some 4) [2, 3, 4, 5] [0, 1] [(13, .i6 (poseE m p.joints.length)), (15, ff)] (.a6 hob hun hsm v0 v1 (jF c)) (t := [.code (nav [1, 1, 0] (bodyOf Tryz.f117)), .code (nav [1, 1, 1] (bodyOf Tryz.f117))]) (σ := slots 49 [(2, .ptr 0 6 0 0), (3, .ptr 1 10 0 0), (4, .lit (Go.Value.pointer none)), (5, .i6 (0 : Int))]) (h := [some ⟨41, 6, false, [(unMach 300 m)], none⟩, some ⟨61, 10, false, [(unPose jb p)], none⟩]) ?_
     obtain ⟨c1, c2⟩ := pose_parts c; rw [show standP jb m p = .cptr (unPl jb m p) 0 from if_pos c, c]; refine Good.pk 49 [(2, .ptr 0 6 0 0), (3, .ptr 1 10 0 0)] ?_; refine Good.freezeD (b := ⟨41, 6, false, [unMach 300 m], none⟩) 0 (by rfl) (by rfl) (.oe (.a1 (dc (0 < 1)))) .on ?_; refine Good.freezeD (b := ⟨61, 10, false, [unPose jb p], none⟩) 1 (by rfl) (by rfl) (.oe (.a1 (dc (0 < 1)))) .on ?_; refine Good.tidy [] (by decide) (σ' := slots 49 [(2, .cptr (unMach 300 m) 0), (3, .cptr (unPose jb p) 0)]) (h' := []) (by kernel_rfl) (by kernel_rfl) ?_; exact run117 hS o6 (check_tree c1) (by omega) o3 c2
   · refine gR KT117_ok (some 4) [2, 3, 4, 5] [0, 1] [(13, .i6 (poseE m p.joints.length)), (15, tt)] (.a6 hob hun hsm v0 v1 (jT c)) (t := [.code .ret, .code (nav [1, 1] (bodyOf Tryz.f117))]) (σ := slots 49 [(2, .ptr 0 6 0 0), (3, .ptr 1 10 0 0), (4, .lit (Go.Value.pointer none)), (5, .i6 (poseE m p.joints.length))]) (h := [some ⟨41, 6, false, [(unMach 300 m)], none⟩, some ⟨61, 10, false, [(unPose jb p)], none⟩]) ?_
     rw [show standP jb m p = .lit (.pointer none) from if_neg c]; exact gE [.lit (.pointer none), .i6 (poseE m p.joints.length)] rr
 · cases h
def rfA : Code -> Code
 | .rangeFunc _ _ a _ => a
 | c => c
def rfB : Code -> Code
 | .rangeFunc _ _ _ b => b
 | c => c
def h210 : List AV -> List ABlk -> Option (AV × List (Option ABlk) × List Prop)
 | [.cptr xs 0, .int .i64 b], [] => some (.fn 267 [.ptr 0 1 0 0, .cptr [.cptr xs 0] 0], [some ⟨3, 1, false, [[.int .i64 b]], none⟩], [])
 | _, _ => none
theorem p210 {S0 C0 : Nat -> Prop} {w0 : World} {Post : Value -> World -> Prop} (xs : List AV) (b : Int) (hg : Good Tryz.prog 210 S0 C0 w0 Post [.code .ret] ⟨slots 6 [(4, .fn 267 [.ptr 1 1 0 0, .ptr 0 1 0 0])], [some ⟨259, 1, false, [[.cptr xs 0]], none⟩, some ⟨3, 1, false, [[.i6 b]], none⟩]⟩) :
   Good Tryz.prog 210 S0 C0 w0 Post [.code (bodyOf Tryz.f210)] ⟨slots 6 [(0, .cptr xs 0), (1, .i6 b)], []⟩ :=
 go mixed TT0_ok KOK.nil 20 none [4] [] (ob := []) (by kernel_rfl) AllP.nil hg
theorem ah210 (args : List AV) (b : List ABlk) (r : AV) (h2 : List (Option ABlk)) (ob : List Prop) (h : h210 args b = some (r, h2, ob)) (ho : AllP ob) : AFunH Tryz.prog 210 args b r h2 := by
 unfold h210 at h
 split at h
 · rename_i xs b
   cases h; refine afunH_of (fn := Tryz.f210) (c := bodyOf Tryz.f210) (by kernel_rfl) (by kernel_rfl) (by kernel_rfl) (by simp) fun S w0 ρ hρ => ?_
   have e : (st0 [AV.cptr xs 0, AV.int .i64 b] Tryz.f210.ntmps).σ = slots 6 [(0, .cptr xs 0), (1, .i6 b)] := by kernel_rfl
   rw [e]; refine p210 xs b ?_; refine Good.freezeD (b := ⟨259, 1, false, [[.cptr xs 0]], none⟩) 0 (by rfl) (by rfl) (.oe (.a1 (dc (0 < 1)))) .on ?_; refine Good.ren [1] (by decide) ?_; exact good_endH TT0_ok (fn := Tryz.f210) (by kernel_rfl) (.inr ⟨_, rfl⟩) (Vs := [AV.fn 267 [.ptr 0 1 0 0, .cptr [.cptr xs 0] 0]]) (by kernel_rfl) (by rfl) (by rfl) (fun l hl => absurd hl (by simp)) (fun l hl => absurd hl (by simp)) rr
 · cases h
def KT120_ok := ((((kn.cons a119).cons a59).cons a32).cons a25).consH ah210
abbrev n120_0 (m : MachD) (fe : Nat) (F : Nat -> FrameD) : List AV := [.cptr [.str m.name, .list 27 (m.bodies.map (unBody 300)), .list 17 (m.springs.map (unCordy 300)), .list 17 (m.tendons.map (unCordy 300)), .list 13 (m.motors.map (unMotor 300)), .list 5 (m.feet.map (unFoot 300)), .list 12 ((List.range m.bodies.length).map fun i => unF fe (F i))] 0]
abbrev n120_1 (N : Nat) (k4 : Nat) : ABlk := ⟨59, 1, false, [[.own 2 3 0 N], [.own 3 3 0 N]], (some k4)⟩
abbrev n120_2 (X : PtD) (EP : Nat) (k1 : Nat) : ABlk := ⟨58, 6, false, [[.q X.x EP, .q X.z EP]], (some k1)⟩
abbrev n120_3 (X : PtD) (F : Nat -> FrameD) (b : Int) (E : Nat) : List AV := [.q (X.x - (F b.toNat).at_.x) E, .q (X.z - (F b.toNat).at_.z) E]
abbrev n120_4 (l : Nat) (m : MachD) (fe : Nat) (F : Nat -> FrameD) : List (Nat × AV) := [(0, (.lit (.func (.yield l) #[] #[]))), (1, (.ptr 6 1 0 0)), (2, (.cptr (n120_0 m fe F) 0))]
section
variable {S0 C0 : Nat -> Prop} {w0 : World} {Post : Value -> World -> Prop}
theorem r120_5 {S0 C0 : Nat -> Prop} {w0 : World} {ro : Option Nat} {ρ : Nat -> Nat} {D : Nat -> Prop} {a : Act} {w : World} (m : MachD) (F : Nat -> FrameD) (fe : Nat) (b : Int) (X : PtD) (EP E N k0 k1 k2 k3 k4 k5 k6 : Nat) (X0 X1 : List Rat) (R : Rel S0 C0 w0 ρ D ⟨slots 79 [(3, .ptr 0 1 0 0), (7, .ptr 1 6 0 0), (8, .ptr 5 1 0 0), (50, .i6 b)], [some ⟨259, 1, false, [[.cptr [.str m.name, .list 27 (m.bodies.map (unBody 300)), .list 17 (m.springs.map (unCordy 300)), .list 17 (m.tendons.map (unCordy 300)), .list 13 (m.motors.map (unMotor 300)), .list 5 (m.feet.map (unFoot 300)), .list 12 ((List.range m.bodies.length).map fun i => unF fe (F i))] 0]], (some k0)⟩, some ⟨58, 6, false, [[.q X.x EP, .q X.z EP]], (some k1)⟩, some ⟨56, 3, true, (X0.map (unQ E)), (some k2)⟩, some ⟨56, 3, true, (X1.map (unQ E)), (some k3)⟩, some ⟨59, 1, false, [[.own 2 3 0 N], [.own 3 3 0 N]], (some k4)⟩, some ⟨89, 1, false, [[.own 4 1 0 2]], (some k5)⟩, some ⟨3, 1, false, [[.i6 b]], (some k6)⟩]⟩ a w)
   {Q : Exit -> Act -> World -> Prop} (hQ : ∀ ρ' D' a' w', Rel S0 C0 w0 ρ' D' ⟨slots 79 [(3, .ptr 0 1 0 0), (7, .ptr 1 6 0 0), (8, .ptr 5 1 0 0), (9, .i6 b)], [some ⟨259, 1, false, [(n120_0 m fe F)], (some k0)⟩, some (n120_2 X EP k1), some ⟨56, 3, true, (X0.map (unQ E)), (some k2)⟩, some ⟨56, 3, true, (X1.map (unQ E)), (some k3)⟩, some (n120_1 N k4), some ⟨89, 1, false, [[.own 4 1 0 2]], (some k5)⟩, some ⟨3, 1, false, [[.i6 b]], (some k6)⟩]⟩ a' w' -> Q .normal a' w') : (rfA (nav [1, 1, 1, 1, 0, 1, 0] (bodyOf Tryz.f120))).wpIn (wideR ro) 0 Tryz.prog Q a w :=
 region_inK mixed TT0_ok KT120_ok [3, 7, 8, 9] [] (ob := []) R (by kernel_rfl) (by kernel_rfl) (by kernel_rfl)
   (AllP.nil) hQ
theorem r120_6 {S0 C0 : Nat -> Prop} {w0 : World} {ro : Option Nat} {ρ : Nat -> Nat} {D : Nat -> Prop} {a : Act} {w : World} (m : MachD) (F : Nat -> FrameD) (fe : Nat) (b : Int) (X : PtD) (EP E N k0 k1 k2 k3 k4 k5 k6 : Nat) (X0 X1 : List Rat) (o : (Ref (.cptr (((List.range m.bodies.length).map fun i => unF fe (F i)).getD b.toNat []) 0) (.cptr [.q ((F b.toNat).at_.x) (2 * fe), .q ((F b.toNat).at_.z) (2 * fe), .q ((F b.toNat).c) fe, .q ((F b.toNat).s) fe] 0)) /\ (0 <= b) /\ (b < (((List.range m.bodies.length).map fun i => unF fe (F i)).length : Int)) /\ (Ref (.agg [.q (X.x - ((F b.toNat).at_.x)) (EP + (2 * fe) + 2), .q (X.z - ((F b.toNat).at_.z)) (EP + (2 * fe) + 2)]) (.agg [.q (X.x - (F b.toNat).at_.x) E, .q (X.z - (F b.toNat).at_.z) E])) /\ (EP + EP + (2 * fe) + (2 * fe) + 300 <= LIM)) (R : Rel S0 C0 w0 ρ D ⟨slots 79 [(3, .ptr 0 1 0 0), (7, .ptr 1 6 0 0), (8, .ptr 5 1 0 0), (9, .i6 b)], [some ⟨259, 1, false, [[.cptr [.str m.name, .list 27 (m.bodies.map (unBody 300)), .list 17 (m.springs.map (unCordy 300)), .list 17 (m.tendons.map (unCordy 300)), .list 13 (m.motors.map (unMotor 300)), .list 5 (m.feet.map (unFoot 300)), .list 12 ((List.range m.bodies.length).map fun i => unF fe (F i))] 0]], (some k0)⟩, some ⟨58, 6, false, [[.q X.x EP, .q X.z EP]], (some k1)⟩, some ⟨56, 3, true, (X0.map (unQ E)), (some k2)⟩, some ⟨56, 3, true, (X1.map (unQ E)), (some k3)⟩, some ⟨59, 1, false, [[.own 2 3 0 N], [.own 3 3 0 N]], (some k4)⟩, some ⟨89, 1, false, [[.own 4 1 0 2]], (some k5)⟩, some ⟨3, 1, false, [[.i6 b]], (some k6)⟩]⟩ a w)
   {Q : Exit -> Act -> World -> Prop} (hQ : ∀ ρ' D' a' w', Rel S0 C0 w0 ρ' D' ⟨slots 79 [(3, .ptr 0 1 0 0), (7, .ptr 1 6 0 0), (8, .ptr 5 1 0 0), (9, .i6 b), (10, .ptr 8 6 0 0)], [some ⟨259, 1, false, [(n120_0 m fe F)], (some k0)⟩, some (n120_2 X EP k1), some ⟨56, 3, true, (X0.map (unQ E)), (some k2)⟩, some ⟨56, 3, true, (X1.map (unQ E)), (some k3)⟩, some (n120_1 N k4), some ⟨89, 1, false, [[.own 4 1 0 2]], (some k5)⟩, some ⟨3, 1, false, [[.i6 b]], (some k6)⟩, none, some ⟨58, 6, false, [(n120_3 X F b E)], none⟩]⟩ a' w' -> Q .normal a' w') : (nav [0, 0] (rfB (nav [1, 1, 1, 1, 0, 1, 0] (bodyOf Tryz.f120)))).wpIn (wideR ro) 0 Tryz.prog Q a w :=
 region_inK mixed TT0_ok KT120_ok [3, 7, 8, 9, 10] [(57, (.cptr [.q ((F b.toNat).at_.x) (2 * fe), .q ((F b.toNat).at_.z) (2 * fe), .q ((F b.toNat).c) fe, .q ((F b.toNat).s) fe] 0)), (60, (.agg (n120_3 X F b E)))] (ob := [Ref (.cptr (((List.range m.bodies.length).map fun i => unF fe (F i)).getD b.toNat []) 0) (.cptr [.q ((F b.toNat).at_.x) (2 * fe), .q ((F b.toNat).at_.z) (2 * fe), .q ((F b.toNat).c) fe, .q ((F b.toNat).s) fe] 0), 0 <= b, b < (((List.range m.bodies.length).map fun i => unF fe (F i)).length : Int), Ref (.agg [.q (X.x - ((F b.toNat).at_.x)) (EP + (2 * fe) + 2), .q (X.z - ((F b.toNat).at_.z)) (EP + (2 * fe) + 2)]) (.agg (n120_3 X F b E)), EP + EP + (2 * fe) + (2 * fe) + 300 <= LIM]) R (by kernel_rfl) (by kernel_rfl) (by kernel_rfl)
   (.cons (o.1) (.cons (o.2.1) (.cons (o.2.2.1) (.cons (o.2.2.2.1) (.cons (o.2.2.2.2) (AllP.nil)))))) hQ
theorem r120_7 {S0 C0 : Nat -> Prop} {w0 : World} {ro : Option Nat} {ρ : Nat -> Nat} {D : Nat -> Prop} {a : Act} {w : World} (m : MachD) (F : Nat -> FrameD) (fe : Nat) (b : Int) (X : PtD) (EP E N k0 k1 k2 k3 k4 k5 k6 : Nat) (X0 X1 : List Rat) (o : (-9223372036854775808 <= (2 : Int) + b /\ (2 : Int) + b <= 9223372036854775807) /\ (0 <= ((2 : Int) + b)) /\ (((2 : Int) + b) < (N : Int)) /\ (0 + (((2 : Int) + b).toNat) < (X0.map (unQ E)).length) /\ (0 + (((2 : Int) + b).toNat) < (X1.map (unQ E)).length)) (R : Rel S0 C0 w0 ρ D ⟨slots 79 [(3, .ptr 0 1 0 0), (7, .ptr 1 6 0 0), (8, .ptr 5 1 0 0), (9, .i6 b), (10, .ptr 8 6 0 0)], [some ⟨259, 1, false, [[.cptr [.str m.name, .list 27 (m.bodies.map (unBody 300)), .list 17 (m.springs.map (unCordy 300)), .list 17 (m.tendons.map (unCordy 300)), .list 13 (m.motors.map (unMotor 300)), .list 5 (m.feet.map (unFoot 300)), .list 12 ((List.range m.bodies.length).map fun i => unF fe (F i))] 0]], (some k0)⟩, some ⟨58, 6, false, [[.q X.x EP, .q X.z EP]], (some k1)⟩, some ⟨56, 3, true, (X0.map (unQ E)), (some k2)⟩, some ⟨56, 3, true, (X1.map (unQ E)), (some k3)⟩, some ⟨59, 1, false, [[.own 2 3 0 N], [.own 3 3 0 N]], (some k4)⟩, some ⟨89, 1, false, [[.own 4 1 0 2]], (some k5)⟩, some ⟨3, 1, false, [[.i6 b]], (some k6)⟩, none, some ⟨58, 6, false, [[.q (X.x - (F b.toNat).at_.x) E, .q (X.z - (F b.toNat).at_.z) E]], none⟩]⟩ a w)
   {Q : Exit -> Act -> World -> Prop} (hQ : ∀ ρ' D' a' w', Rel S0 C0 w0 ρ' D' ⟨slots 79 [], [some ⟨259, 1, false, [(n120_0 m fe F)], (some k0)⟩, some (n120_2 X EP k1), some ⟨56, 3, true, ((X0.map (unQ E)).set (0 + (((2 : Int) + b).toNat)) [.q (-(X.z - (F b.toNat).at_.z)) E]), (some k2)⟩, some ⟨56, 3, true, ((X1.map (unQ E)).set (0 + (((2 : Int) + b).toNat)) [.q (X.x - (F b.toNat).at_.x) E]), (some k3)⟩, some (n120_1 N k4), some ⟨89, 1, false, [[.own 4 1 0 2]], (some k5)⟩, some ⟨3, 1, false, [[.i6 b]], (some k6)⟩, none, some ⟨58, 6, false, [(n120_3 X F b E)], none⟩, none]⟩ a' w' -> Q .normal a' w') : (nav [0, 1] (rfB (nav [1, 1, 1, 1, 0, 1, 0] (bodyOf Tryz.f120)))).wpIn (wideR ro) 0 Tryz.prog Q a w :=
 region_inK mixed TT0_ok KT120_ok [] [(65, (.i6 ((2 : Int) + b))), (70, (.i6 ((2 : Int) + b)))] (ob := [0 <= (0 : Int), (0 : Int) < 2, Ref (.i6 (IntKind.i64.wrap ((2 : Int) + b))) (.i6 ((2 : Int) + b)), 0 <= (1 : Int), (1 : Int) < 2, Ref (.i6 (IntKind.i64.wrap ((2 : Int) + b))) (.i6 ((2 : Int) + b)), 0 <= ((2 : Int) + b), ((2 : Int) + b) < (N : Int), 0 + (((2 : Int) + b).toNat) < (X0.map (unQ E)).length, 0 <= ((2 : Int) + b), ((2 : Int) + b) < (N : Int), 0 + (((2 : Int) + b).toNat) < (X1.map (unQ E)).length]) R (by kernel_rfl) (by kernel_rfl) (by kernel_rfl)
   (.cons (by decide) (.cons (by decide) (.cons ((Ref.wr o.1).trans (Ref.int (by rfl))) (.cons (by decide) (.cons (by decide) (.cons ((Ref.wr o.1).trans (Ref.int (by rfl))) (.cons (o.2.1) (.cons (o.2.2.1) (.cons (o.2.2.2.1) (.cons (o.2.1) (.cons (o.2.2.1) (.cons (o.2.2.2.2) (AllP.nil))))))))))))) hQ
theorem r120_4 (m : MachD) (F : Nat -> FrameD) (fe : Nat) (b : Int) (X : PtD) (EP E N : Nat) (X0 X1 : List Rat) (hg : Good Tryz.prog 120 S0 C0 w0 Post [.code (nav [1, 1, 1, 1, 0, 1] (bodyOf Tryz.f120)), .code (nav [1, 1, 1, 1, 1] (bodyOf Tryz.f120))] ⟨slots 79 [(3, .ptr 0 1 0 0), (7, .ptr 1 6 0 0), (8, .ptr 5 1 0 0), (49, .fn 267 [.ptr 6 1 0 0, .cptr [.cptr [.str m.name, .list 27 (m.bodies.map (unBody 300)), .list 17 (m.springs.map (unCordy 300)), .list 17 (m.tendons.map (unCordy 300)), .list 13 (m.motors.map (unMotor 300)), .list 5 (m.feet.map (unFoot 300)), .list 12 ((List.range m.bodies.length).map fun i => unF fe (F i))] 0] 0])], [some ⟨259, 1, false, [[.cptr [.str m.name, .list 27 (m.bodies.map (unBody 300)), .list 17 (m.springs.map (unCordy 300)), .list 17 (m.tendons.map (unCordy 300)), .list 13 (m.motors.map (unMotor 300)), .list 5 (m.feet.map (unFoot 300)), .list 12 ((List.range m.bodies.length).map fun i => unF fe (F i))] 0]], none⟩, some ⟨58, 6, false, [[.q X.x EP, .q X.z EP]], none⟩, some ⟨56, 3, true, (X0.map (unQ E)), none⟩, some ⟨56, 3, true, (X1.map (unQ E)), none⟩, some ⟨59, 1, false, [[.own 2 3 0 N], [.own 3 3 0 N]], none⟩, some ⟨89, 1, false, [[.own 4 1 0 2]], none⟩, some ⟨3, 1, false, [[.i6 b]], none⟩]⟩) : Good Tryz.prog 120 S0 C0 w0 Post [.code (nav [1, 1, 1, 1, 0, 0] (bodyOf Tryz.f120)), .code (nav [1, 1, 1, 1, 0, 1] (bodyOf Tryz.f120)), .code (nav [1, 1, 1, 1, 1] (bodyOf Tryz.f120))] ⟨slots 79 [(1, .i6 b), (3, .ptr 0 1 0 0), (7, .ptr 1 6 0 0), (8, .ptr 5 1 0 0)], [some ⟨259, 1, false, [[.cptr [.str m.name, .list 27 (m.bodies.map (unBody 300)), .list 17 (m.springs.map (unCordy 300)), .list 17 (m.tendons.map (unCordy 300)), .list 13 (m.motors.map (unMotor 300)), .list 5 (m.feet.map (unFoot 300)), .list 12 ((List.range m.bodies.length).map fun i => unF fe (F i))] 0]], none⟩, some ⟨58, 6, false, [[.q X.x EP, .q X.z EP]], none⟩, some ⟨56, 3, true, (X0.map (unQ E)), none⟩, some ⟨56, 3, true, (X1.map (unQ E)), none⟩, some ⟨59, 1, false, [[.own 2 3 0 N], [.own 3 3 0 N]], none⟩, some ⟨89, 1, false, [[.own 4 1 0 2]], none⟩]⟩ :=
 Good.regOne mixed TT0_ok KT120_ok [3, 7, 8, 49] [0, 1, 2, 3, 4, 5, 6] [] (ob := []) (by kernel_rfl) (by decide) (by kernel_rfl)
   (AllP.nil) hg
theorem p267_0_0 (m : MachD) (F : Nat -> FrameD) (fe : Nat) (b : Int) (X : PtD) (EP E N k0 k1 k2 k3 k4 k5 k6 : Nat) (X0 X1 : List Rat) (l : Nat)
   (hg : Good Tryz.prog 267 S0 C0 w0 Post [.code (nav [0, 0] (bodyOf Tryz.f267)), .inLoop (nav [0, 0] (bodyOf Tryz.f267)), .inBlock 0] ⟨slots 20 (n120_4 l m fe F), [some ⟨259, 1, false, [(n120_0 m fe F)], (some k0)⟩, some (n120_2 X EP k1), some ⟨56, 3, true, (X0.map (unQ E)), (some k2)⟩, some ⟨56, 3, true, (X1.map (unQ E)), (some k3)⟩, some (n120_1 N k4), some ⟨89, 1, false, [[.own 4 1 0 2]], (some k5)⟩, some ⟨3, 1, false, [[.i6 b]], (some k6)⟩]⟩) :
   Good Tryz.prog 267 S0 C0 w0 Post [.code (nav [] (bodyOf Tryz.f267))] ⟨slots 20 (n120_4 l m fe F), [some ⟨259, 1, false, [(n120_0 m fe F)], (some k0)⟩, some (n120_2 X EP k1), some ⟨56, 3, true, (X0.map (unQ E)), (some k2)⟩, some ⟨56, 3, true, (X1.map (unQ E)), (some k3)⟩, some (n120_1 N k4), some ⟨89, 1, false, [[.own 4 1 0 2]], (some k5)⟩, some ⟨3, 1, false, [[.i6 b]], (some k6)⟩]⟩ :=
 go mixed TT0_ok KT120_ok 7 none [0, 1, 2] [] (ob := []) (by kernel_rfl)
   (AllP.nil) hg
theorem r267_0 (m : MachD) (F : Nat -> FrameD) (fe : Nat) (b : Int) (X : PtD) (EP E N k0 k1 k2 k3 k4 k5 k6 : Nat) (X0 X1 : List Rat) (l : Nat) (hb : 0 <= b)
   (hX : ∀ ρ D a w Q, Rel S0 C0 w0 ρ D ⟨slots 20 [(0, .lit (.func (.yield l) #[] #[])), (1, .ptr 6 1 0 0), (2, .cptr (n120_0 m fe F) 0), (4, .i6 b), (5, .bool true), (6, .bool true), (7, .lit (.func (.yield l) #[] #[])), (8, .i6 b)], [some ⟨259, 1, false, [(n120_0 m fe F)], (some k0)⟩, some (n120_2 X EP k1), some ⟨56, 3, true, (X0.map (unQ E)), (some k2)⟩, some ⟨56, 3, true, (X1.map (unQ E)), (some k3)⟩, some (n120_1 N k4), some ⟨89, 1, false, [[.own 4 1 0 2]], (some k5)⟩, some ⟨3, 1, false, [[.i6 b]], (some k6)⟩]⟩ a w -> wpOpIn (wideR none) 0 Tryz.prog (regOps (nav [0, 0, 0, 0] (bodyOf Tryz.f267))) Q 5 (fun a' w' => ∃ ρ' D', Rel S0 C0 w0 ρ' D' ⟨slots 20 [(0, .lit (.func (.yield l) #[] #[])), (1, .ptr 6 1 0 0), (2, .cptr (n120_0 m fe F) 0), (6, .bool true), (9, .bool true)], [some ⟨259, 1, false, [(n120_0 m fe F)], (some k0)⟩, some (n120_2 X EP k1), some ⟨56, 3, true, ((X0.map (unQ E)).set (0 + (((2 : Int) + b).toNat)) [.q (-(X.z - (F b.toNat).at_.z)) E]), (some k2)⟩, some ⟨56, 3, true, ((X1.map (unQ E)).set (0 + (((2 : Int) + b).toNat)) [.q (X.x - (F b.toNat).at_.x) E]), (some k3)⟩, some (n120_1 N k4), some ⟨89, 1, false, [[.own 4 1 0 2]], (some k5)⟩, some ⟨3, 1, false, [[.i6 b]], (some k6)⟩, none, some ⟨58, 6, false, [(n120_3 X F b E)], none⟩, none]⟩ a' w') a w)
   (hg : Good Tryz.prog 267 S0 C0 w0 Post [.code (nav [0, 0, 0, 1] (bodyOf Tryz.f267)), .code (nav [0, 0, 1] (bodyOf Tryz.f267)), .inLoop (nav [0, 0] (bodyOf Tryz.f267)), .inBlock 0] ⟨slots 20 [(0, .lit (.func (.yield l) #[] #[])), (1, .ptr 6 1 0 0), (2, .cptr (n120_0 m fe F) 0), (6, .bool true), (9, .bool true), (10, .bool true)], [some ⟨259, 1, false, [(n120_0 m fe F)], (some k0)⟩, some (n120_2 X EP k1), some ⟨56, 3, true, ((X0.map (unQ E)).set (0 + (((2 : Int) + b).toNat)) [.q (-(X.z - (F b.toNat).at_.z)) E]), (some k2)⟩, some ⟨56, 3, true, ((X1.map (unQ E)).set (0 + (((2 : Int) + b).toNat)) [.q (X.x - (F b.toNat).at_.x) E]), (some k3)⟩, some (n120_1 N k4), some ⟨89, 1, false, [[.own 4 1 0 2]], (some k5)⟩, some ⟨3, 1, false, [[.i6 b]], (some k6)⟩, none, some ⟨58, 6, false, [(n120_3 X F b E)], none⟩, none]⟩) : Good Tryz.prog 267 S0 C0 w0 Post [.code (nav [0, 0, 0, 0] (bodyOf Tryz.f267)), .code (nav [0, 0, 0, 1] (bodyOf Tryz.f267)), .code (nav [0, 0, 1] (bodyOf Tryz.f267)), .inLoop (nav [0, 0] (bodyOf Tryz.f267)), .inBlock 0] ⟨slots 20 (n120_4 l m fe F), [some ⟨259, 1, false, [(n120_0 m fe F)], (some k0)⟩, some (n120_2 X EP k1), some ⟨56, 3, true, (X0.map (unQ E)), (some k2)⟩, some ⟨56, 3, true, (X1.map (unQ E)), (some k3)⟩, some (n120_1 N k4), some ⟨89, 1, false, [[.own 4 1 0 2]], (some k5)⟩, some ⟨3, 1, false, [[.i6 b]], (some k6)⟩]⟩ :=
 Good.regRound mixed TT0_ok KT120_ok 5 [(5, AV.bool true)] (ob1 := [Ref (.bool (decide ((0 : Int) <= b))) (.bool true)]) (ob2 := []) (by kernel_rfl) (by kernel_rfl) (Nat.le_of_ble_eq_true (by kernel_rfl)) (by kernel_rfl) (by kernel_rfl) (.cons (Ref.bool (decide_eq_true hb)) AllP.nil) hX (by kernel_rfl) AllP.nil hg
end
noncomputable abbrev c120T0 : List Item := [.code (nav [0, 0] (bodyOf Tryz.f267)), .inLoop (nav [0, 0] (bodyOf Tryz.f267)), .inBlock 0]
theorem frF_ref {fe i : Nat} {m : MachD} {F : Nat -> FrameD} (h : i < m.bodies.length) : Ref (.cptr (((List.range m.bodies.length).map fun i => unF fe (F i)).getD i []) 0) (.cptr (unF fe (F i)) 0) := Ref.eq (by rw [gdE, List.getElem?_map, List.getElem?_range h]; rfl)
def jacGo (m : MachD) (F : Nat -> FrameD) (X : PtD) : Nat -> Int -> List Rat -> List Rat -> List Rat × List Rat
 | 0, _, Y, Z => (Y, Z)
 | n + 1, b, Y, Z => if 0 <= b then jacGo m F X n (m.bodies.getD b.toNat default).par (Y.set ((2 : Int) + b).toNat (-(X.z - (F b.toNat).at_.z))) (Z.set ((2 : Int) + b).toNat (X.x - (F b.toNat).at_.x)) else (Y, Z)
abbrev plL (fe : Nat) (m : MachD) (F : Nat -> FrameD) : List AV := [.str m.name, .list 27 (m.bodies.map (unBody 300)), .list 17 (m.springs.map (unCordy 300)), .list 17 (m.tendons.map (unCordy 300)), .list 13 (m.motors.map (unMotor 300)), .list 5 (m.feet.map (unFoot 300)), .list 12 ((List.range m.bodies.length).map fun i => unF fe (F i))]
abbrev hJ (m : MachD) (F : Nat -> FrameD) (fe : Nat) (X : PtD) (EP E N k0 k1 k2 k3 k4 k5 k6 : Nat) (X0 X1 : List Rat) (b : Int) : List (Option ABlk) := [some ⟨259, 1, false, [[.cptr (plL fe m F) 0]], some k0⟩, some ⟨58, 6, false, [[.q X.x EP, .q X.z EP]], some k1⟩, some ⟨56, 3, true, X0.map (unQ E), some k2⟩, some ⟨56, 3, true, X1.map (unQ E), some k3⟩, some ⟨59, 1, false, [[.own 2 3 0 N], [.own 3 3 0 N]], some k4⟩, some ⟨89, 1, false, [[.own 4 1 0 2]], some k5⟩, some ⟨3, 1, false, [[.i6 b]], some k6⟩]
theorem trunk_par {bs : List BodyD} (h : bodyE bs 0 = 0) : (bs.getD 0 default).par = -1 := by
 unfold bodyE bodyV at h
 split at h
 · cases h
 · split at h
   · cases h
   · unfold bodyF at h
     split at h
     · cases h
     · rename_i h1
       have : trunkB (bs.getD 0 default) = true := by
         cases ht : trunkB (bs.getD 0 default) with
         | true => rfl
         | false => exact absurd (.inl ⟨rfl, ht⟩) h1
       unfold trunkB at this; exact (of_decide_eq_true this).1
theorem par_lt {m : MachD} (h : checkE m = 0) {b : Int} (h0 : 0 <= b) (hb : b < ((m.bodies.length : Nat) : Int)) : (m.bodies.getD b.toNat default).par < b /\ -1 <= (m.bodies.getD b.toNat default).par := by
 by_cases hz : b = 0
 · subst hz
   have := trunk_par ((check_parts h).2.1 0 (by omega)); rw [show (0 : Int).toNat = 0 from rfl, this]; decide
 · have := check_tree h b.toNat (by omega) (by omega)
   omega
section
variable {S1 C1 : Nat -> Prop} {w1 : World}
abbrev I0 (fe : Nat) (m : MachD) (F : Nat -> FrameD) (l : Nat) : List (Nat × AV) := [(0, .lit (.func (.yield l) #[] #[])), (1, .ptr 6 1 0 0), (2, .cptr [.cptr (plL fe m F) 0] 0)]
noncomputable abbrev codeRF : Code := nav [1, 1, 1, 1, 0, 1, 0] (bodyOf Tryz.f120)
theorem rf_eq : codeRF = .rangeFunc (.tmp 49) #[50] (rfA codeRF) (rfB codeRF) := by kernel_rfl
theorem rfB_eq : rfB codeRF = .block 1 (.seq (nav [0, 0] (rfB codeRF)) (nav [0, 1] (rfB codeRF))) := by kernel_rfl
theorem yield120 (m : MachD) (F : Nat -> FrameD) (fe : Nat) (X : PtD) (EP E N k0 k1 k2 k3 k4 k5 k6 : Nat) (b : Int) (X0 X1 : List Rat) (l : Nat) (rec : Loop) {tmps : Array Value} (hl1 : w1.heap[l]? = some (.loop rec)) (hSl : S1 l) (hCl : ¬ C1 l)
   (hrec : rec = { state := .ready, pending := none, fn := 120, tmps := tmps, params := #[50], assign := rfA codeRF, body := rfB codeRF, defers := rec.defers }) (hsz : tmps.size = 79)
   (h3 : tmps[3]? = some (.pointer (some ⟨k0, 0, none⟩))) (h7 : tmps[7]? = some (.pointer (some ⟨k1, 0, none⟩))) (h8 : tmps[8]? = some (.pointer (some ⟨k5, 0, none⟩)))
   (hb0 : 0 <= b) (hb : b < ((m.bodies.length : Nat) : Int)) (hN : N = m.bodies.length + 2) (hX0 : X0.length = N) (hX1 : X1.length = N) (hn : m.bodies.length <= 1000) (hE : EP + 2 * fe + 2 <= E) (hLIM : 2 * EP + 4 * fe + 300 <= LIM) :
   ∀ ρ D a w Q, Rel S1 C1 w1 ρ D ⟨slots 20 [(0, .lit (.func (.yield l) #[] #[])), (1, .ptr 6 1 0 0), (2, .cptr [.cptr (plL fe m F) 0] 0), (4, .i6 b), (5, .bool true), (6, .bool true), (7, .lit (.func (.yield l) #[] #[])), (8, .i6 b)], hJ m F fe X EP E N k0 k1 k2 k3 k4 k5 k6 X0 X1 b⟩ a w ->
     wpOpIn (wideR none) 0 Tryz.prog (regOps (nav [0, 0, 0, 0] (bodyOf Tryz.f267))) Q 5 (fun a' w' => ∃ ρ' D', Rel S1 C1 w1 ρ' D' ⟨slots 20 [(0, .lit (.func (.yield l) #[] #[])), (1, .ptr 6 1 0 0), (2, .cptr [.cptr (plL fe m F) 0] 0), (6, .bool true), (9, .bool true)],
       hJ m F fe X EP E N k0 k1 k2 k3 k4 k5 k6 (X0.set ((2 : Int) + b).toNat (-(X.z - (F b.toNat).at_.z))) (X1.set ((2 : Int) + b).toNat (X.x - (F b.toNat).at_.x)) b ++ [none, some ⟨58, 6, false, [[.q (X.x - (F b.toNat).at_.x) E, .q (X.z - (F b.toNat).at_.z) E]], none⟩, none]⟩ a' w') a w := by
 intro ρ D a w Q R; have hlw : w.heap[l]? = some (.loop rec) := by rw [R.chg.block l (lt_of_heap hl1) hCl]; exact hl1
 have hop : (((regOps (nav [0, 0, 0, 0] (bodyOf Tryz.f267)))[5]?).getD default).op = .call { callee := .value (.tmp 7), args := #[.tmp 8], argTypes := #[3] } := by kernel_rfl
 have hdst : (((regOps (nav [0, 0, 0, 0] (bodyOf Tryz.f267)))[5]?).getD default).dst = some 9 := by kernel_rfl
 refine round_op (g := .tmp 7) (x := .tmp 8) (t := 50) (c := { callee := .value (.tmp 7), args := #[.tmp 8], argTypes := #[3] }) (o := ((regOps (nav [0, 0, 0, 0] (bodyOf Tryz.f267)))[5]?).getD default) R (by kernel_rfl) hop rfl rfl (by kernel_rfl) rfl hlw (by rw [hrec]) ?_; rw [hdst]; have hx : RelV ρ (Sof S1 ρ (hJ m F fe X EP E N k0 k1 k2 k3 k4 k5 k6 X0 X1 b)) w D (.i6 b) (a.eval (.tmp 8)) := R.eval (.tmp 8); have e1 : rec.fn = 120 := by rw [hrec]
 have e2 : rec.tmps = tmps := by rw [hrec]
 have e3 : rec.assign = rfA codeRF := by rw [hrec]
 have e4 : rec.body = rfB codeRF := by rw [hrec]
 rw [e1, e2, e3, e4]; have z2 : LIM = 17592186044416 := rfl
 refine RoundIn.mono (round_ok (f := 120) (h' := hJ m F fe X EP E N k0 k1 k2 k3 k4 k5 k6 (X0.set ((2 : Int) + b).toNat (-(X.z - (F b.toNat).at_.z))) (X1.set ((2 : Int) + b).toNat (X.x - (F b.toNat).at_.x)) b ++ [none, some ⟨58, 6, false, [[.q (X.x - (F b.toNat).at_.x) E, .q (X.z - (F b.toNat).at_.z) E]], none⟩, none])
   (σr := slots 79 [(3, .ptr 0 1 0 0), (7, .ptr 1 6 0 0), (8, .ptr 5 1 0 0), (50, .i6 b)]) (σa := slots 79 [(3, .ptr 0 1 0 0), (7, .ptr 1 6 0 0), (8, .ptr 5 1 0 0), (9, .i6 b)]) (σb := slots 79 []) R hl1 hSl hCl (by rw [hrec]) (by rw [hrec]) (by rw [slots_length]; simpa using hsz) ?_ ?_ ?_) ?_
 · refine slots_rel fun q hq v hv => ?_
   simp only [List.mem_cons, List.not_mem_nil, or_false] at hq; rcases hq with rfl | rfl | rfl | rfl
   · simp [Array.getElem?_setIfInBounds, h3] at hv; subst hv
     exact R.ptrPin (l := 0) (i := 0) (o := 0) (b := ⟨259, 1, false, [[.cptr (plL fe m F) 0]], some k0⟩) rfl rfl
   · simp [Array.getElem?_setIfInBounds, h7] at hv; subst hv
     exact R.ptrPin (l := 1) (i := 0) (o := 0) (b := ⟨58, 6, false, [[.q X.x EP, .q X.z EP]], some k1⟩) rfl rfl
   · simp [Array.getElem?_setIfInBounds, h8] at hv; subst hv
     exact R.ptrPin (l := 5) (i := 0) (o := 0) (b := ⟨89, 1, false, [[.own 4 1 0 2]], some k5⟩) rfl rfl
   · simp [Array.getElem?_setIfInBounds, hsz] at hv; subst hv
     exact hx
 · intro C' W0 ρ1 D1 a1 R1 Q1 hQ1
   exact r120_5 m F fe b X EP E N k0 k1 k2 k3 k4 k5 k6 X0 X1 R1 hQ1
 · intro C' W0 ρ1 D1 a1 R1 Q1 hQ1
   rw [rfB_eq]; refine wpIn_block (wpIn_seq ?_); refine r120_6 m F fe b X EP E N k0 k1 k2 k3 k4 k5 k6 X0 X1 ⟨frF_ref (by omega), hb0, by simpa using hb, Ref.agg (RefC.cons (RefC.q_le (by omega)) (RefC.q_le (by omega))), by omega⟩ R1 ?_; intro ρ2 D2 a2 W2 R2; refine r120_7 m F fe b X EP E N k0 k1 k2 k3 k4 k5 k6 X0 X1 ⟨by omega, by omega, by omega, by simp; omega, by simp; omega⟩ R2 ?_; intro ρ3 D3 a3 W3 R3; refine hQ1 ρ3 D3 a3 W3 ?_; have s0 : (X0.map (unQ E)).set (0 + ((2 : Int) + b).toNat) [.q (-(X.z - (F b.toNat).at_.z)) E] = (X0.set ((2 : Int) + b).toNat (-(X.z - (F b.toNat).at_.z))).map (unQ E) := by rw [Nat.zero_add, List.map_set]; rfl
   have s1 : (X1.map (unQ E)).set (0 + ((2 : Int) + b).toNat) [.q (X.x - (F b.toNat).at_.x) E] = (X1.set ((2 : Int) + b).toNat (X.x - (F b.toNat).at_.x)).map (unQ E) := by rw [Nat.zero_add, List.map_set]; rfl
   rw [s0, s1] at R3; exact R3
 · rintro e W ⟨rfl, ρ', D', R', hk⟩
   refine ⟨_, rfl, ρ', D', R'.act (by exact R.defers) (by rw [slots_length]; have := R.len; simp [Act.put]; rw [this, slots_length]) ?_⟩; refine slots_rel fun q hq v hv => ?_
   simp only [List.mem_cons, List.not_mem_nil, or_false] at hq; rcases hq with rfl | rfl | rfl | rfl | rfl
   · simp [Act.put, Array.getElem?_setIfInBounds] at hv
     exact hk _ _ rfl rfl (R.tmps 0 v hv)
   · simp [Act.put, Array.getElem?_setIfInBounds] at hv
     have hp : RelV ρ (Sof S1 ρ (hJ m F fe X EP E N k0 k1 k2 k3 k4 k5 k6 X0 X1 b)) w D (.ptr 6 1 0 0) v := R.tmps 1 v hv; obtain ⟨rfl, _⟩ := ptr_inv (st := ⟨[], hJ m F fe X EP E N k0 k1 k2 k3 k4 k5 k6 X0 X1 b⟩) hp; rw [(R.mine 6 ⟨3, 1, false, [[.i6 b]], some k6⟩ rfl).2.2 k6 rfl]; exact R'.ptrPin (l := 6) (i := 0) (o := 0) (b := ⟨3, 1, false, [[.i6 b]], some k6⟩) rfl rfl
   · simp [Act.put, Array.getElem?_setIfInBounds] at hv
     exact hk _ _ rfl rfl (R.tmps 2 v hv)
   · simp [Act.put, Array.getElem?_setIfInBounds] at hv
     exact hk _ _ rfl rfl (R.tmps 6 v hv)
   · have hs : a.tmps.size = 20 := by have := R.len; rw [this, slots_length]
     simp [Act.put, Array.getElem?_setIfInBounds, hs] at hv; subst hv; exact RelCs.bool .done
abbrev c120_0 (m : MachD) (fe : Nat) (F : Nat → FrameD) : List AV := [.cptr [.str m.name, .list 27 (m.bodies.map (unBody 300)), .list 17 (m.springs.map (unCordy 300)), .list 17 (m.tendons.map (unCordy 300)), .list 13 (m.motors.map (unMotor 300)), .list 5 (m.feet.map (unFoot 300)), .list 12 ((List.range m.bodies.length).map fun i => unF fe (F i))] 0]
abbrev c120_1 (m : MachD) (fe : Nat) (F : Nat → FrameD) (k0 : Nat) (X : PtD) (EP : Nat) (k1 : Nat) (X0 : List Rat) (E : Nat) (k2 : Nat) (X1 : List Rat) (k3 : Nat) (N : Nat) (k4 : Nat) (k5 : Nat) (b : Int) (k6 : Nat) : List (Option ABlk) := [some ⟨259, 1, false, [(c120_0 m fe F)], (some k0)⟩, some ⟨58, 6, false, [[.q X.x EP, .q X.z EP]], (some k1)⟩, some ⟨56, 3, true, (X0.map (unQ E)), (some k2)⟩, some ⟨56, 3, true, (X1.map (unQ E)), (some k3)⟩, some ⟨59, 1, false, [[.own 2 3 0 N], [.own 3 3 0 N]], (some k4)⟩, some ⟨89, 1, false, [[.own 4 1 0 2]], (some k5)⟩, some ⟨3, 1, false, [[.i6 b]], (some k6)⟩]
theorem iter267 (m : MachD) (F : Nat -> FrameD) (fe : Nat) (X : PtD) (EP E N k0 k1 k2 k3 k4 k5 k6 : Nat) (l : Nat) (rec : Loop) {tmps : Array Value} {Post : Value -> World -> Prop} (hl1 : w1.heap[l]? = some (.loop rec)) (hSl : S1 l) (hCl : ¬ C1 l)
   (hrec : rec = { state := .ready, pending := none, fn := 120, tmps := tmps, params := #[50], assign := rfA codeRF, body := rfB codeRF, defers := rec.defers }) (hsz : tmps.size = 79)
   (h3 : tmps[3]? = some (.pointer (some ⟨k0, 0, none⟩))) (h7 : tmps[7]? = some (.pointer (some ⟨k1, 0, none⟩))) (h8 : tmps[8]? = some (.pointer (some ⟨k5, 0, none⟩)))
   (hN : N = m.bodies.length + 2) (hn : m.bodies.length <= 1000) (hE : EP + 2 * fe + 2 <= E) (hLIM : 2 * EP + 4 * fe + 300 <= LIM) (hc : checkE m = 0) :
   ∀ (n : Nat) (b : Int) (X0 X1 : List Rat), b < ((n : Nat) : Int) -> b < ((m.bodies.length : Nat) : Int) -> X0.length = N -> X1.length = N ->
   (∀ bE, Good Tryz.prog 267 S1 C1 w1 Post [] ⟨slots 20 (I0 fe m F l), hJ m F fe X EP E N k0 k1 k2 k3 k4 k5 k6 (jacGo m F X n b X0 X1).1 (jacGo m F X n b X0 X1).2 bE⟩) ->
   Good Tryz.prog 267 S1 C1 w1 Post c120T0 ⟨slots 20 (I0 fe m F l), hJ m F fe X EP E N k0 k1 k2 k3 k4 k5 k6 X0 X1 b⟩ := by
 intro n
 induction n with
 | zero =>
   intro b X0 X1 h1 h2 hX0 hX1 hg; exact gR KT120_ok none [0, 1, 2] [0, 1, 2, 3, 4, 5, 6] [(6, ff)] (.a1 (iF (om (¬ ((0 : Int) <= b))))) (hg b)
 | succ n ih =>
   intro b X0 X1 h1 h2 hX0 hX1 hg
   by_cases hb0 : 0 <= b
   · refine gS KT120_ok (some 0) [0, 1, 2] [] .nil (t := [.code (nav [0, 0, 0, 0] (bodyOf Tryz.f267)), .code (nav [0, 0, 0, 1] (bodyOf Tryz.f267)), .code (nav [0, 0, 1] (bodyOf Tryz.f267)), .inLoop (nav [0, 0] (bodyOf Tryz.f267)), .inBlock 0]) (σ := slots 20 [(0, .lit (.func (.yield l) #[] #[])), (1, .ptr 6 1 0 0), (2, .cptr (c120_0 m fe F) 0)]) (h := (c120_1 m fe F k0 X EP k1 X0 E k2 X1 k3 N k4 k5 b k6)) ?_
     have hp := par_lt hc hb0 h2; have s0 : (X0.map (unQ E)).set (0 + ((2 : Int) + b).toNat) [.q (-(X.z - (F b.toNat).at_.z)) E] = (X0.set ((2 : Int) + b).toNat (-(X.z - (F b.toNat).at_.z))).map (unQ E) := by rw [Nat.zero_add, List.map_set]; rfl
     have s1 : (X1.map (unQ E)).set (0 + ((2 : Int) + b).toNat) [.q (X.x - (F b.toNat).at_.x) E] = (X1.set ((2 : Int) + b).toNat (X.x - (F b.toNat).at_.x)).map (unQ E) := by rw [Nat.zero_add, List.map_set]; rfl
     refine r267_0 m F fe b X EP E N k0 k1 k2 k3 k4 k5 k6 X0 X1 l hb0 ?_ ?_
     · rw [s0, s1]
       exact yield120 m F fe X EP E N k0 k1 k2 k3 k4 k5 k6 b X0 X1 l rec hl1 hSl hCl hrec hsz h3 h7 h8 hb0 h2 hN hX0 hX1 hn hE hLIM
     · refine gR KT120_ok none [0, 1, 2] [0, 1, 2, 3, 4, 5, 6] [(17, .cptr (unBody 300 (m.bodies.getD b.toNat default)) 0)] (.a3 (show Ref (.cptr ((m.bodies.map (unBody 300)).getD b.toNat []) 0) (.cptr (unBody 300 (m.bodies.getD b.toNat default)) 0) from Ref.eq ?_) hb0 (show b < ((m.bodies.map (unBody 300)).length : Int) by simpa using h2)) (t := c120T0) (σ := slots 20 [(0, .lit (.func (.yield l) #[] #[])), (1, .ptr 6 1 0 0), (2, .cptr (c120_0 m fe F) 0)]) (h := [some ⟨259, 1, false, [(c120_0 m fe F)], (some k0)⟩, some ⟨58, 6, false, [[.q X.x EP, .q X.z EP]], (some k1)⟩, some ⟨56, 3, true, ((X0.map (unQ E)).set (0 + (((2 : Int) + b).toNat)) [.q (-(X.z - (F b.toNat).at_.z)) E]), (some k2)⟩, some ⟨56, 3, true, ((X1.map (unQ E)).set (0 + (((2 : Int) + b).toNat)) [.q (X.x - (F b.toNat).at_.x) E]), (some k3)⟩, some ⟨59, 1, false, [[.own 2 3 0 N], [.own 3 3 0 N]], (some k4)⟩, some ⟨89, 1, false, [[.own 4 1 0 2]], (some k5)⟩, some ⟨3, 1, false, [[.i6 (m.bodies.getD b.toNat default).par]], (some k6)⟩]) ?_
       · rw [map_getD (by omega)]; try rfl
       · rw [s0, s1]
         refine ih _ _ _ (by omega) (by omega) (by simpa using hX0) (by simpa using hX1) fun bE => ?_
         have := hg bE; rw [show jacGo m F X (n + 1) b X0 X1 = jacGo m F X n (m.bodies.getD b.toNat default).par (X0.set ((2 : Int) + b).toNat (-(X.z - (F b.toNat).at_.z))) (X1.set ((2 : Int) + b).toNat (X.x - (F b.toNat).at_.x)) from if_pos hb0] at this; exact this
   · refine gR KT120_ok none [0, 1, 2] [0, 1, 2, 3, 4, 5, 6] [(6, ff)] (.a1 (iF hb0)) (t := []) (σ := slots 20 [(0, .lit (.func (.yield l) #[] #[])), (1, .ptr 6 1 0 0), (2, .cptr (c120_0 m fe F) 0)]) (h := (c120_1 m fe F k0 X EP k1 X0 E k2 X1 k3 N k4 k5 b k6)) ?_
     have := hg b; rw [show jacGo m F X (n + 1) b X0 X1 = (X0, X1) from if_neg hb0] at this; exact this
end
def KT33_ok := kn
def belowB (m : MachD) : Nat -> Int -> Int -> Bool
 | 0, _, _ => false
 | n + 1, b, t => if 0 <= b then (if b = t then true else belowB m n (m.bodies.getD b.toNat default).par t) else false
def k33 : KF
 | [.agg M, .int .i64 b, .int .i64 t] => some (.bool (belowB (reMach M) (b.toNat + 1) b t), [M = unMach 300 (reMach M), checkE (reMach M) = 0, b < (((reMach M).bodies.length : Nat) : Int)])
 | _ => none
theorem loop33 {S : Nat -> Prop} {w0 : World} (m : MachD) (hc : checkE m = 0) (t : Int) (R : Bool) : ∀ (n : Nat) (b : Int), b < ((n : Nat) : Int) -> b < ((m.bodies.length : Nat) : Int) -> belowB m n b t = R ->
   GF 33 S w0 (.bool R) [.code (nav [1, 0, 0, 0] (bodyOf Tryz.f33)), .inLoop (nav [1, 0, 0, 0] (bodyOf Tryz.f33)), .inBlock 0, .code (nav [1, 1] (bodyOf Tryz.f33))] ⟨slots 18 [(1, .i6 b), (2, .i6 t), (3, .ptr 0 6 0 0)], [some ⟨41, 6, false, [unMach 300 m], none⟩]⟩
 | n, b, h1, h2, h3 => by
   by_cases hb : 0 <= b
   · match n, h1, h3 with
     | 0, h1, _ => omega
     | n + 1, h1, h3 =>
       unfold belowB at h3; rw [if_pos hb] at h3
       by_cases ht : b = t
       · rw [if_pos ht] at h3
         subst h3; exact rR KT33_ok [(8, tt), (11, tt)] (.a2 (iT hb) (iT ht))
       · rw [if_neg ht] at h3
         have hp := par_lt hc hb h2; exact gN KT33_ok [1, 2, 3, 6] [(8, tt), (11, ff), (15, .cptr (unBody 300 (m.bodies.getD b.toNat default)) 0)] (.a5 (iT hb) (iF ht) (show Ref (.cptr ((m.bodies.map (unBody 300)).getD b.toNat []) 0) (.cptr (unBody 300 (m.bodies.getD b.toNat default)) 0) from Ref.eq (by rw [map_getD (by omega)]; try rfl)) hb (show b < ((m.bodies.map (unBody 300)).length : Int) by simpa using h2)) (loop33 m hc t R n _ (by omega) (by omega) h3)
   · have : R = false := by
       rw [<- h3]; cases n with
       | zero => rfl
       | succ n => exact if_neg hb
     subst this; exact rR KT33_ok [(8, ff)] (.a1 (iF hb))
theorem a33 : Ctr 33 k33 := fun args r ob h ho => by
 unfold k33 at h
 split at h
 · rename_i M b t
   cases h; have o1 : M = unMach 300 (reMach M) := ho _ (by simp); have o2 : checkE (reMach M) = 0 := ho _ (by simp); have o3 : b < (((reMach M).bodies.length : Nat) : Int) := ho _ (by simp); clear ho; generalize hm : reMach M = m at *; subst o1; clear hm; refine af Tryz.f33 fun S w0 => ?_
   exact gN KT33_ok [1, 2, 3] [] .nil (loop33 m o2 t _ (b.toNat + 1) b (by omega) o3 rfl)
 · cases h
def KT53_ok := kn.cons a23
def spotsP (l : List SpotD) : List (List AV) := (l.map SpotD.pt).map (unP 300)
def spotsR (l : List SpotD) : List (List AV) := (l.map SpotD.pt).map (unRP 300)
def k53 : KF
 | [.list 6 X] => some (.tup [.list 6 (spotsP (X.map reSpot)), .list 8 (spotsR (X.map reSpot))], [X = (X.map reSpot).map unSpot, ∀ s ∈ X.map reSpot, s.ok, X.length * 128 <= 140737488355328])
 | _ => none
section
variable {S : Nat -> Prop} {w0 : World}
theorem loop53 (ls : List SpotD) (hok : ∀ s ∈ ls, s.ok) (hL : ls.length * 128 <= 140737488355328) :
   GF 53 S w0 (.tup [.list 6 (spotsP ls), .list 8 (spotsR ls)])
   [.code (nav [1, 1, 1, 0, 1, 0, 0] (bodyOf Tryz.f53)), .inLoop (nav [1, 1, 1, 0, 1, 0, 0] (bodyOf Tryz.f53)), .inBlock 0, .code (nav [1, 1, 1, 1] (bodyOf Tryz.f53))]
   ⟨slots 33 [(0, .list 6 (ls.map unSpot)), (4, .nil), (5, .nil), (6, .i6 ((0 : Nat) : Int))], []⟩ := by
 refine rows2 (XS := spotsP ls) (YS := spotsR ls) ls.length (fun i => unP 300 (ls.getD i default).pt) (fun i => unRP 300 (ls.getD i default).pt) (fun a b i h => ⟨slots 33 [(0, .list 6 (ls.map unSpot)), (4, a), (5, b), (6, .i6 ((i : Nat) : Int))], h⟩) 0 1 6 8 58 68 ?_ ?_ ?_ ?_ (by rw [spotsP, List.map_map]; exact map_range (f := fun s => unP 300 s.pt) ls) (by rw [spotsR, List.map_map]; exact map_range (f := fun s => unRP 300 s.pt) ls) ?_
 · intro hp hg
   have hs := hok _ (getD_mem hp); have v0 : (0 : Int) < ((ls.map unSpot).length : Int) := by rw [lmE]; omega
   exact gR KT53_ok none [0, 4, 5, 6] [4, 6] [(12, tt), (18, .cptr (unSpot (ls.getD 0 default)) 0), (14, .i6 ((0 + 1 : Nat) : Int))] (.c6 (iT v0) (show Ref (.cptr ((ls.map unSpot).getD 0 []) 0) (.cptr (unSpot (ls.getD 0 default)) 0) from Ref.cmap hp) (nn 0) v0 hs.1 hs.2 (.c6 r1 (dc (0 < 1)) (dc (1 * 112 <= 140737488355328)) (dc (1 <= big)) r1 (dc (0 < 1)) (.a3 (dc (1 * 128 <= 140737488355328)) (dc (1 <= big)) (wI ((0 : Int) + (1 : Int)) ((0 + 1 : Nat) : Int))))) hg
 · intro i A B hi hlt hA hB hg
   have hs := hok _ (getD_mem hlt); have v1 : (i : Int) < ((ls.map unSpot).length : Int) := by rw [lmE]; omega
   exact gR KT53_ok none [0, 4, 5, 6] [6, 8] [(12, tt), (18, .cptr (unSpot (ls.getD i default)) 0), (14, .i6 ((i + 1 : Nat) : Int))] (.c6 (iT v1) (show Ref (.cptr ((ls.map unSpot).getD i []) 0) (.cptr (unSpot (ls.getD i default)) 0) from Ref.cmap hlt) (nn i) v1 hs.1 hs.2 (.c6 r1 (show i = A.length from hA.symm) (om ((i + 1) * 112 <= 140737488355328)) (show i + 1 <= big by unfold big; omega) r1 (show i = B.length from hB.symm) (.a3 (om ((i + 1) * 128 <= 140737488355328)) (show i + 1 <= big by unfold big; omega) (wI ((i : Int) + (1 : Int)) ((i + 1 : Nat) : Int))))) hg
 · intro A B hp hA hB hg
   refine Good.freezeD (b := ⟨58, 6, true, A, none⟩) 0 (by rfl) (by rfl) (.cons (by show 0 + ls.length <= A.length; omega) .nil) .nil ?_; refine Good.freezeD (b := ⟨68, 8, true, B, none⟩) 1 (by rfl) (by rfl) (.cons (by show 0 + ls.length <= B.length; omega) .nil) .nil ?_; refine Good.tidy [] (by decide) (σ' := slots 33 [(0, .list 6 (ls.map unSpot)), (4, .list 6 ((A.drop 0).take ls.length)), (5, .list 8 ((B.drop 0).take ls.length)), (6, .i6 ((ls.length : Nat) : Int))]) (h' := []) (by kernel_rfl) (by kernel_rfl) ?_; rw [List.drop_zero, List.drop_zero, tkE (by omega), tkE (by omega)]; exact hg
 · intro h0 hg
   exact Good.weak 33 [(0, _), (4, _), (5, _), (6, _)] (by kernel_rfl) (.r (.cons Ref.nilL (.cons Ref.nilL (.r .nil)))) hg
 · exact rR KT53_ok [(12, ff)] (.a1 (iF (show ¬ ((ls.length : Int) < ((ls.map unSpot).length : Int)) by rw [lmE]; omega)))
end
theorem a53 : Ctr 53 k53 := fun args r ob h ho => by
 unfold k53 at h
 split at h
 · rename_i X
   cases h; have o1 : X = (X.map reSpot).map unSpot := ho _ (by simp); have o2 : ∀ s ∈ X.map reSpot, s.ok := ho _ (by simp); have o3 : (X.map reSpot).length * 128 <= 140737488355328 := by rw [lmE]; exact ho _ (by simp)
   clear ho; generalize X.map reSpot = ls at *; subst o1; refine af Tryz.f53 fun S w0 => ?_
   have e : st0 [AV.list 6 (ls.map unSpot)] Tryz.f53.ntmps = ⟨slots 33 [(0, .list 6 (ls.map unSpot))], []⟩ := by kernel_rfl
   rw [e]; clear e; exact gN KT53_ok [0, 4, 5, 6] [] .nil (loop53 ls o2 o3)
 · cases h
def KT18_ok := (((kn.cons a102).cons a53).cons a24).cons a23
def k18 : KF
 | [.agg R] => some (.tup [.agg (unMach 300 (reRig R).real), .agg (unRMach 300 (reRig R).real)], [R = unRig (reRig R), (reRig R).ok])
 | _ => none
theorem AllP.of_eq {l l' : List Prop} (h : l = l') (k : AllP l') : AllP l := by rw [h]; exact k
theorem RefC.nilL {e : Nat} {cs : List AV} : RefC (.nil :: cs) (.list e [] :: cs) := RefC.cons (fun ρ S w D vs h => by
 cases h with
 | nil h2 => exact .list (fun _ => []) (by simp) (by unfold big; omega) (by simp) (by simp) (by simp) h2) RefC.rfl'
theorem Good.castH {P : Program} {f : FuncId} {S0 C0 : Nat -> Prop} {w0 : World} {Post : Value -> World -> Prop} {todo : List Item} {σ : List AV} {h h' : List (Option ABlk)} (e : h = h') (hg : Good P f S0 C0 w0 Post todo ⟨σ, h'⟩) : Good P f S0 C0 w0 Post todo ⟨σ, h⟩ := by rw [e]; exact hg
theorem reRig_un (r : RigD) : reRig (unRig r) = r := by cases r; simp only [reRig, unRig, reLimb_un, reCord_un, reDrive_un, reSole_un]
section
variable {S : Nat -> Prop} {w0 : World}
noncomputable abbrev Q18 (S : Nat -> Prop) (w0 : World) (r : RigD) := PostF S w0 (.tup [.agg (unMach 300 r.real), .agg (unRMach 300 r.real)])
abbrev c18_0 : ABlk := ⟨41, 6, false, [[.str (ByteArray.mk #[]), .nil, .nil, .nil, .nil, .nil]], none⟩
abbrev c18_1 : ABlk := ⟨48, 5, false, [[.nil, .nil, .nil, .nil, .nil]], none⟩
abbrev c18_3 (r : RigD) : List AV := [.list 6 (spotsP (r.soles.getD 0 default).pts), .list 8 (spotsR (r.soles.getD 0 default).pts)]
theorem loop18_4 (r : RigD) (hok : r.ok) : Good Tryz.prog 18 S No w0 (Q18 S w0 r) [.code (nav [1, 1, 1, 1, 1, 1, 1, 0, 1, 0, 0] (bodyOf Tryz.f18)), .inLoop (nav [1, 1, 1, 1, 1, 1, 1, 0, 1, 0, 0] (bodyOf Tryz.f18)), .inBlock 8, .code (nav [1, 1, 1, 1, 1, 1, 1, 1] (bodyOf Tryz.f18))] ⟨slots 359 [(1, .ptr 0 5 0 0), (2, .ptr 1 6 0 0), (3, .ptr 2 5 0 0), (4, .ptr 3 6 0 0), (5, .ptr 4 5 0 0), (48, .i6 ((0 : Nat) : Int))], [some ⟨27, 5, false, [unRig r], none⟩, some (c18_0), some (c18_1), some ⟨41, 6, false, [[.str rigB, .list 27 (r.real.bodies.map (unBody 300)), .list 17 (r.real.springs.map (unCordy 300)), .list 17 (r.real.tendons.map (unCordy 300)), .list 13 (r.real.motors.map (unMotor 300)), .nil]], none⟩, some ⟨48, 5, false, [[.list 34 (r.real.bodies.map (unRBody 300)), .list 22 (r.real.springs.map (unRCordy 300)), .list 22 (r.real.tendons.map (unRCordy 300)), .list 17 (r.real.motors.map (unRMotor 300)), .nil]], none⟩]⟩ := by
 have hl := hok.2.2.2.2.2.2.2.2.2; refine rows2 (XS := r.real.feet.map (unFoot 300)) (YS := r.real.feet.map (unRFoot 300)) r.soles.length (fun i => unFoot 300 ((r.soles.getD i default).real)) (fun i => unRFoot 300 ((r.soles.getD i default).real)) (fun a b i h => ⟨slots 359 [(1, .ptr 0 5 0 0), (2, .ptr 1 6 0 0), (3, .ptr 2 5 0 0), (4, .ptr 3 6 0 0), (5, .ptr 4 5 0 0), (48, .i6 ((i : Nat) : Int))], [some ⟨27, 5, false, [unRig r], none⟩, some (c18_0), some (c18_1), some ⟨41, 6, false, [[.str rigB, .list 27 (r.real.bodies.map (unBody 300)), .list 17 (r.real.springs.map (unCordy 300)), .list 17 (r.real.tendons.map (unCordy 300)), .list 13 (r.real.motors.map (unMotor 300)), a]], none⟩, some ⟨48, 5, false, [[.list 34 (r.real.bodies.map (unRBody 300)), .list 22 (r.real.springs.map (unRCordy 300)), .list 22 (r.real.tendons.map (unRCordy 300)), .list 17 (r.real.motors.map (unRMotor 300)), b]], none⟩] ++ h⟩) 5 6 5 6 245 186 ?_ ?_ ?_ ?_ (by simp only [RigD.real, List.map_map]; exact map_range (f := fun v => unFoot 300 v.real) r.soles) (by simp only [RigD.real, List.map_map]; exact map_range (f := fun v => unRFoot 300 v.real) r.soles) ?_
 · intro hlt hg
   have hv := hok.2.2.2.2.1 _ (getD_mem hlt); have v0 : (0 : Int) < ((r.soles.map unSole).length : Int) := by rw [lmE]; omega
   exact gR KT18_ok none [1, 2, 3, 4, 5, 48] [0, 1, 2, 3, 4, 11, 13] [(317, tt), (323, .cptr (unSole (r.soles.getD 0 default)) 0), (328, .tup (c18_3 r)), (319, .i6 ((0 + 1 : Nat) : Int))] (.c6 (iT v0) (show Ref (.cptr ((r.soles.map unSole).getD 0 []) 0) (.cptr (unSole (r.soles.getD 0 default)) 0) from Ref.cmap hlt) (nn 0) v0 (show Ref (.tup [.list 6 (spotsP (((r.soles.getD 0 default).pts.map unSpot).map reSpot)), .list 8 (spotsR (((r.soles.getD 0 default).pts.map unSpot).map reSpot))]) (.tup (c18_3 r)) from Ref.eq (by rw [reSpot_un])) (show ((r.soles.getD 0 default).pts.map unSpot) = (((r.soles.getD 0 default).pts.map unSpot).map reSpot).map unSpot by rw [reSpot_un]) (.c6 (show ∀ s ∈ ((r.soles.getD 0 default).pts.map unSpot).map reSpot, s.ok by rw [reSpot_un]; exact hv.1) (show ((r.soles.getD 0 default).pts.map unSpot).length * 128 <= 140737488355328 by rw [lmE]; exact hv.2.1) hv.2.2 r1 (dc (0 < 1)) (dc (1 * 88 <= 140737488355328)) (.a6 (dc (1 <= big)) r1 (dc (0 < 1)) (dc (1 * 96 <= 140737488355328)) (dc (1 <= big)) (wI ((0 : Int) + (1 : Int)) ((0 + 1 : Nat) : Int))))) hg
 · intro i A B hi hlt hA hB hg
   have hv := hok.2.2.2.2.1 _ (getD_mem hlt); have v1 : (i : Int) < ((r.soles.map unSole).length : Int) := by rw [lmE]; omega
   exact gR KT18_ok none [1, 2, 3, 4, 5, 48] [0, 1, 2, 3, 4, 13, 15] [(317, tt), (323, .cptr (unSole (r.soles.getD i default)) 0), (328, .tup [.list 6 (spotsP (r.soles.getD i default).pts), .list 8 (spotsR (r.soles.getD i default).pts)]), (319, .i6 ((i + 1 : Nat) : Int))] (.c6 (iT v1) (show Ref (.cptr ((r.soles.map unSole).getD i []) 0) (.cptr (unSole (r.soles.getD i default)) 0) from Ref.cmap hlt) (nn i) v1 (show Ref (.tup [.list 6 (spotsP (((r.soles.getD i default).pts.map unSpot).map reSpot)), .list 8 (spotsR (((r.soles.getD i default).pts.map unSpot).map reSpot))]) (.tup [.list 6 (spotsP (r.soles.getD i default).pts), .list 8 (spotsR (r.soles.getD i default).pts)]) from Ref.eq (by rw [reSpot_un])) (show ((r.soles.getD i default).pts.map unSpot) = (((r.soles.getD i default).pts.map unSpot).map reSpot).map unSpot by rw [reSpot_un]) (.c6 (show ∀ s ∈ ((r.soles.getD i default).pts.map unSpot).map reSpot, s.ok by rw [reSpot_un]; exact hv.1) (show ((r.soles.getD i default).pts.map unSpot).length * 128 <= 140737488355328 by rw [lmE]; exact hv.2.1) hv.2.2 r1 (show i = A.length from hA.symm) (om ((i + 1) * 88 <= 140737488355328)) (.a6 (show i + 1 <= big by unfold big; omega) r1 (show i = B.length from hB.symm) (om ((i + 1) * 96 <= 140737488355328)) (show i + 1 <= big by unfold big; omega) (wI ((i : Int) + (1 : Int)) ((i + 1 : Nat) : Int))))) hg
 · intro A B hp hA hB hg
   refine Good.freezeD (b := ⟨245, 5, true, A, none⟩) 5 (by rfl) (by rfl) .on (.oe (.a1 (om (0 + r.soles.length <= A.length)))) ?_; refine Good.freezeD (b := ⟨186, 6, true, B, none⟩) 6 (by rfl) (by rfl) .on (.oe (.a1 (om (0 + r.soles.length <= B.length)))) ?_; refine Good.tidy [0, 1, 2, 3, 4] (by decide) (σ' := slots 359 [(1, .ptr 0 5 0 0), (2, .ptr 1 6 0 0), (3, .ptr 2 5 0 0), (4, .ptr 3 6 0 0), (5, .ptr 4 5 0 0), (48, .i6 ((r.soles.length : Nat) : Int))]) (h' := [some ⟨27, 5, false, [unRig r], none⟩, some (c18_0), some (c18_1), some ⟨41, 6, false, [[.str rigB, .list 27 (r.real.bodies.map (unBody 300)), .list 17 (r.real.springs.map (unCordy 300)), .list 17 (r.real.tendons.map (unCordy 300)), .list 13 (r.real.motors.map (unMotor 300)), .list 5 ((A.drop 0).take r.soles.length)]], none⟩, some ⟨48, 5, false, [[.list 34 (r.real.bodies.map (unRBody 300)), .list 22 (r.real.springs.map (unRCordy 300)), .list 22 (r.real.tendons.map (unRCordy 300)), .list 17 (r.real.motors.map (unRMotor 300)), .list 6 ((B.drop 0).take r.soles.length)]], none⟩]) (by kernel_rfl) (by kernel_rfl) ?_; rw [List.drop_zero, List.drop_zero, tkE (by omega), tkE (by omega)]; exact hg
 · intro h0 hg
   refine Good.weakB (el' := [.str rigB, .list 27 (r.real.bodies.map (unBody 300)), .list 17 (r.real.springs.map (unCordy 300)), .list 17 (r.real.tendons.map (unCordy 300)), .list 13 (r.real.motors.map (unMotor 300)), .list 5 []]) 3 0 (by rfl) (by rfl) (RefC.tl (RefC.tl (RefC.tl (RefC.tl (RefC.tl RefC.nilL))))) (Good.weakB (el' := [.list 34 (r.real.bodies.map (unRBody 300)), .list 22 (r.real.springs.map (unRCordy 300)), .list 22 (r.real.tendons.map (unRCordy 300)), .list 17 (r.real.motors.map (unRMotor 300)), .list 6 []]) 4 0 (by rfl) (by rfl) (RefC.tl (RefC.tl (RefC.tl (RefC.tl RefC.nilL)))) (Good.castH (by kernel_rfl) hg))
 · exact rR KT18_ok [(317, ff)] (.a1 (iF (show ¬ ((r.soles.length : Int) < ((r.soles.map unSole).length : Int)) by rw [lmE]; omega)))
theorem loop18_3 (r : RigD) (hok : r.ok) : Good Tryz.prog 18 S No w0 (Q18 S w0 r) [.code (nav [1, 1, 1, 1, 1, 1, 0, 1, 0, 0] (bodyOf Tryz.f18)), .inLoop (nav [1, 1, 1, 1, 1, 1, 0, 1, 0, 0] (bodyOf Tryz.f18)), .inBlock 6, .code (nav [1, 1, 1, 1, 1, 1, 1] (bodyOf Tryz.f18))] ⟨slots 359 [(1, .ptr 0 5 0 0), (2, .ptr 1 6 0 0), (3, .ptr 2 5 0 0), (4, .ptr 3 6 0 0), (5, .ptr 4 5 0 0), (38, .i6 ((0 : Nat) : Int))], [some ⟨27, 5, false, [unRig r], none⟩, some (c18_0), some (c18_1), some ⟨41, 6, false, [[.str rigB, .list 27 (r.real.bodies.map (unBody 300)), .list 17 (r.real.springs.map (unCordy 300)), .list 17 (r.real.tendons.map (unCordy 300)), .nil, .nil]], none⟩, some ⟨48, 5, false, [[.list 34 (r.real.bodies.map (unRBody 300)), .list 22 (r.real.springs.map (unRCordy 300)), .list 22 (r.real.tendons.map (unRCordy 300)), .nil, .nil]], none⟩]⟩ := by
 have hl := hok.2.2.2.2.2.2.2.2.1; refine rows2 (XS := r.real.motors.map (unMotor 300)) (YS := r.real.motors.map (unRMotor 300)) r.drives.length (fun i => unMotor 300 ((r.drives.getD i default).real)) (fun i => unRMotor 300 ((r.drives.getD i default).real)) (fun a b i h => ⟨slots 359 [(1, .ptr 0 5 0 0), (2, .ptr 1 6 0 0), (3, .ptr 2 5 0 0), (4, .ptr 3 6 0 0), (5, .ptr 4 5 0 0), (38, .i6 ((i : Nat) : Int))], [some ⟨27, 5, false, [unRig r], none⟩, some (c18_0), some (c18_1), some ⟨41, 6, false, [[.str rigB, .list 27 (r.real.bodies.map (unBody 300)), .list 17 (r.real.springs.map (unCordy 300)), .list 17 (r.real.tendons.map (unCordy 300)), a, .nil]], none⟩, some ⟨48, 5, false, [[.list 34 (r.real.bodies.map (unRBody 300)), .list 22 (r.real.springs.map (unRCordy 300)), .list 22 (r.real.tendons.map (unRCordy 300)), b, .nil]], none⟩] ++ h⟩) 5 6 13 17 239 241 ?_ ?_ ?_ ?_ (by simp only [RigD.real, List.map_map]; exact map_range (f := fun v => unMotor 300 v.real) r.drives) (by simp only [RigD.real, List.map_map]; exact map_range (f := fun v => unRMotor 300 v.real) r.drives) ?_
 · intro hlt hg
   have hv := hok.2.2.2.1 _ (getD_mem hlt); have v0 : (0 : Int) < ((r.drives.map unDrive).length : Int) := by rw [lmE]; omega
   exact gR KT18_ok none [1, 2, 3, 4, 5, 38] [0, 1, 2, 3, 4, 19, 21] [(257, tt), (263, .cptr (unDrive (r.drives.getD 0 default)) 0), (259, .i6 ((0 + 1 : Nat) : Int))] (.c6 (iT v0) (show Ref (.cptr ((r.drives.map unDrive).getD 0 []) 0) (.cptr (unDrive (r.drives.getD 0 default)) 0) from Ref.cmap hlt) (nn 0) v0 hv.1 hv.2.1 (.c6 hv.2.2.1 hv.2.2.2 r1 (dc (0 < 1)) (dc (1 * 232 <= 140737488355328)) (dc (1 <= big)) (.a5 r1 (dc (0 < 1)) (dc (1 * 264 <= 140737488355328)) (dc (1 <= big)) (wI ((0 : Int) + (1 : Int)) ((0 + 1 : Nat) : Int))))) hg
 · intro i A B hi hlt hA hB hg
   have hv := hok.2.2.2.1 _ (getD_mem hlt); have v1 : (i : Int) < ((r.drives.map unDrive).length : Int) := by rw [lmE]; omega
   exact gR KT18_ok none [1, 2, 3, 4, 5, 38] [0, 1, 2, 3, 4, 21, 23] [(257, tt), (263, .cptr (unDrive (r.drives.getD i default)) 0), (259, .i6 ((i + 1 : Nat) : Int))] (.c6 (iT v1) (show Ref (.cptr ((r.drives.map unDrive).getD i []) 0) (.cptr (unDrive (r.drives.getD i default)) 0) from Ref.cmap hlt) (nn i) v1 hv.1 hv.2.1 (.c6 hv.2.2.1 hv.2.2.2 r1 (show i = A.length from hA.symm) (om ((i + 1) * 232 <= 140737488355328)) (show i + 1 <= big by unfold big; omega) (.a5 r1 (show i = B.length from hB.symm) (om ((i + 1) * 264 <= 140737488355328)) (show i + 1 <= big by unfold big; omega) (wI ((i : Int) + (1 : Int)) ((i + 1 : Nat) : Int))))) hg
 · intro A B hp hA hB hg
   refine Good.freezeD (b := ⟨239, 13, true, A, none⟩) 5 (by rfl) (by rfl) .on (.oe (.a1 (om (0 + r.drives.length <= A.length)))) ?_; refine Good.freezeD (b := ⟨241, 17, true, B, none⟩) 6 (by rfl) (by rfl) .on (.oe (.a1 (om (0 + r.drives.length <= B.length)))) ?_; refine Good.tidy [0, 1, 2, 3, 4] (by decide) (σ' := slots 359 [(1, .ptr 0 5 0 0), (2, .ptr 1 6 0 0), (3, .ptr 2 5 0 0), (4, .ptr 3 6 0 0), (5, .ptr 4 5 0 0), (38, .i6 ((r.drives.length : Nat) : Int))]) (h' := [some ⟨27, 5, false, [unRig r], none⟩, some (c18_0), some (c18_1), some ⟨41, 6, false, [[.str rigB, .list 27 (r.real.bodies.map (unBody 300)), .list 17 (r.real.springs.map (unCordy 300)), .list 17 (r.real.tendons.map (unCordy 300)), .list 13 ((A.drop 0).take r.drives.length), .nil]], none⟩, some ⟨48, 5, false, [[.list 34 (r.real.bodies.map (unRBody 300)), .list 22 (r.real.springs.map (unRCordy 300)), .list 22 (r.real.tendons.map (unRCordy 300)), .list 17 ((B.drop 0).take r.drives.length), .nil]], none⟩]) (by kernel_rfl) (by kernel_rfl) ?_; rw [List.drop_zero, List.drop_zero, tkE (by omega), tkE (by omega)]; exact hg
 · intro h0 hg
   refine Good.weakB (el' := [.str rigB, .list 27 (r.real.bodies.map (unBody 300)), .list 17 (r.real.springs.map (unCordy 300)), .list 17 (r.real.tendons.map (unCordy 300)), .list 13 [], .nil]) 3 0 (by rfl) (by rfl) (RefC.tl (RefC.tl (RefC.tl (RefC.tl RefC.nilL)))) (Good.weakB (el' := [.list 34 (r.real.bodies.map (unRBody 300)), .list 22 (r.real.springs.map (unRCordy 300)), .list 22 (r.real.tendons.map (unRCordy 300)), .list 17 [], .nil]) 4 0 (by rfl) (by rfl) (RefC.tl (RefC.tl (RefC.tl RefC.nilL))) (Good.castH (by kernel_rfl) hg))
 · exact gN KT18_ok [1, 2, 3, 4, 5, 48] [(257, ff)] (.a1 (iF (show ¬ ((r.drives.length : Int) < ((r.drives.map unDrive).length : Int)) by rw [lmE]; omega))) (loop18_4 r hok)
theorem loop18_2 (r : RigD) (hok : r.ok) : Good Tryz.prog 18 S No w0 (Q18 S w0 r) [.code (nav [1, 1, 1, 1, 1, 0, 1, 0, 0] (bodyOf Tryz.f18)), .inLoop (nav [1, 1, 1, 1, 1, 0, 1, 0, 0] (bodyOf Tryz.f18)), .inBlock 4, .code (nav [1, 1, 1, 1, 1, 1] (bodyOf Tryz.f18))] ⟨slots 359 [(1, .ptr 0 5 0 0), (2, .ptr 1 6 0 0), (3, .ptr 2 5 0 0), (4, .ptr 3 6 0 0), (5, .ptr 4 5 0 0), (30, .i6 ((0 : Nat) : Int))], [some ⟨27, 5, false, [unRig r], none⟩, some (c18_0), some (c18_1), some ⟨41, 6, false, [[.str rigB, .list 27 (r.real.bodies.map (unBody 300)), .list 17 (r.real.springs.map (unCordy 300)), .nil, .nil, .nil]], none⟩, some ⟨48, 5, false, [[.list 34 (r.real.bodies.map (unRBody 300)), .list 22 (r.real.springs.map (unRCordy 300)), .nil, .nil, .nil]], none⟩]⟩ := by
 have hl := hok.2.2.2.2.2.2.2.1; refine rows2 (XS := r.real.tendons.map (unCordy 300)) (YS := r.real.tendons.map (unRCordy 300)) r.tendons.length (fun i => unCordy 300 ((r.tendons.getD i default).real)) (fun i => unRCordy 300 ((r.tendons.getD i default).real)) (fun a b i h => ⟨slots 359 [(1, .ptr 0 5 0 0), (2, .ptr 1 6 0 0), (3, .ptr 2 5 0 0), (4, .ptr 3 6 0 0), (5, .ptr 4 5 0 0), (30, .i6 ((i : Nat) : Int))], [some ⟨27, 5, false, [unRig r], none⟩, some (c18_0), some (c18_1), some ⟨41, 6, false, [[.str rigB, .list 27 (r.real.bodies.map (unBody 300)), .list 17 (r.real.springs.map (unCordy 300)), a, .nil, .nil]], none⟩, some ⟨48, 5, false, [[.list 34 (r.real.bodies.map (unRBody 300)), .list 22 (r.real.springs.map (unRCordy 300)), b, .nil, .nil]], none⟩] ++ h⟩) 5 6 17 22 233 235 ?_ ?_ ?_ ?_ (by simp only [RigD.real, List.map_map]; exact map_range (f := fun v => unCordy 300 v.real) r.tendons) (by simp only [RigD.real, List.map_map]; exact map_range (f := fun v => unRCordy 300 v.real) r.tendons) ?_
 · intro hlt hg
   have hv := hok.2.2.1 _ (getD_mem hlt); have v0 : (0 : Int) < ((r.tendons.map unCord).length : Int) := by rw [lmE]; omega
   exact gR KT18_ok none [1, 2, 3, 4, 5, 30] [0, 1, 2, 3, 4, 16, 18] [(201, tt), (207, .cptr (unCord (r.tendons.getD 0 default)) 0), (203, .i6 ((0 + 1 : Nat) : Int))] (.c6 (iT v0) (show Ref (.cptr ((r.tendons.map unCord).getD 0 []) 0) (.cptr (unCord (r.tendons.getD 0 default)) 0) from Ref.cmap hlt) (nn 0) v0 hv.1.1 hv.1.2 (.c6 hv.2.1.1 hv.2.1.2 hv.2.2 r1 (dc (0 < 1)) (dc (1 * 296 <= 140737488355328)) (.a6 (dc (1 <= big)) r1 (dc (0 < 1)) (dc (1 * 336 <= 140737488355328)) (dc (1 <= big)) (wI ((0 : Int) + (1 : Int)) ((0 + 1 : Nat) : Int))))) hg
 · intro i A B hi hlt hA hB hg
   have hv := hok.2.2.1 _ (getD_mem hlt); have v1 : (i : Int) < ((r.tendons.map unCord).length : Int) := by rw [lmE]; omega
   exact gR KT18_ok none [1, 2, 3, 4, 5, 30] [0, 1, 2, 3, 4, 18, 20] [(201, tt), (207, .cptr (unCord (r.tendons.getD i default)) 0), (203, .i6 ((i + 1 : Nat) : Int))] (.c6 (iT v1) (show Ref (.cptr ((r.tendons.map unCord).getD i []) 0) (.cptr (unCord (r.tendons.getD i default)) 0) from Ref.cmap hlt) (nn i) v1 hv.1.1 hv.1.2 (.c6 hv.2.1.1 hv.2.1.2 hv.2.2 r1 (show i = A.length from hA.symm) (om ((i + 1) * 296 <= 140737488355328)) (.a6 (show i + 1 <= big by unfold big; omega) r1 (show i = B.length from hB.symm) (om ((i + 1) * 336 <= 140737488355328)) (show i + 1 <= big by unfold big; omega) (wI ((i : Int) + (1 : Int)) ((i + 1 : Nat) : Int))))) hg
 · intro A B hp hA hB hg
   refine Good.freezeD (b := ⟨233, 17, true, A, none⟩) 5 (by rfl) (by rfl) .on (.oe (.a1 (om (0 + r.tendons.length <= A.length)))) ?_; refine Good.freezeD (b := ⟨235, 22, true, B, none⟩) 6 (by rfl) (by rfl) .on (.oe (.a1 (om (0 + r.tendons.length <= B.length)))) ?_; refine Good.tidy [0, 1, 2, 3, 4] (by decide) (σ' := slots 359 [(1, .ptr 0 5 0 0), (2, .ptr 1 6 0 0), (3, .ptr 2 5 0 0), (4, .ptr 3 6 0 0), (5, .ptr 4 5 0 0), (30, .i6 ((r.tendons.length : Nat) : Int))]) (h' := [some ⟨27, 5, false, [unRig r], none⟩, some (c18_0), some (c18_1), some ⟨41, 6, false, [[.str rigB, .list 27 (r.real.bodies.map (unBody 300)), .list 17 (r.real.springs.map (unCordy 300)), .list 17 ((A.drop 0).take r.tendons.length), .nil, .nil]], none⟩, some ⟨48, 5, false, [[.list 34 (r.real.bodies.map (unRBody 300)), .list 22 (r.real.springs.map (unRCordy 300)), .list 22 ((B.drop 0).take r.tendons.length), .nil, .nil]], none⟩]) (by kernel_rfl) (by kernel_rfl) ?_; rw [List.drop_zero, List.drop_zero, tkE (by omega), tkE (by omega)]; exact hg
 · intro h0 hg
   refine Good.weakB (el' := [.str rigB, .list 27 (r.real.bodies.map (unBody 300)), .list 17 (r.real.springs.map (unCordy 300)), .list 17 [], .nil, .nil]) 3 0 (by rfl) (by rfl) (RefC.tl (RefC.tl (RefC.tl RefC.nilL))) (Good.weakB (el' := [.list 34 (r.real.bodies.map (unRBody 300)), .list 22 (r.real.springs.map (unRCordy 300)), .list 22 [], .nil, .nil]) 4 0 (by rfl) (by rfl) (RefC.tl (RefC.tl RefC.nilL)) (Good.castH (by kernel_rfl) hg))
 · exact gN KT18_ok [1, 2, 3, 4, 5, 38] [(201, ff)] (.a1 (iF (show ¬ ((r.tendons.length : Int) < ((r.tendons.map unCord).length : Int)) by rw [lmE]; omega))) (loop18_3 r hok)
theorem loop18_1 (r : RigD) (hok : r.ok) : Good Tryz.prog 18 S No w0 (Q18 S w0 r) [.code (nav [1, 1, 1, 1, 0, 1, 0, 0] (bodyOf Tryz.f18)), .inLoop (nav [1, 1, 1, 1, 0, 1, 0, 0] (bodyOf Tryz.f18)), .inBlock 2, .code (nav [1, 1, 1, 1, 1] (bodyOf Tryz.f18))] ⟨slots 359 [(1, .ptr 0 5 0 0), (2, .ptr 1 6 0 0), (3, .ptr 2 5 0 0), (4, .ptr 3 6 0 0), (5, .ptr 4 5 0 0), (22, .i6 ((0 : Nat) : Int))], [some ⟨27, 5, false, [unRig r], none⟩, some (c18_0), some (c18_1), some ⟨41, 6, false, [[.str rigB, .list 27 (r.real.bodies.map (unBody 300)), .nil, .nil, .nil, .nil]], none⟩, some ⟨48, 5, false, [[.list 34 (r.real.bodies.map (unRBody 300)), .nil, .nil, .nil, .nil]], none⟩]⟩ := by
 have hl := hok.2.2.2.2.2.2.1; refine rows2 (XS := r.real.springs.map (unCordy 300)) (YS := r.real.springs.map (unRCordy 300)) r.springs.length (fun i => unCordy 300 ((r.springs.getD i default).real)) (fun i => unRCordy 300 ((r.springs.getD i default).real)) (fun a b i h => ⟨slots 359 [(1, .ptr 0 5 0 0), (2, .ptr 1 6 0 0), (3, .ptr 2 5 0 0), (4, .ptr 3 6 0 0), (5, .ptr 4 5 0 0), (22, .i6 ((i : Nat) : Int))], [some ⟨27, 5, false, [unRig r], none⟩, some (c18_0), some (c18_1), some ⟨41, 6, false, [[.str rigB, .list 27 (r.real.bodies.map (unBody 300)), a, .nil, .nil, .nil]], none⟩, some ⟨48, 5, false, [[.list 34 (r.real.bodies.map (unRBody 300)), b, .nil, .nil, .nil]], none⟩] ++ h⟩) 5 6 17 22 229 231 ?_ ?_ ?_ ?_ (by simp only [RigD.real, List.map_map]; exact map_range (f := fun v => unCordy 300 v.real) r.springs) (by simp only [RigD.real, List.map_map]; exact map_range (f := fun v => unRCordy 300 v.real) r.springs) ?_
 · intro hlt hg
   have hv := hok.2.1 _ (getD_mem hlt); have v0 : (0 : Int) < ((r.springs.map unCord).length : Int) := by rw [lmE]; omega
   exact gR KT18_ok none [1, 2, 3, 4, 5, 22] [0, 1, 2, 3, 4, 16, 18] [(145, tt), (151, .cptr (unCord (r.springs.getD 0 default)) 0), (147, .i6 ((0 + 1 : Nat) : Int))] (.c6 (iT v0) (show Ref (.cptr ((r.springs.map unCord).getD 0 []) 0) (.cptr (unCord (r.springs.getD 0 default)) 0) from Ref.cmap hlt) (nn 0) v0 hv.1.1 hv.1.2 (.c6 hv.2.1.1 hv.2.1.2 hv.2.2 r1 (dc (0 < 1)) (dc (1 * 296 <= 140737488355328)) (.a6 (dc (1 <= big)) r1 (dc (0 < 1)) (dc (1 * 336 <= 140737488355328)) (dc (1 <= big)) (wI ((0 : Int) + (1 : Int)) ((0 + 1 : Nat) : Int))))) hg
 · intro i A B hi hlt hA hB hg
   have hv := hok.2.1 _ (getD_mem hlt); have v1 : (i : Int) < ((r.springs.map unCord).length : Int) := by rw [lmE]; omega
   exact gR KT18_ok none [1, 2, 3, 4, 5, 22] [0, 1, 2, 3, 4, 18, 20] [(145, tt), (151, .cptr (unCord (r.springs.getD i default)) 0), (147, .i6 ((i + 1 : Nat) : Int))] (.c6 (iT v1) (show Ref (.cptr ((r.springs.map unCord).getD i []) 0) (.cptr (unCord (r.springs.getD i default)) 0) from Ref.cmap hlt) (nn i) v1 hv.1.1 hv.1.2 (.c6 hv.2.1.1 hv.2.1.2 hv.2.2 r1 (show i = A.length from hA.symm) (om ((i + 1) * 296 <= 140737488355328)) (.a6 (show i + 1 <= big by unfold big; omega) r1 (show i = B.length from hB.symm) (om ((i + 1) * 336 <= 140737488355328)) (show i + 1 <= big by unfold big; omega) (wI ((i : Int) + (1 : Int)) ((i + 1 : Nat) : Int))))) hg
 · intro A B hp hA hB hg
   refine Good.freezeD (b := ⟨229, 17, true, A, none⟩) 5 (by rfl) (by rfl) .on (.oe (.a1 (om (0 + r.springs.length <= A.length)))) ?_; refine Good.freezeD (b := ⟨231, 22, true, B, none⟩) 6 (by rfl) (by rfl) .on (.oe (.a1 (om (0 + r.springs.length <= B.length)))) ?_; refine Good.tidy [0, 1, 2, 3, 4] (by decide) (σ' := slots 359 [(1, .ptr 0 5 0 0), (2, .ptr 1 6 0 0), (3, .ptr 2 5 0 0), (4, .ptr 3 6 0 0), (5, .ptr 4 5 0 0), (22, .i6 ((r.springs.length : Nat) : Int))]) (h' := [some ⟨27, 5, false, [unRig r], none⟩, some (c18_0), some (c18_1), some ⟨41, 6, false, [[.str rigB, .list 27 (r.real.bodies.map (unBody 300)), .list 17 ((A.drop 0).take r.springs.length), .nil, .nil, .nil]], none⟩, some ⟨48, 5, false, [[.list 34 (r.real.bodies.map (unRBody 300)), .list 22 ((B.drop 0).take r.springs.length), .nil, .nil, .nil]], none⟩]) (by kernel_rfl) (by kernel_rfl) ?_; rw [List.drop_zero, List.drop_zero, tkE (by omega), tkE (by omega)]; exact hg
 · intro h0 hg
   refine Good.weakB (el' := [.str rigB, .list 27 (r.real.bodies.map (unBody 300)), .list 17 [], .nil, .nil, .nil]) 3 0 (by rfl) (by rfl) (RefC.tl (RefC.tl RefC.nilL)) (Good.weakB (el' := [.list 34 (r.real.bodies.map (unRBody 300)), .list 22 [], .nil, .nil, .nil]) 4 0 (by rfl) (by rfl) (RefC.tl RefC.nilL) (Good.castH (by kernel_rfl) hg))
 · exact gN KT18_ok [1, 2, 3, 4, 5, 30] [(145, ff)] (.a1 (iF (show ¬ ((r.springs.length : Int) < ((r.springs.map unCord).length : Int)) by rw [lmE]; omega))) (loop18_2 r hok)
abbrev c18_2 (r : RigD) : List AV := [.list 6 (spotsP (r.limbs.getD 0 default).shape), .list 8 (spotsR (r.limbs.getD 0 default).shape)]
abbrev c18_4 (r : RigD) (i : Nat) : List AV := [.list 6 (spotsP (r.limbs.getD i default).shape), .list 8 (spotsR (r.limbs.getD i default).shape)]
theorem loop18_0 (r : RigD) (hok : r.ok) : Good Tryz.prog 18 S No w0 (Q18 S w0 r) [.code (nav [1, 1, 1, 0, 1, 0, 0] (bodyOf Tryz.f18)), .inLoop (nav [1, 1, 1, 0, 1, 0, 0] (bodyOf Tryz.f18)), .inBlock 0, .code (nav [1, 1, 1, 1] (bodyOf Tryz.f18))] ⟨slots 359 [(1, .ptr 0 5 0 0), (2, .ptr 1 6 0 0), (3, .ptr 2 5 0 0), (4, .ptr 3 6 0 0), (5, .ptr 4 5 0 0), (6, .i6 ((0 : Nat) : Int))], [some ⟨27, 5, false, [unRig r], none⟩, some (c18_0), some (c18_1), some ⟨41, 6, false, [[.str rigB, .nil, .nil, .nil, .nil, .nil]], none⟩, some (c18_1)]⟩ := by
 have hl := hok.2.2.2.2.2.1; refine rows2 (XS := r.real.bodies.map (unBody 300)) (YS := r.real.bodies.map (unRBody 300)) r.limbs.length (fun i => unBody 300 ((r.limbs.getD i default).real (nameB i))) (fun i => unRBody 300 ((r.limbs.getD i default).real (nameB i))) (fun a b i h => ⟨slots 359 [(1, .ptr 0 5 0 0), (2, .ptr 1 6 0 0), (3, .ptr 2 5 0 0), (4, .ptr 3 6 0 0), (5, .ptr 4 5 0 0), (6, .i6 ((i : Nat) : Int))], [some ⟨27, 5, false, [unRig r], none⟩, some (c18_0), some (c18_1), some ⟨41, 6, false, [[.str rigB, a, .nil, .nil, .nil, .nil]], none⟩, some ⟨48, 5, false, [[b, .nil, .nil, .nil, .nil]], none⟩] ++ h⟩) 5 6 27 34 114 184 ?_ ?_ ?_ ?_ (by simp only [RigD.real, bodiesOf, List.map_map]; rfl) (by simp only [RigD.real, bodiesOf, List.map_map]; rfl) ?_
 · intro hlt hg
   have hv := hok.1 _ (getD_mem hlt); have v0 : (0 : Int) < ((r.limbs.map unLimb).length : Int) := by rw [lmE]; omega
   exact gR KT18_ok none [1, 2, 3, 4, 5, 6] [0, 1, 2, 3, 4, 27, 29] [(59, tt), (65, .cptr (unLimb (r.limbs.getD 0 default)) 0), (106, .tup (c18_2 r)), (61, .i6 ((0 + 1 : Nat) : Int))] (.c6 (iT v0) (show Ref (.cptr ((r.limbs.map unLimb).getD 0 []) 0) (.cptr (unLimb (r.limbs.getD 0 default)) 0) from Ref.cmap hlt) (nn 0) v0 hv.1.1 hv.1.2 (.c6 hv.2.1.1 hv.2.1.2 hv.2.2.1 hv.2.2.2.1 hv.2.2.2.2.1 hv.2.2.2.2.2.1 (.c6 (show Ref (.tup [.list 6 (spotsP (((r.limbs.getD 0 default).shape.map unSpot).map reSpot)), .list 8 (spotsR (((r.limbs.getD 0 default).shape.map unSpot).map reSpot))]) (.tup (c18_2 r)) from Ref.eq (by rw [reSpot_un])) (show ((r.limbs.getD 0 default).shape.map unSpot) = (((r.limbs.getD 0 default).shape.map unSpot).map reSpot).map unSpot by rw [reSpot_un]) (show ∀ s ∈ ((r.limbs.getD 0 default).shape.map unSpot).map reSpot, s.ok by rw [reSpot_un]; exact hv.2.2.2.2.2.2.1) (show ((r.limbs.getD 0 default).shape.map unSpot).length * 128 <= 140737488355328 by rw [lmE]; exact hv.2.2.2.2.2.2.2) (nn 0) (om (0 <= 4611686018427387904)) (.c6 r1 (dc (0 < 1)) (dc (1 * 496 <= 140737488355328)) (dc (1 <= big)) r1 (dc (0 < 1)) (.a3 (dc (1 * 544 <= 140737488355328)) (dc (1 <= big)) (wI ((0 : Int) + (1 : Int)) ((0 + 1 : Nat) : Int))))))) hg
 · intro i A B hi hlt hA hB hg
   have hv := hok.1 _ (getD_mem hlt); have v1 : (i : Int) < ((r.limbs.map unLimb).length : Int) := by rw [lmE]; omega
   exact gR KT18_ok none [1, 2, 3, 4, 5, 6] [0, 1, 2, 3, 4, 29, 31] [(59, tt), (65, .cptr (unLimb (r.limbs.getD i default)) 0), (106, .tup (c18_4 r i)), (61, .i6 ((i + 1 : Nat) : Int))] (.c6 (iT v1) (show Ref (.cptr ((r.limbs.map unLimb).getD i []) 0) (.cptr (unLimb (r.limbs.getD i default)) 0) from Ref.cmap hlt) (nn i) v1 hv.1.1 hv.1.2 (.c6 hv.2.1.1 hv.2.1.2 hv.2.2.1 hv.2.2.2.1 hv.2.2.2.2.1 hv.2.2.2.2.2.1 (.c6 (show Ref (.tup [.list 6 (spotsP (((r.limbs.getD i default).shape.map unSpot).map reSpot)), .list 8 (spotsR (((r.limbs.getD i default).shape.map unSpot).map reSpot))]) (.tup (c18_4 r i)) from Ref.eq (by rw [reSpot_un])) (show ((r.limbs.getD i default).shape.map unSpot) = (((r.limbs.getD i default).shape.map unSpot).map reSpot).map unSpot by rw [reSpot_un]) (show ∀ s ∈ ((r.limbs.getD i default).shape.map unSpot).map reSpot, s.ok by rw [reSpot_un]; exact hv.2.2.2.2.2.2.1) (show ((r.limbs.getD i default).shape.map unSpot).length * 128 <= 140737488355328 by rw [lmE]; exact hv.2.2.2.2.2.2.2) (nn i) (om (i <= 4611686018427387904)) (.c6 r1 (show i = A.length from hA.symm) (om ((i + 1) * 496 <= 140737488355328)) (show i + 1 <= big by unfold big; omega) r1 (show i = B.length from hB.symm) (.a3 (om ((i + 1) * 544 <= 140737488355328)) (show i + 1 <= big by unfold big; omega) (wI ((i : Int) + (1 : Int)) ((i + 1 : Nat) : Int))))))) hg
 · intro A B hp hA hB hg
   refine Good.freezeD (b := ⟨114, 27, true, A, none⟩) 5 (by rfl) (by rfl) .on (.oe (.a1 (om (0 + r.limbs.length <= A.length)))) ?_; refine Good.freezeD (b := ⟨184, 34, true, B, none⟩) 6 (by rfl) (by rfl) .on (.oe (.a1 (om (0 + r.limbs.length <= B.length)))) ?_; refine Good.tidy [0, 1, 2, 3, 4] (by decide) (σ' := slots 359 [(1, .ptr 0 5 0 0), (2, .ptr 1 6 0 0), (3, .ptr 2 5 0 0), (4, .ptr 3 6 0 0), (5, .ptr 4 5 0 0), (6, .i6 ((r.limbs.length : Nat) : Int))]) (h' := [some ⟨27, 5, false, [unRig r], none⟩, some (c18_0), some (c18_1), some ⟨41, 6, false, [[.str rigB, .list 27 ((A.drop 0).take r.limbs.length), .nil, .nil, .nil, .nil]], none⟩, some ⟨48, 5, false, [[.list 34 ((B.drop 0).take r.limbs.length), .nil, .nil, .nil, .nil]], none⟩]) (by kernel_rfl) (by kernel_rfl) ?_; rw [List.drop_zero, List.drop_zero, tkE (by omega), tkE (by omega)]; exact hg
 · intro h0 hg
   refine Good.weakB (el' := [.str rigB, .list 27 [], .nil, .nil, .nil, .nil]) 3 0 (by rfl) (by rfl) (RefC.tl RefC.nilL) (Good.weakB (el' := [.list 34 [], .nil, .nil, .nil, .nil]) 4 0 (by rfl) (by rfl) RefC.nilL (Good.castH (by kernel_rfl) hg))
 · exact gN KT18_ok [1, 2, 3, 4, 5, 22] [(59, ff)] (.a1 (iF (show ¬ ((r.limbs.length : Int) < ((r.limbs.map unLimb).length : Int)) by rw [lmE]; omega))) (loop18_1 r hok)
end
theorem a18 : Ctr 18 k18 := by
 refine ctr Tryz.f18 fun _ _ _ S w0 h ho => ?_
 unfold k18 at h; split at h <;> cases h; rename_i R; obtain ⟨o1, o2⟩ := ho.e2; clear ho; generalize reRig R = r at *; subst o1; exact gN KT18_ok [1, 2, 3, 4, 5, 6] [(54, .agg [.str rigB, AV.nil, AV.nil, AV.nil, AV.nil, AV.nil])] (.a1 (show Ref (.agg [.str (ByteArray.mk #[114, 105, 103]), AV.nil, AV.nil, AV.nil, AV.nil, AV.nil]) (.agg [.str rigB, AV.nil, AV.nil, AV.nil, AV.nil, AV.nil]) from rr)) (loop18_0 r o2)
def k118 : KF
 | [.cptr [.str mn, .list 27 XB, .list 17 XS, .list 17 XT, .list 13 XD, .list 5 XF, .list 12 XR] 0, .int .i64 b] => some (.bool (decide (0 <= b /\ b < ((XB.length : Nat) : Int))), [])
 | _ => none
theorem a118 : Ctr 118 k118 := by
 refine ctr Tryz.f118 fun _ _ _ S w0 h ho => ?_
 unfold k118 at h; split at h <;> cases h; rename_i mn XB XS XT XD XF XR b
 by_cases h1 : (0 : Int) <= b
 · exact rF .nil [(7, tt)] (.a1 (iT h1)) (V := .bool (decide (b < (XB.length : Int)))) (Ref.bool (by simp [h1]))
 · exact rF .nil [(7, ff)] (.a1 (iF h1)) (V := .bool false) (Ref.bool (by simp [h1]))
theorem frL_get {jb i : Nat} {m : MachD} {p : PoseD} (h : i < m.bodies.length) : ((List.range m.bodies.length).map fun i => unF (SZ jb) (fr m p i)).getD i [] = unF (SZ jb) (fr m p i) := by
 rw [gdE, List.getElem?_map, List.getElem?_range h]; rfl
theorem frL_ref {jb i : Nat} {m : MachD} {p : PoseD} (h : i < m.bodies.length) : Ref (.cptr (((List.range m.bodies.length).map fun i => unF (SZ jb) (fr m p i)).getD i []) 0) (.cptr (unF (SZ jb) (fr m p i)) 0) := Ref.eq (by rw [frL_get h])
theorem standP_ok {jb : Nat} {m : MachD} {p : PoseD} (h : poseE m p.joints.length = 0) : Ref (.tup [standP jb (reMach (unMach 300 m)) ⟨⟨p.at_.x, p.at_.z⟩, p.turn, (p.joints.map (unQ jb)).map reQ⟩, .i6 (poseE (reMach (unMach 300 m)) (p.joints.map (unQ jb)).length)]) (.tup [.cptr (unPl jb m p) 0, .i6 0]) :=
 Ref.eq (by rw [reMach_un, reQ_un, lmE, show standP jb m ⟨⟨p.at_.x, p.at_.z⟩, p.turn, p.joints⟩ = .cptr (unPl jb m p) 0 from if_pos h, h])
theorem standP_no {jb : Nat} {m : MachD} {p : PoseD} (h : ¬ poseE m p.joints.length = 0) : Ref (.tup [standP jb (reMach (unMach 300 m)) ⟨⟨p.at_.x, p.at_.z⟩, p.turn, (p.joints.map (unQ jb)).map reQ⟩, .i6 (poseE (reMach (unMach 300 m)) (p.joints.map (unQ jb)).length)]) (.tup [.lit (.pointer none), .i6 (poseE m p.joints.length)]) :=
 Ref.eq (by rw [reMach_un, reQ_un, lmE, show standP jb m ⟨⟨p.at_.x, p.at_.z⟩, p.turn, p.joints⟩ = .lit (.pointer none) from if_neg h])
theorem Ref.pose {ax az tu : Rat} {jb A2 A3 : Nat} {J : List (List AV)} (h2 : A2 <= jb) (h3 : A3 <= jb) (h : Ref (.list 3 J) (.list 3 ((J.map reQ).map (unQ jb)))) : Ref (.agg [.q ax jb, .q az A2, .q tu A3, .list 3 J]) (.agg (unPose jb ⟨⟨ax, az⟩, tu, J.map reQ⟩)) := by
 refine Ref.agg (RefC.tl (RefC.cons (RefC.q_le h2) (RefC.cons (RefC.q_le h3) ?_))); intro ρ S w D vs x; cases x with
 | list f1 f2 f3 f4 f5 f6 f7 =>
   cases f7; exact h _ _ _ _ _ (RelV_one (.list f1 f2 f3 f4 f5 f6 .done))
def placeF (f : FrameD) (x : PtD) : PtD := ⟨f.at_.x + (f.c * x.x - f.s * x.z), f.at_.z + (f.s * x.x + f.c * x.z)⟩
def worldE (m : MachD) (n : Nat) (b : Int) : Int := if poseE m n = 0 then (if 0 <= b /\ b < ((m.bodies.length : Nat) : Int) then 0 else 3) else poseE m n
def worldV (m : MachD) (p : PoseD) (b : Int) (x : PtD) : PtD := if worldE m p.joints.length b = 0 then placeF (fr m p b.toNat) x else ⟨0, 0⟩
def k30 : KF
 | [.agg M, .agg [.q ax jb, .q az A2, .q tu A3, .list 3 J], .int .i64 b, .agg [.q px B, .q pz C]] => some (.tup [.agg [.q (worldV (reMach M) ⟨⟨ax, az⟩, tu, J.map reQ⟩ b ⟨px, pz⟩).x (4 * SZ jb + B + C + 8), .q (worldV (reMach M) ⟨⟨ax, az⟩, tu, J.map reQ⟩ b ⟨px, pz⟩).z (4 * SZ jb + B + C + 8)], .int .i64 (worldE (reMach M) J.length b)], [M = unMach 300 (reMach M), (reMach M).small, (reMach M).bodies.length <= 8, A2 <= jb, A3 <= jb, jb <= 100000, Ref (.list 3 J) (.list 3 ((J.map reQ).map (unQ jb))), J.length <= 4611686018427387904, 8 * SZ jb + 2 * B + 2 * C + 400 <= LIM])
 | _ => none
theorem a30 : Ctr 30 k30 := by
 refine ctr Tryz.f30 fun _ _ _ S w0 h ho => ?_
 unfold k30 at h; split at h <;> cases h; rename_i M ax jb az A2 tu A3 J b px B pz C; obtain ⟨o1, o2, o3, o4, o5, o6, o7, o8, o9⟩ := ho.e9; have K := ((kn.cons a119).cons a118).cons a117; generalize hm : reMach M = m at *; subst o1; clear hm; obtain ⟨p, hp⟩ : ∃ p : PoseD, p = ⟨⟨ax, az⟩, tu, J.map reQ⟩ := ⟨_, rfl⟩; have hpj : p.joints.length = J.length := by rw [hp]; simp
 rw [<- hp]
 try rw [<- hpj]
 refine Good.weak 38 [(0, .agg (unMach 300 m)), (1, .agg (unPose jb p)), (2, .i6 b), (3, .agg [.q px B, .q pz C])] (by kernel_rfl) (.r (.cons (by rw [hp]; exact Ref.pose o4 o5 o7) (.r (.r .nil)))) ?_; clear hp; have s1 : unMach 300 m = unMach 300 (reMach (unMach 300 m)) := by rw [reMach_un]
 have s2 : (reMach (unMach 300 m)).small := by rw [reMach_un]; exact o2
 have s3 : (reMach (unMach 300 m)).bodies.length <= 8 := by rw [reMach_un]; exact o3
 have s4 : Ref (.list 3 (p.joints.map (unQ jb))) (.list 3 (((p.joints.map (unQ jb)).map reQ).map (unQ jb))) := Ref.eq (by rw [reQ_un]); have s5 : (p.joints.map (unQ jb)).length <= 4611686018427387904 := by rw [lmE, hpj]; exact o8
 have s7 : SZ jb <= 153753600 := by unfold SZ; omega
 have s8 : LIM = 17592186044416 := rfl
 by_cases h1 : (poseE m p.joints.length) = (0 : Int)
 · have v0 : Ref (.tup [(standP jb (reMach (unMach 300 m)) ⟨⟨p.at_.x, p.at_.z⟩, p.turn, (p.joints.map (unQ jb)).map reQ⟩), .i6 (poseE (reMach (unMach 300 m)) (p.joints.map (unQ jb)).length)]) (.tup [.cptr [.str m.name, .list 27 (m.bodies.map (unBody 300)), .list 17 (m.springs.map (unCordy 300)), .list 17 (m.tendons.map (unCordy 300)), .list 13 (m.motors.map (unMotor 300)), .list 5 (m.feet.map (unFoot 300)), .list 12 ((List.range m.bodies.length).map fun i => unF (SZ jb) (fr m p i))] 0, .i6 (0 : Int)]) := by first | exact s1 | exact s2 | exact s3 | exact s4 | exact s5 | exact standP_ok h1 | exact standP_no h1 | (simp only [lmE, List.length_range] at *; exact frL_ref (by omega)) | (simp only [lmE, List.length_range] at *; omega)
   by_cases h2 : 0 <= b /\ b < (((m.bodies.map (unBody 300)).length : Nat) : Int)
   · refine rF K [(12, .tup [.cptr [.str m.name, .list 27 (m.bodies.map (unBody 300)), .list 17 (m.springs.map (unCordy 300)), .list 17 (m.tendons.map (unCordy 300)), .list 13 (m.motors.map (unMotor 300)), .list 5 (m.feet.map (unFoot 300)), .list 12 ((List.range m.bodies.length).map fun i => unF (SZ jb) (fr m p i))] 0, .i6 (0 : Int)]), (23, ff), (34, .cptr [.q ((fr m p b.toNat).at_.x) (2 * (SZ jb)), .q ((fr m p b.toNat).at_.z) (2 * (SZ jb)), .q ((fr m p b.toNat).c) (SZ jb), .q ((fr m p b.toNat).s) (SZ jb)] 0)] (.c6 s1 s2 s3 (rl jb) (rl jb) o6 (.c6 s4 s5 v0 (jF h2) (show Ref (.cptr (((List.range m.bodies.length).map fun i => unF (SZ jb) (fr m p i)).getD b.toNat []) 0) (.cptr [.q ((fr m p b.toNat).at_.x) (2 * (SZ jb)), .q ((fr m p b.toNat).at_.z) (2 * (SZ jb)), .q ((fr m p b.toNat).c) (SZ jb), .q ((fr m p b.toNat).s) (SZ jb)] 0) by (simp only [lmE, List.length_range] at *; exact frL_ref (by omega))) (show 0 <= b by (simp only [lmE, List.length_range] at *; omega)) (.a2 (show b < (((List.range m.bodies.length).map fun i => unF (SZ jb) (fr m p i)).length : Int) by first | exact s1 | exact s2 | exact s3 | exact s4 | exact s5 | exact standP_ok h1 | exact standP_no h1 | (simp only [lmE, List.length_range] at *; exact frL_ref (by omega)) | (simp only [lmE, List.length_range] at *; omega)) (show (2 * (SZ jb)) + (2 * (SZ jb)) + 2 * B + 2 * C + 2 * (SZ jb) + 2 * (SZ jb) + 400 <= LIM by (simp only [lmE, List.length_range] at *; omega))))) (V := .tup [.agg [.q (((fr m p b.toNat).at_.x) + (((fr m p b.toNat).c) * px - ((fr m p b.toNat).s) * pz)) ((2 * (SZ jb)) + (B + C + (SZ jb) + (SZ jb) + 6) + 2), .q (((fr m p b.toNat).at_.z) + (((fr m p b.toNat).s) * px + ((fr m p b.toNat).c) * pz)) ((2 * (SZ jb)) + (B + C + (SZ jb) + (SZ jb) + 6) + 2)], .i6 (0 : Int)]) ?_
     have e : worldE m p.joints.length b = 0 := by unfold worldE; rw [if_pos h1, if_pos (by simpa using h2)]
     have v : worldV m p b ⟨px, pz⟩ = placeF (fr m p b.toNat) ⟨px, pz⟩ := if_pos e; rw [v, e]; exact Ref.tup2 (Ref.agg (RefC.cons qe qe)) rr rfl rfl rfl rfl
   · refine rF K [(12, .tup [.cptr [.str m.name, .list 27 (m.bodies.map (unBody 300)), .list 17 (m.springs.map (unCordy 300)), .list 17 (m.tendons.map (unCordy 300)), .list 13 (m.motors.map (unMotor 300)), .list 5 (m.feet.map (unFoot 300)), .list 12 ((List.range m.bodies.length).map fun i => unF (SZ jb) (fr m p i))] 0, .i6 (0 : Int)]), (23, tt)] (.c6 s1 s2 s3 (rl jb) (rl jb) o6 (.a4 s4 s5 v0 (jT h2))) (V := .tup [.agg [.q 0 0, .q 0 0], .i6 (3 : Int)]) ?_
     have e : worldE m p.joints.length b = 3 := by unfold worldE; rw [if_pos h1, if_neg (by simpa using h2)]
     have v : worldV m p b ⟨px, pz⟩ = ⟨0, 0⟩ := if_neg (by rw [e]; decide); rw [v, e]; exact Ref.tup2 (Ref.agg (RefC.cons qe qe)) rr rfl rfl rfl rfl
 · refine rF K [(12, .tup [.lit (.pointer none), .i6 (poseE m p.joints.length)]), (18, tt)] (.c6 s1 s2 s3 (rl jb) (rl jb) o6 (.a4 s4 s5 (show Ref (.tup [(standP jb (reMach (unMach 300 m)) ⟨⟨p.at_.x, p.at_.z⟩, p.turn, (p.joints.map (unQ jb)).map reQ⟩), .i6 (poseE (reMach (unMach 300 m)) (p.joints.map (unQ jb)).length)]) (.tup [.lit (.pointer none), .i6 (poseE m p.joints.length)]) by first | exact s1 | exact s2 | exact s3 | exact s4 | exact s5 | exact standP_ok h1 | exact standP_no h1 | (simp only [lmE, List.length_range] at *; exact frL_ref (by omega)) | (simp only [lmE, List.length_range] at *; omega)) (jT h1))) (V := .tup [.agg [.q 0 0, .q 0 0], .i6 (poseE m p.joints.length)]) ?_
   have e : worldE m p.joints.length b = poseE m p.joints.length := by unfold worldE; rw [if_neg h1]
   have v : worldV m p b ⟨px, pz⟩ = ⟨0, 0⟩ := if_neg (by rw [e]; exact h1); rw [v, e]; exact Ref.tup2 (Ref.agg (RefC.cons qe qe)) rr rfl rfl rfl rfl
theorem rel_args {ρ : Nat -> Nat} {S : Nat -> Prop} {w : World} {D : Nat -> Prop} {us : List AV} {vs : List Value} {n : Nat} (h : RelVs ρ S w D us vs) :
   vs.length = us.length /\ ∀ t v, (vs.toArray ++ Array.replicate (n - vs.toArray.size) undef)[t]? = some v -> RelV ρ S w D ((us ++ List.replicate (n - us.length) AV.any).getD t .any) v := by
 have hlen : ∀ (bs : List AV) (vs : List Value), RelVs ρ S w D bs vs -> vs.length = bs.length := by
   intro bs
   induction bs with
   | nil => intro vs h; cases vs <;> first | rfl | exact h.elim
   | cons c bs ih =>
     intro vs h; cases vs with
     | nil => exact h.elim
     | cons v vs => simp [ih vs h.2]
 have hget : ∀ (bs : List AV) (vs : List Value), RelVs ρ S w D bs vs -> ∀ (i : Nat) (v : Value), vs[i]? = some v -> RelV ρ S w D (bs.getD i .any) v := by
   intro bs
   induction bs with
   | nil => intro vs h i v hv; cases vs <;> first | exact h.elim | simp at hv
   | cons c bs ih =>
     intro vs h i v hv; cases vs with
     | nil => exact h.elim
     | cons u vs =>
       cases i with
       | zero => simp at hv; subst hv; exact RelV.of0 h.1
       | succ i => exact ih vs h.2 i v (by simpa using hv)
 refine ⟨hlen _ _ h, fun t v hv => ?_⟩; rcases Nat.lt_or_ge t vs.length with h1 | h1
 · rw [Array.getElem?_append_left (by simpa using h1)] at hv
   have h2 : t < us.length := by rw [<- hlen _ _ h]; exact h1
   have := hget _ _ h t v (by simpa using hv); simpa [gdE, gaL h2] using this
 · have h2 : us.length <= t := by rw [<- hlen _ _ h]; exact h1
   have : (us ++ List.replicate (n - us.length) AV.any).getD t .any = .any := by
     simp only [gdE, gaR h2, List.getElem?_replicate]
     split <;> rfl
   rw [this]; trivial
theorem Steps.peel {P : Program} {m m1 m2 : Machine} (h : Steps P m m2) (hs : step P m = .next m1) (hne : m ≠ m2) : Steps P m1 m2 := by
 obtain ⟨n, hn⟩ := h; cases n with
 | zero => simp [runN] at hn; exact absurd hn hne
 | succ n => simp only [runN, hs] at hn; exact ⟨n, hn⟩
section
variable {S0 C0 : Nat -> Prop} {w0 : World} {Post : Value -> World -> Prop}
abbrev kJ (m : MachD) (F : Nat -> FrameD) (fe : Nat) (X : PtD) (EP E N : Nat) (X0 X1 : List Rat) (b : Int) : List (Option ABlk) := [some ⟨259, 1, false, [[.cptr (plL fe m F) 0]], none⟩, some ⟨58, 6, false, [[.q X.x EP, .q X.z EP]], none⟩, some ⟨56, 3, true, X0.map (unQ E), none⟩, some ⟨56, 3, true, X1.map (unQ E), none⟩, some ⟨59, 1, false, [[.own 2 3 0 N], [.own 3 3 0 N]], none⟩, some ⟨89, 1, false, [[.own 4 1 0 2]], none⟩, some ⟨3, 1, false, [[.i6 b]], none⟩]
theorem tail120 {a : Act} {W : World} {v : Value} {k : Nat} {Q : Exit -> Act -> World -> Prop} (h8 : a.tmps[8]? = some (.pointer (some ⟨k, 0, none⟩))) (hs : a.tmps.size = 79) (hl : (loadVar 89 ⟨k, 0, none⟩).run Tryz.prog W = .ok v W)
   (hq : Q .normal { a with tmps := (a.tmps.setIfInBounds 78 v).setIfInBounds 6 v } W) : (nav [1, 1, 1, 1, 1, 0] (bodyOf Tryz.f120)).wpIn (wideR none) 0 Tryz.prog Q a W := by
 have hc : nav [1, 1, 1, 1, 1, 0] (bodyOf Tryz.f120) = .region (regId (nav [1, 1, 1, 1, 1, 0] (bodyOf Tryz.f120))) (regOps (nav [1, 1, 1, 1, 1, 0] (bodyOf Tryz.f120))) false := by kernel_rfl
 rw [hc]; refine wpIn_region ?_; have h0 : (regOps (nav [1, 1, 1, 1, 1, 0] (bodyOf Tryz.f120)))[0]? = some (((regOps (nav [1, 1, 1, 1, 1, 0] (bodyOf Tryz.f120)))[0]?).getD default) := by kernel_rfl
 have h1 : (regOps (nav [1, 1, 1, 1, 1, 0] (bodyOf Tryz.f120)))[1]? = some (((regOps (nav [1, 1, 1, 1, 1, 0] (bodyOf Tryz.f120)))[1]?).getD default) := by kernel_rfl
 have g0 : ((((regOps (nav [1, 1, 1, 1, 1, 0] (bodyOf Tryz.f120)))[0]?).getD default).op, (((regOps (nav [1, 1, 1, 1, 1, 0] (bodyOf Tryz.f120)))[0]?).getD default).dst, (((regOps (nav [1, 1, 1, 1, 1, 0] (bodyOf Tryz.f120)))[0]?).getD default).guard) = (Op.load 89 (.tmp 8), some 78, none) := by kernel_rfl
 have g1 : ((((regOps (nav [1, 1, 1, 1, 1, 0] (bodyOf Tryz.f120)))[1]?).getD default).op, (((regOps (nav [1, 1, 1, 1, 1, 0] (bodyOf Tryz.f120)))[1]?).getD default).dst, (((regOps (nav [1, 1, 1, 1, 1, 0] (bodyOf Tryz.f120)))[1]?).getD default).guard) = (Op.assign (.tmp 78), some 6, none) := by kernel_rfl
 have hr : List.range (regOps (nav [1, 1, 1, 1, 1, 0] (bodyOf Tryz.f120))).size = [0, 1] := by kernel_rfl
 rw [hr]; generalize regOps (nav [1, 1, 1, 1, 1, 0] (bodyOf Tryz.f120)) = ops at *; generalize (ops[0]?).getD default = o0 at *; generalize (ops[1]?).getD default = o1 at *; simp only [pmE] at g0 g1; obtain ⟨p1, p2, p3⟩ := g0; obtain ⟨q1, q2, q3⟩ := g1; rw [wpOpsIn_cons]; unfold wpOpIn; rw [h0]; simp only [Region.wanted, p3]; refine ⟨fun _ _ => trivial, ?_⟩
 have e8 : a.eval (.tmp 8) = .pointer (some ⟨k, 0, none⟩) := by
   show a.tmps.getD 8 undef = _; simp only [Array.getD_eq_getD_getElem?, h8]; rfl
 have r0 : (o0.semAt (wideR none).round a.eval).run Tryz.prog W = .ok (.value v) W := by
   show (execOp a.eval o0).run Tryz.prog W = _; rw [execOp, p1]; simp only [e8, run_loadAt]; simp [hl]
 rw [r0, Oper.uponIn_value, p2]; rw [wpOpsIn_cons]; unfold wpOpIn; rw [h1]; simp only [Region.wanted, q3]; refine ⟨fun _ _ => trivial, ?_⟩
 have r1 : (o1.semAt (wideR none).round (a.put (some 78) v).eval).run Tryz.prog W = .ok (.value v) W := by
   show (execOp (a.put (some 78) v).eval o1).run Tryz.prog W = _; rw [execOp, q1]
   have : (a.put (some 78) v).eval (.tmp 78) = v := by
     show (a.tmps.setIfInBounds 78 v).getD 78 undef = v; simp [Array.getD_eq_getD_getElem?, hs]
   show (pure (Next.value ((a.put (some 78) v).eval (.tmp 78))) : Sem Next).run Tryz.prog W = _; rw [this]; rfl
 rw [r1, Oper.uponIn_value, q2]; exact hq
theorem rf120 (m : MachD) (F : Nat -> FrameD) (fe : Nat) (X : PtD) (EP E N : Nat) (X0 X1 : List Rat) (b : Int) (n : Nat) (hN : N = m.bodies.length + 2) (hn : m.bodies.length <= 1000) (hE : EP + 2 * fe + 2 <= E) (hLIM : 2 * EP + 4 * fe + 300 <= LIM) (hc : checkE m = 0)
   (hbn : b < ((n : Nat) : Int)) (hb : b < ((m.bodies.length : Nat) : Int)) (hX0 : X0.length = N) (hX1 : X1.length = N)
   (hg : ∀ k0 k1 k2 k3 k4 k5 k6 bE, Good Tryz.prog 120 S0 C0 w0 Post [.code .ret] ⟨slots 79 [(6, .own 4 1 0 2)], hJ m F fe X EP E N k0 k1 k2 k3 k4 k5 k6 (jacGo m F X n b X0 X1).1 (jacGo m F X n b X0 X1).2 bE⟩) :
   Good Tryz.prog 120 S0 C0 w0 Post [.code codeRF, .inBlock 0, .code (nav [1, 1, 1, 1, 1] (bodyOf Tryz.f120))] ⟨slots 79 [(3, .ptr 0 1 0 0), (7, .ptr 1 6 0 0), (8, .ptr 5 1 0 0), (49, .fn 267 [.ptr 6 1 0 0, .cptr [.cptr (plL fe m F) 0] 0])], kJ m F fe X EP E N X0 X1 b⟩ := by
 intro ρ D a w R b' cs hb' hk'; have hsz : a.tmps.size = 79 := by rw [R.len, slots_length]
 have hp : ∀ (t i e : Nat) (B : ABlk), (slots 79 [(3, .ptr 0 1 0 0), (7, .ptr 1 6 0 0), (8, .ptr 5 1 0 0), (49, .fn 267 [.ptr 6 1 0 0, .cptr [.cptr (plL fe m F) 0] 0])]).getD t .any = .ptr i e 0 0 -> t < 79 -> a.tmps[t]? = some (.pointer (some ⟨ρ i, 0, none⟩)) := by
   intro t i e B ht hlt; have hv : a.tmps[t]? = some (a.tmps.getD t undef) := by simp [Array.getD_eq_getD_getElem?, hsz, hlt]
   have := R.tmps t _ hv; rw [ht] at this; obtain ⟨h1, _⟩ := ptr_inv (st := ⟨[], kJ m F fe X EP E N X0 X1 b⟩) this; rw [hv, h1]; simp
 have h3 := hp 3 0 1 default rfl (by decide); have h7 := hp 7 1 6 default rfl (by decide); have h8 := hp 8 5 1 default rfl (by decide)
 obtain ⟨cvs, hv, hcv⟩ : ∃ cvs : List Value, a.eval (.tmp 49) = .func (.func 267) #[] cvs.toArray /\ RelCs ρ (Sof S0 ρ (kJ m F fe X EP E N X0 X1 b)) w D [.ptr 6 1 0 0, .cptr [.cptr (plL fe m F) 0] 0] cvs := by
   have h' : RelCs ρ (Sof S0 ρ (kJ m F fe X EP E N X0 X1 b)) w D [.fn 267 [.ptr 6 1 0 0, .cptr [.cptr (plL fe m F) 0] 0]] [a.eval (.tmp 49)] := R.eval (.tmp 49); generalize a.eval (.tmp 49) = v at h'; cases h' with
   | fn h _ => exact ⟨_, rfl, h⟩
 let lrec : Loop := { state := .ready, pending := none, fn := 120, tmps := a.tmps, params := #[50], assign := rfA codeRF, body := rfB codeRF, defers := w.heap.size }
 generalize hw1 : (w.alloc (.deferred (some []))).alloc (.loop lrec) = w1; have sz1 : w1.heap.size = w.heap.size + 2 := by rw [<- hw1]; simp
 have old1 : ∀ k, k < w.heap.size -> w1.heap[k]? = w.heap[k]? := by
   intro k hk; rw [<- hw1]; show ((w.heap.push _).push _)[k]? = _; rw [Array.getElem?_push_lt (by simp; omega), Array.getElem_push_lt hk]; simp [hk]
 have hr1 : w1.heap[w.heap.size]? = some (.deferred (some [])) := by
   rw [<- hw1]; show ((w.heap.push _).push _)[w.heap.size]? = _; simp [Array.getElem?_push]
 have hl1 : w1.heap[w.heap.size + 1]? = some (.loop lrec) := by
   rw [<- hw1]
   have := World.alloc_heap_new (w.alloc (.deferred (some []))) (.loop lrec); simpa using this
 let S1 : Nat -> Prop := fun k => S0 k \/ k = w.heap.size \/ k = w.heap.size + 1
 let C1 : Nat -> Prop := OwnB ρ (pinsH ρ 0 (kJ m F fe X EP E N X0 X1 b))
 have Rp := R.pinned
 have hCw : ∀ k, C1 k -> k < w.heap.size := by
   rintro k ⟨i, B, hB, rfl⟩; exact Rp.Slt (.inr ⟨i, B, hB, rfl⟩)
 have chN : Chg No w w1 := by
   refine Chg.ofNo ?_ ?_ ?_ (by omega) old1 <;> rw [<- hw1] <;> rfl
 let σ2 : List AV := ((.lit (.func (.yield (w.heap.size + 1)) #[] #[]) : AV) :: [.ptr 6 1 0 0, .cptr [.cptr (plL fe m F) 0] 0]) ++ List.replicate (20 - ((.lit (.func (.yield (w.heap.size + 1)) #[] #[]) : AV) :: [.ptr 6 1 0 0, .cptr [.cptr (plL fe m F) 0] 0]).length) .any
 have hargs : RelVs ρ (Sof S0 ρ (pinsH ρ 0 (kJ m F fe X EP E N X0 X1 b))) w D ((.lit (.func (.yield (w.heap.size + 1)) #[] #[]) : AV) :: [.ptr 6 1 0 0, .cptr [.cptr (plL fe m F) 0] 0]) (.func (.yield (w.heap.size + 1)) #[] #[] :: cvs) := by
   rw [pinsH_Sof]; refine ⟨RelCs.lit rfl .done, ?_⟩; obtain ⟨g1, g2⟩ := hcv.cut1; have w6 : wd (.ptr 6 1 0 0) = 1 := rfl; have w7 : wd (.cptr [.cptr (plL fe m F) 0] 0) = 1 := rfl; rw [w6] at g1 g2; obtain ⟨g3, g4⟩ := g2.cut1; rw [w7] at g3 g4; have hl := hcv.wds_eq; simp only [wds, w6, w7] at hl
   match cvs, hl, g1, g3 with
   | [u, v], _, g1, g3 => exact ⟨g1, g3, trivial⟩
 obtain ⟨hlen, hslot⟩ := rel_args (n := 20) hargs
 have R1 : Rel S1 C1 w1 ρ D ⟨σ2, pinsH ρ 0 (kJ m F fe X EP E N X0 X1 b)⟩ { tmps := (.func (.yield (w.heap.size + 1)) #[] #[] :: cvs).toArray ++ Array.replicate (20 - (.func (.yield (w.heap.size + 1)) #[] #[] :: cvs).toArray.size) undef, defers := [] } w1 := by
   refine Rp.turnW (by omega) (fun k hk _ => old1 k hk) (fun k arr ty hc => old1 k (lt_of_heap hc)) (fun k hk hs => ?_) (fun k hs => ?_) (fun k _ _ ho => .inl ho) (Chg.refl _ _) rfl ?_ hslot
   · rcases hs with hs | hs | hs
     · exact hs
     · omega
     · omega
   · rcases hs with hs | hs | hs
     · have := R.lt k hs; omega
     · omega
     · omega
   · simp only [σ2, List.length_append, List.length_replicate, Array.size_append, Array.size_replicate, List.size_toArray, hlen]
 have hσ : σ2 = slots 20 (I0 fe m F (w.heap.size + 1)) := rfl; have hSl : S1 (w.heap.size + 1) := .inr (.inr rfl); have hCl : ¬ C1 (w.heap.size + 1) := fun h => by have := hCw _ h; omega
 have hCr : ¬ C1 w.heap.size := fun h => by have := hCw _ h; omega
 have hit := iter267 (S1 := S1) (C1 := C1) (w1 := w1) m F fe X EP E N (ρ 0) (ρ 1) (ρ 2) (ρ 3) (ρ 4) (ρ 5) (ρ 6) (w.heap.size + 1) lrec (tmps := a.tmps)
   (Post := fun _ W => ∃ ρ' D' bE, Rel S1 C1 w1 ρ' D' ⟨[], hJ m F fe X EP E N (ρ 0) (ρ 1) (ρ 2) (ρ 3) (ρ 4) (ρ 5) (ρ 6) (jacGo m F X n b X0 X1).1 (jacGo m F X n b X0 X1).2 bE⟩ ⟨#[], []⟩ W) hl1 hSl hCl rfl hsz h3 h7 h8 hN hn hE hLIM hc n b X0 X1 hbn hb hX0 hX1
   (fun bE => good_end TT0_ok (fn := Tryz.f267) (by kernel_rfl) (.inl rfl) (Vs := []) (by kernel_rfl) (.inr rfl) fun ρ' D' a' W v R' _ => ⟨ρ', D', bE, R'.act rfl rfl fun t v hv => by simp at hv⟩)
 have hit2 := p267_0_0 m F fe b X EP E N (ρ 0) (ρ 1) (ρ 2) (ρ 3) (ρ 4) (ρ 5) (ρ 6) X0 X1 (w.heap.size + 1) hit; obtain ⟨v4, W4, fr4, ⟨ρ4, D4, bE, R4⟩, st4, fn4, lv4⟩ := hit2 ρ D _ w1 R1 { (default : Frame) with fn := 267, kind := .normal } (({ b' with roundOf := none } : Frame).atR { a with defers := [{ target := .collected w.heap.size, args := #[] }] ++ a.defers } (.inRangeFunc (w.heap.size + 1) :: [.inBlock 0, .code (nav [1, 1, 1, 1, 1] (bodyOf Tryz.f120))]) :: cs) rfl rfl; have hl4 : W4.heap[w.heap.size + 1]? = some (.loop lrec) := by rw [R4.chg.block _ (by omega) hCl]; exact hl1
 have hr4 : W4.heap[w.heap.size]? = some (.deferred (some [])) := by rw [R4.chg.block _ (by omega) hCr]; exact hr1
 have sz4 := R4.chg.size; have szw := R.chg.size; generalize hW5 : W4.putObj (w.heap.size + 1) (.loop { lrec with state := .exhausted }) = W5; have oth5 : ∀ k, k ≠ w.heap.size + 1 -> W5.heap[k]? = W4.heap[k]? := fun k hk => by rw [<- hW5]; exact World.putObj_heap_other hk
 have sz5 : W5.heap.size = W4.heap.size := by rw [<- hW5]; simp
 have nc4 : ∀ (arr : Array Value) (ty : TypeId), W4.heap[w.heap.size + 1]? ≠ some (Obj.cells arr ty (0, 0)) := fun arr ty e => by rw [hl4] at e; cases e
 have nc4r : ∀ (arr : Array Value) (ty : TypeId), W4.heap[w.heap.size]? ≠ some (Obj.cells arr ty (0, 0)) := fun arr ty e => by rw [hr4] at e; cases e
 have c5 : Chg (· = w.heap.size + 1) W4 W5 := hW5 ▸ Chg.put nc4; have hr5 : W5.heap[w.heap.size]? = some (.deferred (some [])) := by rw [oth5 _ (by omega)]; exact hr4
 have R5 : Rel S1 (OwnB ρ4 (hJ m F fe X EP E N (ρ 0) (ρ 1) (ρ 2) (ρ 3) (ρ 4) (ρ 5) (ρ 6) (jacGo m F X n b X0 X1).1 (jacGo m F X n b X0 X1).2 bE)) W5 ρ4 D4 ⟨[], hJ m F fe X EP E N (ρ 0) (ρ 1) (ρ 2) (ρ 3) (ρ 4) (ρ 5) (ρ 6) (jacGo m F X n b X0 X1).1 (jacGo m F X n b X0 X1).2 bE⟩ ⟨#[], []⟩ W5 := by
   refine R4.turnW (by omega) (fun k hk hs => oth5 k fun e => hs (e ▸ hSl)) (fun k arr ty hc => oth5 k fun e => nc4 arr ty (e ▸ hc)) (fun _ _ h => h) (fun k hk => by rw [sz5]; exact R4.lt k hk) (fun k _ _ ho => .inl ho) (Chg.refl _ _) rfl rfl (fun t v hv => by simp at hv)
 have hk5 : ρ4 5 = ρ 5 := (R4.mine 5 ⟨89, 1, false, [[.own 4 1 0 2]], some (ρ 5)⟩ rfl).2.2 _ rfl; obtain ⟨ti, hti⟩ : ∃ ti, TT0 89 = some ti := Option.isSome_iff_exists.1 (show (TT0 89).isSome = true by kernel_rfl)
 obtain ⟨v, hload, hvrel⟩ : ∃ v, (loadVar 89 ⟨ρ 5, 0, none⟩).run Tryz.prog W5 = .ok v W5 /\ RelV ρ4 (Sof S1 ρ4 (hJ m F fe X EP E N (ρ 0) (ρ 1) (ρ 2) (ρ 3) (ρ 4) (ρ 5) (ρ 6) (jacGo m F X n b X0 X1).1 (jacGo m F X n b X0 X1).2 bE)) W5 D4 (.own 4 1 0 2) v := by
   have h := load_own (P := Tryz.prog) (T := TT0) (TT0_ok _ _ hti) (l := 5) (i := 0) (off := 0) (b := ⟨89, 1, false, [[.own 4 1 0 2]], some (ρ 5)⟩) (el := [.own 4 1 0 2]) (cs := [.own 4 1 0 2]) (V := .own 4 1 0 2) (R5.heap 5 _ rfl).2 rfl (by
     have : TT0 89 = some ti := hti; have e2 : (TT0 89).bind (fun ti => cutc 0 ti.sz [AV.own 4 1 0 2]) = some [.own 4 1 0 2] := by kernel_rfl
     rw [this] at e2; exact e2) (by
     have : TT0 89 = some ti := hti; have e2 : (TT0 89).bind (fun ti => mkA ti [AV.own 4 1 0 2]) = some (.own 4 1 0 2) := by kernel_rfl
     rw [this] at e2; exact e2)
   rw [hk5] at h; exact h
 let b0 : Frame := { b' with roundOf := none }
 have hat : ∀ a todo, b'.at a todo = b0.atR a todo := fun a todo => by simp [b0, Frame.at, Frame.atR]
 let mk : List Deferred := [{ target := .collected w.heap.size, args := #[] }]
 have hdef : a.defers = [] := R.defers
 have s1 : step Tryz.prog (lone (b0.atR a (.code codeRF :: [.inBlock 0, .code (nav [1, 1, 1, 1, 1] (bodyOf Tryz.f120))])) cs w) = .next (lone (Frame.enter Tryz.prog 267 (#[.func (.yield (w.heap.size + 1)) #[] #[]] ++ cvs.toArray) .normal) (b0.atR { a with defers := mk ++ a.defers } (.inRangeFunc (w.heap.size + 1) :: [.inBlock 0, .code (nav [1, 1, 1, 1, 1] (bodyOf Tryz.f120))]) :: cs) w1) := by
   rw [rf_eq]; refine stepR_rangeFunc (d := { target := .fn (.func 267) cvs.toArray, args := #[] ++ #[.func (.yield (w.heap.size + 1)) #[] #[]] }) (w₁ := w1) (w₁' := w1) ?_ ?_ ?_
   · have := run_enterLoop_outer (P := Tryz.prog) (w := w) b0.fn a.tmps #[50] (rfA codeRF) (rfB codeRF)
     have hfn : b0.fn = 120 := hb'; rw [hfn] at this ⊢; rw [<- hw1]; exact this
   · simp only [resolve, rangeCall, hv, Deferred.ofValue, Sem.run_bind, Sem.run_pure, Result.andThen_ok]
     simp [Act.eval]
   · simp only [invoke]
     rw [enter_run ⟨Tryz.f267, by kernel_rfl, by kernel_rfl, by kernel_rfl⟩]; simp
 have henter : Frame.enter Tryz.prog 267 (#[.func (.yield (w.heap.size + 1)) #[] #[]] ++ cvs.toArray) .normal = ({ (default : Frame) with fn := 267, kind := .normal } : Frame).at { tmps := (.func (.yield (w.heap.size + 1)) #[] #[] :: cvs).toArray ++ Array.replicate (20 - (.func (.yield (w.heap.size + 1)) #[] #[] :: cvs).toArray.size) undef, defers := [] } [.code (nav [] (bodyOf Tryz.f267))] := by
   have hf : Tryz.prog.funcs[267]? = some Tryz.f267 := by kernel_rfl
   have hbd : Tryz.f267.body = some (bodyOf Tryz.f267) := by kernel_rfl
   have hnt : Tryz.f267.ntmps = 20 := by kernel_rfl
   simp [Frame.enter, Frame.at, hf, hbd, hnt, nav]
 have s2 : Steps Tryz.prog (lone (b0.atR a (.code codeRF :: [.inBlock 0, .code (nav [1, 1, 1, 1, 1] (bodyOf Tryz.f120))])) cs w) (lone (b0.atR { a with defers := mk ++ a.defers } [.code (nav [1, 1, 1, 1, 1, 0] (bodyOf Tryz.f120)), .code .ret]) cs W5) := by
   refine .head s1 ?_; rw [henter]; refine Steps.trans st4 (.head (step_leave_returned lv4) ?_); rw [finish_atR_inRangeFunc]; refine .head (stepR_endRangeFunc (jump := none) (w' := W5) (by rw [<- hW5]; exact run_endLoop hl4 (by simp [lrec]))) ?_; refine .head stepR_inBlock ?_; have hs : nav [1, 1, 1, 1, 1] (bodyOf Tryz.f120) = .seq (nav [1, 1, 1, 1, 1, 0] (bodyOf Tryz.f120)) .ret := by kernel_rfl
   rw [hs]; exact .one stepR_seq
 obtain ⟨e8, a8, W8, ⟨he8, ha8, hW8⟩, h8s⟩ := tail120 (a := { a with defers := mk ++ a.defers }) (W := W5) (v := v) (k := ρ 5) (Q := fun e a' W' => e = .normal /\ a' = { a with defers := mk ++ a.defers, tmps := (a.tmps.setIfInBounds 78 v).setIfInBounds 6 v } /\ W' = W5) h8 hsz hload ⟨rfl, rfl, rfl⟩ b0 [.code .ret] cs rfl trivial (room_wide _); rw [he8, ha8, hW8] at h8s; have s3 := Steps.trans s2 (StepsIn.steps h8s); generalize hW6 : W5.putObj w.heap.size (.deferred none) = W6; have htake : (Instr.takeDeferred w.heap.size).run Tryz.prog W5 = .ok [] W6 := by rw [<- hW6]; exact run_takeDeferred hr5
 have nc5 : ∀ (arr : Array Value) (ty : TypeId), W5.heap[w.heap.size]? ≠ some (Obj.cells arr ty (0, 0)) := fun arr ty e => by rw [hr5] at e; cases e
 have c6 : Chg (· = w.heap.size) W5 W6 := hW6 ▸ Chg.put nc5; have oth6 : ∀ k, k ≠ w.heap.size -> W6.heap[k]? = W5.heap[k]? := fun k hk => by rw [<- hW6]; exact World.putObj_heap_other hk
 have sz6 : W6.heap.size = W5.heap.size := by rw [<- hW6]; simp
 have hCC : ∀ k, C1 k -> C0 k \/ w0.heap.size <= k := by
   rintro k ⟨i, B, hB, rfl⟩; exact (Rp.mine i B hB).1
 have R6 : Rel S0 C0 w0 ρ4 D4 ⟨slots 79 [(6, .own 4 1 0 2)], hJ m F fe X EP E N (ρ 0) (ρ 1) (ρ 2) (ρ 3) (ρ 4) (ρ 5) (ρ 6) (jacGo m F X n b X0 X1).1 (jacGo m F X n b X0 X1).2 bE⟩ { tmps := (a.tmps.setIfInBounds 78 v).setIfInBounds 6 v, defers := [] } W6 := by
   refine R5.turnW (by omega) (fun k hk hs => oth6 k fun e => hs (.inr (.inl e))) (fun k arr ty hc => oth6 k fun e => nc5 arr ty (e ▸ hc)) (fun k _ h => .inl h) (fun k hk => by have := R.lt k hk; omega) ?_ ?_ rfl (by rw [slots_length]; simpa using hsz) ?_
   · intro k hs _ ho
     obtain ⟨i, B, hB, rfl⟩ := ho; rcases (R4.mine i B hB).1 with h | h
     · exact hCC _ h
     · exact .inr (by omega)
   · have t1 : Chg C0 w0 w1 := R.chg.trans chN (fun _ _ h => h.elim)
     have t2 : Chg C0 w0 W4 := t1.trans R4.chg (fun k hk h => (hCC k h).elim id fun h => absurd h (by omega)); have t3 : Chg C0 w0 W5 := t2.trans c5 (fun k hk h => absurd h (by omega)); exact t3.trans c6 (fun k hk h => absurd h (by omega))
   · refine slots_rel fun q hq u hu => ?_
     simp only [List.mem_singleton] at hq; subst hq; simp [Array.getElem?_setIfInBounds, hsz] at hu; subst hu; exact hvrel
 obtain ⟨v9, W9, fr9, hP, st9, fn9, lv9⟩ := hg (ρ 0) (ρ 1) (ρ 2) (ρ 3) (ρ 4) (ρ 5) (ρ 6) bE ρ4 D4 _ W6 R6 b' cs hb' hk'
 have st9' := Steps.peel st9 step_ret (by
   intro e; have hfr := congrArg (fun m : Machine => (m.gs[0]?).map fun g => g.frame.mode) e; simp [lone, Frame.at] at hfr
   have := lv9.1; rw [<- hfr] at this
   cases this)
 refine ⟨v9, W9, fr9, hP, ?_, fn9, lv9⟩; rw [hat]; refine Steps.trans s3 (.head (stepR_ret rfl) (.head (step_collected (r := w.heap.size) (ds := a.defers) (d := { target := .collected w.heap.size, args := #[] }) (by simp) rfl rfl htake) ?_))
 have efr : ({ ({ b0.atR { a with defers := mk ++ a.defers, tmps := (a.tmps.setIfInBounds 78 v).setIfInBounds 6 v } [.code .ret] with mode := .returning } : Frame) with defers := [] ++ a.defers } : Frame) = { b'.at { tmps := (a.tmps.setIfInBounds 78 v).setIfInBounds 6 v, defers := [] } [.code .ret] with mode := .returning } := by
   simp [Frame.at, Frame.atR, b0, hdef]
 rw [efr]; exact st9'
end
theorem Good.weakBL {P : Program} {f : FuncId} {S0 C0 : Nat -> Prop} {w0 : World} {Post : Value -> World -> Prop} {todo : List Item} {σ : List AV} {h : List (Option ABlk)} (l : Nat) {b : ABlk} {els : List (List AV)} (hl : h[l]? = some (some b)) (hle : els.length = b.elems.length) (hr : ∀ (i : Nat) (el el' : List AV), b.elems[i]? = some el -> els[i]? = some el' -> RefC el el')
   (hg : Good P f S0 C0 w0 Post todo ⟨σ, h.set l (some { b with elems := els })⟩) : Good P f S0 C0 w0 Post todo ⟨σ, h⟩ := by
 refine hg.map fun ρ D a w R => ⟨ρ, D, ?_⟩
 have hlen : l < h.length := (List.getElem?_eq_some_iff.1 hl).1
 have hget : ∀ (j : Nat) (c : ABlk), (h.set l (some { b with elems := els }))[j]? = some (some c) -> ∃ d, h[j]? = some (some d) /\ c.pin = d.pin /\ (c = d \/ j = l /\ d = b /\ c = { b with elems := els }) := by
   intro j c hc; rw [List.getElem?_set] at hc
   split at hc
   · rename_i hjl; subst hjl
     injection hc with hc; injection hc with hc; subst hc; exact ⟨b, hl, rfl, .inr ⟨rfl, rfl, rfl⟩⟩
   · exact ⟨c, hc, rfl, .inl rfl⟩
 have hget' : ∀ (j : Nat) (d : ABlk), h[j]? = some (some d) -> ∃ c, (h.set l (some { b with elems := els }))[j]? = some (some c) := by
   intro j d hd; rw [List.getElem?_set]
   split
   · rename_i hjl; subst hjl
     exact ⟨_, rfl⟩
   · exact ⟨d, hd⟩
 have hS : Sof S0 ρ (h.set l (some { b with elems := els })) = Sof S0 ρ h := by
   funext k; apply propext
   constructor
   · rintro (h | ⟨j, c, hc, e⟩)
     · exact .inl h
     · obtain ⟨d, hd, _⟩ := hget j c hc; exact .inr ⟨j, d, hd, e⟩
   · rintro (h | ⟨j, d, hd, e⟩)
     · exact .inl h
     · obtain ⟨c, hc⟩ := hget' j d hd; exact .inr ⟨j, c, hc, e⟩
 exact {
   defers := R.defers
   len := R.len
   tmps := fun t v hv => by rw [hS]; exact R.tmps t v hv
   heap := fun j c hc => by
     obtain ⟨d, hd, _, hcd⟩ := hget j c hc; rw [hS]; rcases hcd with rfl | ⟨rfl, rfl, rfl⟩
     · exact R.heap j c hd
     · obtain ⟨h1, arr, h2, h3, h4⟩ := R.heap j d hd
       refine ⟨h1, arr, h2, by simpa [hle] using h3, fun m el2 hm => ?_⟩
       have hlt : m < d.elems.length := by
         have := (List.getElem?_eq_some_iff.1 hm).1; simpa [hle] using this
       exact hr m _ el2 (List.getElem?_eq_getElem hlt) hm _ _ _ _ _ (h4 m _ (List.getElem?_eq_getElem hlt))
   inj := fun j j' c c' hc hc' e => by
     obtain ⟨d, hd, _⟩ := hget j c hc; obtain ⟨d', hd', _⟩ := hget j' c' hc'; exact R.inj j j' d d' hd hd' e
   lt := R.lt
   dlt := fun i hi => by
     have := R.dlt i hi; simpa using this
   chg := R.chg
   mine := fun j c hc => by
     obtain ⟨d, hd, hp, _⟩ := hget j c hc
     have := R.mine j d hd; unfold Mine at this ⊢
     rw [hp]; exact this }
def reF : List AV -> FrameD
 | [.q x _, .q z _, .q c _, .q s _] => ⟨⟨x, z⟩, c, s⟩
 | _ => ⟨⟨0, 0⟩, 0, 0⟩
def reFe : List AV -> Nat
 | [_, _, .q _ e, _] => e
 | _ => 0
def jacP (m : MachD) (F : Nat -> FrameD) (b : Int) (x : PtD) : List Rat × List Rat := jacGo m F (placeF (F b.toNat) x) (b.toNat + 1) b ((List.replicate (m.bodies.length + 2) 0).set 0 1) ((List.replicate (m.bodies.length + 2) 0).set 1 1)
def jacR (m : MachD) (F : Nat -> FrameD) (b : Int) (x : PtD) (E : Nat) : List (List AV) := [[.list 3 ((jacP m F b x).1.map (unQ E))], [.list 3 ((jacP m F b x).2.map (unQ E))]]
theorem jacGo_len (m : MachD) (F : Nat -> FrameD) (X : PtD) : ∀ (n : Nat) (b : Int) (Y Z : List Rat), (jacGo m F X n b Y Z).1.length = Y.length /\ (jacGo m F X n b Y Z).2.length = Z.length
 | 0, b, Y, Z => ⟨rfl, rfl⟩
 | n + 1, b, Y, Z => by
   unfold jacGo
   split
   · have := jacGo_len m F X n (m.bodies.getD b.toNat default).par (Y.set ((2 : Int) + b).toNat (-(X.z - (F b.toNat).at_.z))) (Z.set ((2 : Int) + b).toNat (X.x - (F b.toNat).at_.x))
     simpa using this
   · exact ⟨rfl, rfl⟩
theorem row_ref {n j E : Nat} : ∀ (i : Nat) (el el' : List AV), ((List.replicate (n + 2) [AV.q 0 0]).set j [AV.q (1 : Rat) 64])[i]? = some el -> ((((List.replicate (n + 2) (0 : Rat)).set j 1).map (unQ E)))[i]? = some el' -> 64 <= E -> RefC el el' := by
 intro i el el' h1 h2 hE; rw [List.getElem?_map, List.getElem?_set, List.getElem?_replicate] at h2; rw [List.getElem?_set, List.getElem?_replicate] at h1
 split at h1
 · rename_i hj
   rw [if_pos hj] at h2; simp only [List.length_replicate] at h1 h2
   split at h1
   · rename_i hl
     rw [if_pos hl] at h2; injection h1 with h1; subst h1; simp at h2; subst h2; exact RefC.q_le hE
   · cases h1
 · rename_i hj
   rw [if_neg hj] at h2
   split at h1
   · rename_i hl
     rw [if_pos hl] at h2; injection h1 with h1; subst h1; simp at h2; subst h2; exact RefC.q_le (Nat.zero_le _)
   · cases h1
def k120 : KF
 | [.cptr [.str mn, .list 27 XB, .list 17 XS, .list 17 XT, .list 13 XD, .list 5 XF, .list 12 XR] 0, .int .i64 b, .agg [.q px B, .q pz C]] => some (.list 1 (jacR (reMach [.str mn, .list 27 XB, .list 17 XS, .list 17 XT, .list 13 XD, .list 5 XF]) (fun i => reF (XR.getD i [])) b ⟨px, pz⟩ (6 * reFe (XR.getD 0 []) + B + C + 74)), [[.str mn, .list 27 XB, .list 17 XS, .list 17 XT, .list 13 XD, .list 5 XF] = unMach 300 (reMach [.str mn, .list 27 XB, .list 17 XS, .list 17 XT, .list 13 XD, .list 5 XF]), checkE (reMach [.str mn, .list 27 XB, .list 17 XS, .list 17 XT, .list 13 XD, .list 5 XF]) = 0, (reMach [.str mn, .list 27 XB, .list 17 XS, .list 17 XT, .list 13 XD, .list 5 XF]).bodies.length <= 8, XR = (List.range (reMach [.str mn, .list 27 XB, .list 17 XS, .list 17 XT, .list 13 XD, .list 5 XF]).bodies.length).map fun i => unF (reFe (XR.getD 0 [])) (reF (XR.getD i [])), 0 <= b, b < (((reMach [.str mn, .list 27 XB, .list 17 XS, .list 17 XT, .list 13 XD, .list 5 XF]).bodies.length : Nat) : Int), 12 * reFe (XR.getD 0 []) + 3 * B + 3 * C + 1000 <= LIM])
 | _ => none
theorem a120 : Ctr 120 k120 := fun args r ob h ho => by
 unfold k120 at h
 split at h
 · rename_i mn XB XS XT XD XF XR b px B pz C
   cases h; have o1 : [.str mn, .list 27 XB, .list 17 XS, .list 17 XT, .list 13 XD, .list 5 XF] = unMach 300 (reMach [.str mn, .list 27 XB, .list 17 XS, .list 17 XT, .list 13 XD, .list 5 XF]) := ho _ (by simp); have o2 : checkE (reMach [.str mn, .list 27 XB, .list 17 XS, .list 17 XT, .list 13 XD, .list 5 XF]) = 0 := ho _ (by simp); have o3 : (reMach [.str mn, .list 27 XB, .list 17 XS, .list 17 XT, .list 13 XD, .list 5 XF]).bodies.length <= 8 := ho _ (by simp); have o4 : XR = (List.range (reMach [.str mn, .list 27 XB, .list 17 XS, .list 17 XT, .list 13 XD, .list 5 XF]).bodies.length).map fun i => unF (reFe (XR.getD 0 [])) (reF (XR.getD i [])) := ho _ (by simp)
   have o5 : 0 <= b := ho _ (by simp); have o6 : b < (((reMach [.str mn, .list 27 XB, .list 17 XS, .list 17 XT, .list 13 XD, .list 5 XF]).bodies.length : Nat) : Int) := ho _ (by simp); have o7 : 12 * reFe (XR.getD 0 []) + 3 * B + 3 * C + 1000 <= LIM := ho _ (by simp); clear ho; generalize hm : reMach [.str mn, .list 27 XB, .list 17 XS, .list 17 XT, .list 13 XD, .list 5 XF] = m at *; clear hm; simp only [unMach, List.cons.injEq, AV.str.injEq, AV.list.injEq, true_and, and_true] at o1; obtain ⟨rfl, rfl, rfl, rfl, rfl, rfl⟩ := o1; generalize hF : (fun i => reF (XR.getD i [])) = F at *; generalize hfe : reFe (XR.getD 0 []) = fe at *
   have o4' : XR = (List.range m.bodies.length).map fun i => unF fe (F i) := by
     rw [<- hF]; exact o4
   clear o4 hF hfe; subst o4'; have z2 : LIM = 17592186044416 := rfl; have hn0 : 0 < m.bodies.length := by omega
   refine af Tryz.f120 fun S w0 => ?_
   have v0 : (((m.bodies.map (unBody 300)).length + 2 : Nat) : Int) <= (big : Int) := by simp only [lmE]; unfold big; omega
   have v1 : 56 * (((m.bodies.map (unBody 300)).length + 2 : Nat) : Int) <= 281474976710656 := by simp only [lmE]; omega
   have v2 : (-9223372036854775808 : Int) <= 1 := by decide
   have v3 : 1 <= (9223372036854775807 : Int) := by decide
   refine gR KT120_ok (some 4) [1, 3, 7, 8] [0, 3, 4, 5, 6, 7] [(16, .cptr [.q ((F b.toNat).at_.x) (2 * fe), .q ((F b.toNat).at_.z) (2 * fe), .q ((F b.toNat).c) fe, .q ((F b.toNat).s) fe] 0), (26, .i6 (((m.bodies.map (unBody 300)).length + 2 : Nat) : Int)), (34, .i6 (((m.bodies.map (unBody 300)).length + 2 : Nat) : Int))] (.c6 (show Ref (.cptr (((List.range m.bodies.length).map fun i => unF fe (F i)).getD b.toNat []) 0) (.cptr [.q ((F b.toNat).at_.x) (2 * fe), .q ((F b.toNat).at_.z) (2 * fe), .q ((F b.toNat).c) fe, .q ((F b.toNat).s) fe] 0) from frF_ref (by omega)) o5 (show b < (((List.range m.bodies.length).map fun i => unF fe (F i)).length : Int) by simpa using o6) (om ((2 * fe) + (2 * fe) + 2 * B + 2 * C + 2 * fe + 2 * fe + 400 <= LIM)) (wI ((((m.bodies.map (unBody 300)).length : Nat) : Int) + (2 : Int)) (((m.bodies.map (unBody 300)).length + 2 : Nat) : Int) (by simp only [lmE]; omega)) (rfl : (((m.bodies.map (unBody 300)).length + 2 : Nat) : Int) = (((m.bodies.map (unBody 300)).length + 2 : Nat) : Int)) (.c6 (nn ((m.bodies.map (unBody 300)).length + 2)) v1 v0 (wI ((((m.bodies.map (unBody 300)).length : Nat) : Int) + (2 : Int)) (((m.bodies.map (unBody 300)).length + 2 : Nat) : Int) (by simp only [lmE]; omega)) (rfl : (((m.bodies.map (unBody 300)).length + 2 : Nat) : Int) = (((m.bodies.map (unBody 300)).length + 2 : Nat) : Int)) (nn ((m.bodies.map (unBody 300)).length + 2)) (.c6 v1 v0 (dc (0 <= (0 : Int))) (dc ((0 : Int) < 2)) (dc (0 <= (1 : Int))) (dc ((1 : Int) < 2)) (.c6 v2 v3 v2 v3 (dc (0 <= (0 : Int))) (show (0 : Int) < (((m.bodies.map (unBody 300)).length + 2 : Nat) : Int) by simp only [lmE]; omega) (.a4 (show 0 < (List.replicate ((m.bodies.map (unBody 300)).length + 2) [(AV.q 0 0)]).length by simp) (dc (0 <= (1 : Int))) (show (1 : Int) < (((m.bodies.map (unBody 300)).length + 2 : Nat) : Int) by simp only [lmE]; omega) (show 1 < (List.replicate ((m.bodies.map (unBody 300)).length + 2) [(AV.q 0 0)]).length by simp)))))) (t := [.code (nav [1, 1, 1, 1, 0, 0] (bodyOf Tryz.f120)), .code (nav [1, 1, 1, 1, 0, 1] (bodyOf Tryz.f120)), .code (nav [1, 1, 1, 1, 1] (bodyOf Tryz.f120))]) (σ := slots 79 [(1, .i6 b), (3, .ptr 0 1 0 0), (7, .ptr 1 6 0 0), (8, .ptr 5 1 0 0)]) (h := [some ⟨259, 1, false, [[.cptr [.str m.name, .list 27 (m.bodies.map (unBody 300)), .list 17 (m.springs.map (unCordy 300)), .list 17 (m.tendons.map (unCordy 300)), .list 13 (m.motors.map (unMotor 300)), .list 5 (m.feet.map (unFoot 300)), .list 12 ((List.range m.bodies.length).map fun i => unF fe (F i))] 0]], none⟩, some ⟨58, 6, false, [[.q (((F b.toNat).at_.x) + (((F b.toNat).c) * px - ((F b.toNat).s) * pz)) ((2 * fe) + (B + C + fe + fe + 6) + 2), .q (((F b.toNat).at_.z) + (((F b.toNat).s) * px + ((F b.toNat).c) * pz)) ((2 * fe) + (B + C + fe + fe + 6) + 2)]], none⟩, some ⟨56, 3, true, ((List.replicate ((m.bodies.map (unBody 300)).length + 2) [(AV.q 0 0)]).set 0 [.q (1 : Rat) 64]), none⟩, some ⟨56, 3, true, ((List.replicate ((m.bodies.map (unBody 300)).length + 2) [(AV.q 0 0)]).set 1 [.q (1 : Rat) 64]), none⟩, some ⟨59, 1, false, [[.own 2 3 0 ((m.bodies.map (unBody 300)).length + 2)], [.own 3 3 0 ((m.bodies.map (unBody 300)).length + 2)]], none⟩, some ⟨89, 1, false, [[.own 4 1 0 2]], none⟩]) ?_
   simp only [lmE]; refine Good.weakBL 2 (els := ((List.replicate (m.bodies.length + 2) (0 : Rat)).set 0 1).map (unQ (6 * fe + B + C + 74))) rfl (by simp) (fun i el el' h1 h2 => row_ref i el el' h1 h2 (by omega)) ?_; refine Good.weakBL 3 (els := ((List.replicate (m.bodies.length + 2) (0 : Rat)).set 1 1).map (unQ (6 * fe + B + C + 74))) rfl (by simp) (fun i el el' h1 h2 => row_ref i el el' h1 h2 (by omega)) ?_; refine Good.weakB (el' := [.q (placeF (F b.toNat) ⟨px, pz⟩).x (4 * fe + B + C + 8), .q (placeF (F b.toNat) ⟨px, pz⟩).z (4 * fe + B + C + 8)]) 1 0 (by rfl) (by rfl) (RefC.cons qe qe) ?_; refine r120_4 m F fe b (placeF (F b.toNat) ⟨px, pz⟩) (4 * fe + B + C + 8) (6 * fe + B + C + 74) (m.bodies.length + 2) _ _ ?_; refine Good.pre ?_ fun b' a cs w ρ D R => step_block (id := 0) (c := codeRF)
   refine rf120 m F fe (placeF (F b.toNat) ⟨px, pz⟩) (4 * fe + B + C + 8) (6 * fe + B + C + 74) (m.bodies.length + 2) _ _ b (b.toNat + 1) rfl (by omega) (by omega) (by omega) o2 (by omega) o6 (by simp) (by simp) fun k0 k1 k2 k3 k4 k5 k6 bE => ?_
   obtain ⟨l1, l2⟩ := jacGo_len m F (placeF (F b.toNat) ⟨px, pz⟩) (b.toNat + 1) b ((List.replicate (m.bodies.length + 2) 0).set 0 1) ((List.replicate (m.bodies.length + 2) 0).set 1 1); simp only [List.length_set, List.length_replicate] at l1 l2; show Good Tryz.prog 120 S No w0 _ [.code .ret] ⟨slots 79 [(6, .own 4 1 0 2)], hJ m F fe (placeF (F b.toNat) ⟨px, pz⟩) (4 * fe + B + C + 8) (6 * fe + B + C + 74) (m.bodies.length + 2) k0 k1 k2 k3 k4 k5 k6 (jacP m F b ⟨px, pz⟩).1 (jacP m F b ⟨px, pz⟩).2 bE⟩; have l1' : (jacP m F b ⟨px, pz⟩).1.length = m.bodies.length + 2 := l1; have l2' : (jacP m F b ⟨px, pz⟩).2.length = m.bodies.length + 2 := l2; clear l1 l2; show GF 120 S w0 (.list 1 [[.list 3 ((jacP m F b ⟨px, pz⟩).1.map (unQ (6 * fe + B + C + 74)))], [.list 3 ((jacP m F b ⟨px, pz⟩).2.map (unQ (6 * fe + B + C + 74)))]]) _ _; generalize (jacP m F b ⟨px, pz⟩).1 = Y at *; generalize (jacP m F b ⟨px, pz⟩).2 = Z at *; refine Good.freezeD (b := ⟨56, 3, true, Y.map (unQ (6 * fe + B + C + 74)), some k2⟩) 2 (by rfl) (by rfl) .on (AllP.of_eq (l' := [0 + (m.bodies.length + 2) <= (Y.map (unQ (6 * fe + B + C + 74))).length]) (by kernel_rfl) (.cons (by simp [l1']) .nil)) ?_; refine Good.freezeD (b := ⟨56, 3, true, Z.map (unQ (6 * fe + B + C + 74)), some k3⟩) 3 (by rfl) (by rfl) .on (AllP.of_eq (l' := [0 + (m.bodies.length + 2) <= (Z.map (unQ (6 * fe + B + C + 74))).length]) (by kernel_rfl) (.cons (by simp [l2']) .nil)) ?_; refine Good.freezeD (b := ⟨59, 1, false, [[.list 3 (((Y.map (unQ (6 * fe + B + C + 74))).drop 0).take (m.bodies.length + 2))], [.list 3 (((Z.map (unQ (6 * fe + B + C + 74))).drop 0).take (m.bodies.length + 2))]], some k4⟩) 4 (by rfl) (by rfl) (.oe (.a1 (dc (0 + 2 <= 2)))) (.oe (.a1 (dc (0 + 2 <= 2)))) ?_
   refine gE [.list 1 [[.list 3 (((Y.map (unQ (6 * fe + B + C + 74))).drop 0).take (m.bodies.length + 2))], [.list 3 (((Z.map (unQ (6 * fe + B + C + 74))).drop 0).take (m.bodies.length + 2))]]] (Ref.eq ?_); have e1 : ((Y.map (unQ (6 * fe + B + C + 74))).drop 0).take (m.bodies.length + 2) = Y.map (unQ (6 * fe + B + C + 74)) := by rw [List.drop_zero]; exact tkE (by simp [l1'])
   have e2 : ((Z.map (unQ (6 * fe + B + C + 74))).drop 0).take (m.bodies.length + 2) = Z.map (unQ (6 * fe + B + C + 74)) := by rw [List.drop_zero]; exact tkE (by simp [l2'])
   rw [e1, e2]; rfl
 · cases h
end Go.Av
namespace Go.Av
theorem turn_add {u t n : Rat} (h : 1 - u * t ≠ 0) (hn : n = (u + t) / (1 - u * t)) : turnC n = turnC t * turnC u - turnS' t * turnS' u /\ turnS' n = turnS' t * turnC u + turnC t * turnS' u := by
 have h1 := one_sq u; have h2 := one_sq t; have h3 := one_sq n; have h4 : n * (1 - u * t) = u + t := by rw [hn]; grind
 unfold turnC turnS'; constructor <;> grind
def aboutP (O : PtD) (t : Rat) (X : PtD) : PtD := ⟨O.x + (turnC t * (X.x - O.x) - turnS' t * (X.z - O.z)), O.z + (turnS' t * (X.x - O.x) + turnC t * (X.z - O.z))⟩
def aboutF (O : PtD) (t : Rat) (f : FrameD) : FrameD := ⟨aboutP O t f.at_, turnC t * f.c - turnS' t * f.s, turnS' t * f.c + turnC t * f.s⟩
theorem about_place (O : PtD) (t : Rat) (f : FrameD) (x : PtD) : placeF (aboutF O t f) x = aboutP O t (placeF f x) := by
 unfold placeF aboutF aboutP; simp only [PtD.mk.injEq]; constructor <;> grind
theorem about_step (O : PtD) (t : Rat) (f : FrameD) (v : BodyD) (u : Rat) : stepF (aboutF O t f) v u = aboutF O t (stepF f v u) := by
 unfold stepF aboutF aboutP; simp only [FrameD.mk.injEq, PtD.mk.injEq]; refine ⟨⟨?_, ?_⟩, ?_, ?_⟩ <;> grind
theorem about_hinge (f : FrameD) (v : BodyD) {u t n : Rat} (h : 1 - u * t ≠ 0) (hn : n = (u + t) / (1 - u * t)) : stepF f v n = aboutF (stepF f v u).at_ t (stepF f v u) := by
 obtain ⟨h1, h2⟩ := turn_add h hn; unfold stepF aboutF aboutP; simp only [FrameD.mk.injEq, PtD.mk.injEq]; rw [h1, h2]; refine ⟨⟨?_, ?_⟩, ?_, ?_⟩ <;> grind
section
variable {m : MachD} {p q : PoseD} {h : Nat} {t : Rat}
theorem below_lt (hc : checkE m = 0) : ∀ (n : Nat) (b k : Int), b < ((m.bodies.length : Nat) : Int) -> b < k -> belowB m n b k = false
 | 0, b, k, _, _ => rfl
 | n + 1, b, k, hb, hk => by
   unfold belowB
   split
   · rename_i h0
     have hp := par_lt hc h0 hb; rw [if_neg (by omega)]; exact below_lt hc n _ k (by omega) (by omega)
   · rfl
theorem hinge_frames (hc : checkE m = 0) (hq : q = ⟨p.at_, p.turn, p.joints.set h ((p.joints.getD h default + t) / (1 - p.joints.getD h default * t))⟩) (hh : h + 1 < m.bodies.length) (hj : h < p.joints.length)
   (hd : 1 - p.joints.getD h default * t ≠ 0) : ∀ (b : Nat), b < m.bodies.length -> ∀ (n : Nat), b < n ->
   fr m q b = if belowB m n ((b : Nat) : Int) ((h + 1 : Nat) : Int) = true then aboutF (fr m p (h + 1)).at_ t (fr m p b) else fr m p b := by
 have ht := check_tree hc; intro b
 induction b using Nat.strongRecOn with
 | _ b ih =>
   intro hb n hn; obtain ⟨n, rfl⟩ : ∃ j, n = j + 1 := ⟨n - 1, by omega⟩
   have e0 : belowB m (n + 1) ((b : Nat) : Int) ((h + 1 : Nat) : Int) = if ((b : Nat) : Int) = ((h + 1 : Nat) : Int) then true else belowB m n (m.bodies.getD b default).par ((h + 1 : Nat) : Int) := by
     rw [belowB, if_pos (by omega)]; rfl
   cases b with
   | zero =>
     have : belowB m (n + 1) ((0 : Nat) : Int) ((h + 1 : Nat) : Int) = false := below_lt hc _ _ _ (by omega) (by omega); rw [this]; simp only [Bool.false_eq_true, if_false]; rw [hq]; rfl
   | succ b =>
     obtain ⟨g1, g2⟩ := ht (b + 1) (by omega) hb; have hpar : (((m.bodies.getD (b + 1) default).par.toNat : Nat) : Int) = (m.bodies.getD (b + 1) default).par := Int.toNat_of_nonneg g1; have hi := ih (m.bodies.getD (b + 1) default).par.toNat (by omega) (by omega) n (by omega); rw [hpar] at hi; rw [e0, fr_step ht (by omega) hb, fr_step (p := p) ht (i := b + 1) (by omega) hb]
     by_cases hbh : b = h
     · subst hbh
       rw [below_lt hc n _ _ (by omega) (by omega)] at hi; simp only [Bool.false_eq_true, if_false] at hi; rw [if_pos rfl, if_pos rfl, hi]
       have ej : q.joints.getD (b + 1 - 1) default = (p.joints.getD b default + t) / (1 - p.joints.getD b default * t) := by
         rw [hq]; simp only [Nat.add_sub_cancel, gdE, List.getElem?_set_self hj, Option.getD_some]
       rw [ej]; rw [fr_step ht (by omega) hb]; exact about_hinge _ _ hd rfl
     · have ej : q.joints.getD (b + 1 - 1) default = p.joints.getD (b + 1 - 1) default := by
         rw [hq]; simp only [Nat.add_sub_cancel, gdE]; rw [List.getElem?_set_ne (fun e => hbh e.symm)]
       rw [if_neg (om (¬ (((b + 1 : Nat) : Int) = ((h + 1 : Nat) : Int)))), ej, hi]
       split
       · rw [about_step]
       · rfl
theorem jac_col (hc : checkE m = 0) (F : Nat -> FrameD) (X : PtD) (k : Nat) (hk : k < m.bodies.length) : ∀ (n : Nat) (b : Int) (Y Z : List Rat), b < ((m.bodies.length : Nat) : Int) -> Y.length = m.bodies.length + 2 -> Z.length = m.bodies.length + 2 ->
   (jacGo m F X n b Y Z).1.getD (k + 2) 0 = (if belowB m n b ((k : Nat) : Int) = true then -(X.z - (F k).at_.z) else Y.getD (k + 2) 0) /\
   (jacGo m F X n b Y Z).2.getD (k + 2) 0 = (if belowB m n b ((k : Nat) : Int) = true then X.x - (F k).at_.x else Z.getD (k + 2) 0)
 | 0, b, Y, Z, hb, hY, hZ => by simp [jacGo, belowB]
 | n + 1, b, Y, Z, hb, hY, hZ => by
   unfold jacGo belowB
   by_cases h0 : 0 <= b
   · have hp := par_lt hc h0 hb
     rw [if_pos h0, if_pos h0]; obtain ⟨i1, i2⟩ := jac_col hc F X k hk n (m.bodies.getD b.toNat default).par (Y.set ((2 : Int) + b).toNat (-(X.z - (F b.toNat).at_.z))) (Z.set ((2 : Int) + b).toNat (X.x - (F b.toNat).at_.x)) (by omega) (by simpa using hY) (by simpa using hZ); rw [i1, i2]
     by_cases hbk : b = ((k : Nat) : Int)
     · rw [if_pos hbk]
       subst hbk; rw [below_lt hc n _ _ (by omega) (by omega)]; have e2 : ((2 : Int) + ((k : Nat) : Int)).toNat = k + 2 := by omega
       have e3 : ((k : Nat) : Int).toNat = k := rfl; rw [e2, e3]; simp only [Bool.false_eq_true, if_false, if_true]; constructor
       · rw [gdE, List.getElem?_set_self (by omega)]; rfl
       · rw [gdE, List.getElem?_set_self (by omega)]; rfl
     · rw [if_neg hbk]
       have e2 : ((2 : Int) + b).toNat ≠ k + 2 := by omega
       constructor
       · split
         · rfl
         · rw [gdE, List.getElem?_set_ne e2, <- gdE]
       · split
         · rfl
         · rw [gdE, List.getElem?_set_ne e2, <- gdE]
   · rw [if_neg h0, if_neg h0]
     simp
theorem jac_col0 (hc : checkE m = 0) (F : Nat -> FrameD) (b : Nat) (x : PtD) (k : Nat) (hk : k < m.bodies.length) (hb : b < m.bodies.length) :
   (jacP m F ((b : Nat) : Int) x).1.getD (k + 2) 0 = (if belowB m (b + 1) ((b : Nat) : Int) ((k : Nat) : Int) = true then -((placeF (F b) x).z - (F k).at_.z) else 0) /\
   (jacP m F ((b : Nat) : Int) x).2.getD (k + 2) 0 = (if belowB m (b + 1) ((b : Nat) : Int) ((k : Nat) : Int) = true then (placeF (F b) x).x - (F k).at_.x else 0) := by
 unfold jacP
 have hz : ∀ j : Nat, j <= 1 -> ((List.replicate (m.bodies.length + 2) (0 : Rat)).set j 1).getD (k + 2) 0 = 0 := by
   intro j hj; rw [gdE, List.getElem?_set_ne (by omega), List.getElem?_replicate]
   split <;> rfl
 obtain ⟨h1, h2⟩ := jac_col hc F (placeF (F ((b : Nat) : Int).toNat) x) k hk (((b : Nat) : Int).toNat + 1) ((b : Nat) : Int) ((List.replicate (m.bodies.length + 2) 0).set 0 1) ((List.replicate (m.bodies.length + 2) 0).set 1 1) (by omega) (by simp) (by simp); rw [h1, h2, hz 0 (by omega), hz 1 (by omega)]; exact ⟨rfl, rfl⟩
end
end Go.Av
namespace Go.Av
open Go.Proofs Go.RowKit
def KT242_ok := kn.cons a26
def massS (l : List BodyD) : Nat -> Rat
 | 0 => 0
 | i + 1 => massS l i + (l.getD i default).ma
def k242 : KF
 | [.cptr [.str mn, .list 27 XB, .list 17 XS, .list 17 XT, .list 13 XD, .list 5 XF, .list 12 XR] 0] => some (.agg [.q (massS (XB.map reBody) XB.length) (302 * XB.length)], [XB = (XB.map reBody).map (unBody 300), XB.length <= 1000])
 | _ => none
noncomputable abbrev T242 : List Item := [.code (nav [1, 1, 0, 1, 0, 0] (bodyOf Tryz.f242)), .inLoop (nav [1, 1, 0, 1, 0, 0] (bodyOf Tryz.f242)), .inBlock 0, .code (nav [1, 1, 1] (bodyOf Tryz.f242))]
theorem loop242 {S : Nat -> Prop} {w0 : World} {L : List BodyD} (hL : L.length <= 1000) :
   GF 242 S w0 (.agg [.q (massS L L.length) (302 * L.length)]) T242 ⟨slots 22 [(2, .ptr 0 3 0 0), (3, .ptr 1 3 0 0), (10, .list 27 (L.map (unBody 300))), (11, .i6 ((L.length : Nat) : Int)), (12, .i6 ((0 : Nat) : Int))], [some ⟨56, 3, false, [[.q 0 0]], none⟩, some ⟨56, 3, false, [[.q (massS L 0) (302 * 0)]], none⟩]⟩ := by
 refine down (G := fun i => GF 242 S w0 (.agg [.q (massS L L.length) (302 * L.length)]) T242 ⟨slots 22 [(2, .ptr 0 3 0 0), (3, .ptr 1 3 0 0), (10, .list 27 (L.map (unBody 300))), (11, .i6 ((L.length : Nat) : Int)), (12, .i6 ((i : Nat) : Int))], [some ⟨56, 3, false, [[.q 0 0]], none⟩, some ⟨56, 3, false, [[.q (massS L i) (302 * i)]], none⟩]⟩) L.length ?_ ?_
 · exact rR KT242_ok [(13, ff)] (.a1 (iF (om (¬ ((L.length : Int) < (L.length : Int))))))
 · intro i hi ih
   exact gR KT242_ok none [2, 3, 10, 11, 12] [0, 1] [(13, tt), (14, .cptr (unBody 300 (L.getD i default)) 0), (20, .i6 ((i + 1 : Nat) : Int))] (.a6 (iT (om ((i : Int) < (L.length : Int)))) (show Ref (.cptr ((L.map (unBody 300)).getD i []) 0) (.cptr (unBody 300 (L.getD i default)) 0) from Ref.cmap (f := unBody 300) hi) (nn i) (show (i : Int) < ((L.map (unBody 300)).length : Int) by rw [lmE]; omega) (show (302 * i) + 300 + 200 <= LIM by unfold LIM; omega) (wI ((i : Int) + (1 : Int)) ((i + 1 : Nat) : Int))) ih
theorem a242 : Ctr 242 k242 := fun args r ob h ho => by
 unfold k242 at h
 split at h
 · rename_i mn XB XS XT XD XF XR
   cases h; have o1 : XB = (XB.map reBody).map (unBody 300) := ho _ (by simp); have o2 : XB.length <= 1000 := ho _ (by simp); clear ho; obtain ⟨L, hL⟩ : ∃ L, L = XB.map reBody := ⟨_, rfl⟩; have hl : XB.length = L.length := by rw [hL]; simp
   rw [<- hL] at o1 ⊢; rw [hl] at o2 ⊢; subst o1; clear hL; refine af Tryz.f242 fun S w0 => ?_
   refine gN KT242_ok [0, 2, 3, 10, 11, 12] [] .nil (t := T242) (σ := slots 22 [(0, .cptr [.str mn, .list 27 (L.map (unBody 300)), .list 17 XS, .list 17 XT, .list 13 XD, .list 5 XF, .list 12 XR] 0), (2, .ptr 0 3 0 0), (3, .ptr 1 3 0 0), (10, .list 27 (L.map (unBody 300))), (11, (.i6 ((L.map (unBody 300)).length : Int))), (12, .i6 (0 : Int))]) (h := [some ⟨56, 3, false, [[.q 0 0]], none⟩, some ⟨56, 3, false, [[.q 0 0]], none⟩]) ?_
   rw [lmE]; refine Good.pk 22 [(2, .ptr 0 3 0 0), (3, .ptr 1 3 0 0), (10, .list 27 (L.map (unBody 300))), (11, .i6 ((L.length : Nat) : Int)), (12, .i6 ((0 : Nat) : Int))] ?_; exact loop242 o2
 · cases h
theorem div_sgn0 {y : Rat} (h : Int.sign y.num = 0) : y = 0 := Rat.num_eq_zero.1 (Int.sign_eq_zero_iff_zero.1 h)
def k27 : KF
 | [.agg [.q x B], .agg [.q y C]] => some (.tup [.agg [.q (x / y) (B + C + 2)], .int .i64 (if y = 0 then 9 else 0)], [B + C + 200 <= LIM])
 | _ => none
theorem a27 : Ctr 27 k27 := by
 refine ctr Tryz.f27 fun _ _ _ S w0 h ho => ?_
 unfold k27 at h; split at h <;> cases h; rename_i x B y C; have o1 := ho.one; have L := limE; have K := (kn.cons a116).cons a60
 by_cases h1 : (Int.sign y.num) = (0 : Int)
 · refine rF K [(8, tt)] (.a1 (iT h1)) (V := .tup [.agg [.q 0 0], .i6 (9 : Int)]) ?_
   have h := (div_sgn0 (by assumption) : y = 0); subst h; exact Ref.tup2 (Ref.q1 (by rw [Rat.div_def, Rat.inv_zero, Rat.mul_zero]) (by omega)) (Ref.int (by simp)) rfl rfl rfl rfl
 · exact rF K [(8, ff)] (.a3 (iF h1) o1 (show y ≠ 0 by exact fun h => h1 (by rw [h]; rfl))) (V := .tup [.agg [.q (x / y) (B + C + 2)], .i6 (0 : Int)]) (Ref.tup2 rr (Ref.int (by rw [if_neg (fun h => h1 (by rw [h]; rfl))])) rfl rfl rfl rfl)
def shareS (l : List BodyD) (b : Int) : Rat := (l.getD b.toNat default).ma / massS l l.length
def k170 : KF
 | [.cptr [.str mn, .list 27 XB, .list 17 XS, .list 17 XT, .list 13 XD, .list 5 XF, .list 12 XR] 0, .int .i64 b] => some (.agg [.q (shareS (XB.map reBody) b) (302 * XB.length + 304)], [XB = (XB.map reBody).map (unBody 300), XB.length <= 1000, 0 <= b, b < ((XB.length : Nat) : Int)])
 | _ => none
theorem a170 : Ctr 170 k170 := by
 refine ctr Tryz.f170 fun _ _ _ S w0 h ho => ?_
 unfold k170 at h; split at h <;> cases h; rename_i mn XB XS XT XD XF XR b; obtain ⟨o1, o2, o3, o4⟩ := ho.e4; have L := limE; have K := (kn.cons a242).cons a27; obtain ⟨L, hL⟩ : ∃ L, L = XB.map reBody := ⟨_, rfl⟩; have hl : XB.length = L.length := by rw [hL]; simp
 rw [<- hL] at o1 ⊢; rw [hl] at o2 o4 ⊢; subst o1; clear hL hl ho; obtain ⟨v, hv⟩ : ∃ v, v = L.getD b.toNat default := ⟨_, rfl⟩; have hlm : (L.map (unBody 300)).length = L.length := lmE ..; exact rF K [(14, .cptr (unBody 300 v) 0), (18, .agg [.q (massS L L.length) (302 * L.length)])] (.c6 (show Ref (.cptr ((L.map (unBody 300)).getD b.toNat []) 0) (.cptr (unBody 300 v) 0) by rw [hv]; exact Ref.cmap (f := unBody 300) (by omega)) o3 (show b < ((L.map (unBody 300)).length : Int) by rw [hlm]; omega) (show Ref (.agg [.q (massS ((L.map (unBody 300)).map reBody) (L.map (unBody 300)).length) (302 * (L.map (unBody 300)).length)]) (.agg [.q (massS L L.length) (302 * L.length)]) from Ref.eq (by rw [reBody_un, lmE])) (show (L.map (unBody 300)) = ((L.map (unBody 300)).map reBody).map (unBody 300) by rw [reBody_un]) (show (L.map (unBody 300)).length <= 1000 by rw [hlm]; omega) (.a1 (show 300 + (302 * L.length) + 200 <= LIM by unfold LIM; omega))) (V := .agg [.q (v.ma / (massS L L.length)) (300 + (302 * L.length) + 2)]) (Ref.q1 (by unfold shareS; rw [hv]) (by omega))
def k62 : KF
 | [.agg [.q px B, .q pz D], .agg [.q k C]] => some (.agg [.q (px * k) (B + C + 2), .q (pz * k) (D + C + 2)], [B + D + C + 300 <= LIM])
 | _ => none
theorem a62 : Ctr 62 k62 := by
 refine ctr Tryz.f62 fun _ _ _ S w0 h ho => ?_
 unfold k62 at h; split at h <;> cases h; rename_i px B pz D k C; have o1 := ho.one; have L := limE; have K := kn.cons a29; exact rR K [] (.a2 (om (B + C + 200 <= LIM)) (om (D + C + 200 <= LIM)))
def KT66_ok := ((((kn.cons a170).cons a119).cons a117).cons a62).cons a36
def centreS (m : MachD) (p : PoseD) : Nat -> PtD
 | 0 => ⟨0, 0⟩
 | i + 1 => ⟨(centreS m p i).x + (placeF (fr m p i) (m.bodies.getD i default).c).x * shareS m.bodies ((i : Nat) : Int), (centreS m p i).z + (placeF (fr m p i) (m.bodies.getD i default).c).z * shareS m.bodies ((i : Nat) : Int)⟩
def centreV (m : MachD) (p : PoseD) : PtD := if poseE m p.joints.length = 0 then centreS m p m.bodies.length else ⟨0, 0⟩
def cB (jb n : Nat) : Nat -> Nat
 | 0 => 0
 | i + 1 => cB jb n i + (4 * SZ jb + 302 * n + 916)
theorem cB_le {jb n : Nat} : ∀ {i : Nat}, cB jb n i <= i * (4 * SZ jb + 302 * n + 916)
 | 0 => by simp [cB]
 | i + 1 => by
   have := cB_le (jb := jb) (n := n) (i := i); rw [cB, Nat.add_mul]; omega
theorem cB_8 {jb n i : Nat} (hi : i <= 8) (hn : n <= 8) : cB jb n i <= 32 * SZ jb + 26656 := by
 have h1 := cB_le (jb := jb) (n := n) (i := i); have h2 : i * (4 * SZ jb + 302 * n + 916) <= 8 * (4 * SZ jb + 302 * n + 916) := Nat.mul_le_mul_right _ hi; omega
noncomputable abbrev T66 : List Item := [.code (nav [1, 1, 1, 1, 0, 1, 0, 0] (bodyOf Tryz.f66)), .inLoop (nav [1, 1, 1, 1, 0, 1, 0, 0] (bodyOf Tryz.f66)), .inBlock 0, .code (nav [1, 1, 1, 1, 1] (bodyOf Tryz.f66))]
abbrev c66_0 (m : MachD) (jb : Nat) (p : PoseD) : List AV := [.str m.name, .list 27 (m.bodies.map (unBody 300)), .list 17 (m.springs.map (unCordy 300)), .list 17 (m.tendons.map (unCordy 300)), .list 13 (m.motors.map (unMotor 300)), .list 5 (m.feet.map (unFoot 300)), .list 12 ((List.range m.bodies.length).map fun i => unF (SZ jb) (fr m p i))]
abbrev c66_1 : ABlk := ⟨58, 6, false, [[.q 0 0, .q 0 0]], none⟩
abbrev c66_2 (m : MachD) (p : PoseD) (jb : Nat) : ABlk := ⟨58, 6, false, [[.q ((centreS m p m.bodies.length).x) (cB jb m.bodies.length m.bodies.length), .q ((centreS m p m.bodies.length).z) (cB jb m.bodies.length m.bodies.length)]], none⟩
abbrev c66_4 (jb : Nat) (m : MachD) (p : PoseD) : List (Nat × AV) := [(4, .ptr 0 6 0 0), (6, .cptr (unPl jb m p) 0), (8, .ptr 1 6 0 0), (25, .list 27 (m.bodies.map (unBody 300))), (26, .i6 ((m.bodies.length : Nat) : Int)), (27, .i6 ((0 : Nat) : Int))]
abbrev c66_5 (m : MachD) (p : PoseD) (jb : Nat) : AV := (.tup [.agg [.q (centreS m p m.bodies.length).x (32 * SZ jb + 26656), .q (centreS m p m.bodies.length).z (32 * SZ jb + 26656)], .i6 0])
theorem loop66 {S : Nat -> Prop} {w0 : World} {m : MachD} {p : PoseD} {jb : Nat} (h8 : m.bodies.length <= 8) (hS : SZ jb <= 153753600) :
   GF 66 S w0 (c66_5 m p jb) T66 ⟨slots 50 (c66_4 jb m p), [some (c66_1), some ⟨58, 6, false, [[.q (centreS m p 0).x (cB jb m.bodies.length 0), .q (centreS m p 0).z (cB jb m.bodies.length 0)]], none⟩]⟩ := by
 have hlm : (m.bodies.map (unBody 300)).length = m.bodies.length := lmE ..; have hlr : ((List.range m.bodies.length).map fun i => unF (SZ jb) (fr m p i)).length = m.bodies.length := by simp
 refine down (G := fun i => GF 66 S w0 (c66_5 m p jb) T66 ⟨slots 50 [(4, .ptr 0 6 0 0), (6, .cptr (unPl jb m p) 0), (8, .ptr 1 6 0 0), (25, .list 27 (m.bodies.map (unBody 300))), (26, .i6 ((m.bodies.length : Nat) : Int)), (27, .i6 ((i : Nat) : Int))], [some (c66_1), some ⟨58, 6, false, [[.q (centreS m p i).x (cB jb m.bodies.length i), .q (centreS m p i).z (cB jb m.bodies.length i)]], none⟩]⟩) m.bodies.length ?_ ?_
 · refine gN KT66_ok [4, 5, 6, 8, 25, 26, 27] [(28, ff)] (.a1 (iF (om (¬ ((m.bodies.length : Int) < (m.bodies.length : Int)))))) (t := [.code .ret]) (σ := slots 50 [(4, .ptr 0 6 0 0), (5, .i6 (0 : Int)), (6, .cptr (c66_0 m jb p) 0), (8, .ptr 1 6 0 0), (25, .list 27 (m.bodies.map (unBody 300))), (26, .i6 (m.bodies.length : Int)), (27, .i6 (m.bodies.length : Int))]) (h := [some (c66_2 m p jb), some (c66_2 m p jb)]) ?_
   have := cB_8 (jb := jb) h8 h8; exact gE [.agg [.q (centreS m p m.bodies.length).x (cB jb m.bodies.length m.bodies.length), .q (centreS m p m.bodies.length).z (cB jb m.bodies.length m.bodies.length)], .i6 0] (Ref.tup2 (Ref.agg (RefC.cons (RefC.q_le this) (RefC.q_le this))) rr rfl rfl rfl rfl)
 · intro i hi ih
   have := cB_8 (jb := jb) (i := i) (n := m.bodies.length) (by omega) h8; have v0 : (i : Int) < ((m.bodies.map (unBody 300)).length : Int) := by rw [hlm]; omega
   refine gR KT66_ok none [4, 6, 8, 25, 26, 27] [0, 1] [(28, tt), (30, .cptr (unBody 300 (m.bodies.getD i default)) 0), (38, .cptr [.q ((fr m p i).at_.x) (2 * (SZ jb)), .q ((fr m p i).at_.z) (2 * (SZ jb)), .q ((fr m p i).c) (SZ jb), .q ((fr m p i).s) (SZ jb)] 0), (45, .agg [.q (shareS m.bodies (i : Int)) (302 * m.bodies.length + 304)]), (48, .i6 ((i + 1 : Nat) : Int))] (.c6 (iT (om ((i : Int) < (m.bodies.length : Int)))) (show Ref (.cptr ((m.bodies.map (unBody 300)).getD i []) 0) (.cptr (unBody 300 (m.bodies.getD i default)) 0) from Ref.cmap (f := unBody 300) hi) (nn i) v0 (show Ref (.cptr (((List.range m.bodies.length).map fun i => unF (SZ jb) (fr m p i)).getD i []) 0) (.cptr [.q ((fr m p i).at_.x) (2 * (SZ jb)), .q ((fr m p i).at_.z) (2 * (SZ jb)), .q ((fr m p i).c) (SZ jb), .q ((fr m p i).s) (SZ jb)] 0) from frL_ref hi) (nn i) (.c6 (show (i : Int) < (((List.range m.bodies.length).map fun i => unF (SZ jb) (fr m p i)).length : Int) by rw [hlr]; omega) (show (2 * (SZ jb)) + (2 * (SZ jb)) + 2 * 300 + 2 * 300 + 2 * (SZ jb) + 2 * (SZ jb) + 400 <= LIM by unfold LIM; omega) (show Ref (.agg [.q (shareS ((m.bodies.map (unBody 300)).map reBody) (i : Int)) (302 * (m.bodies.map (unBody 300)).length + 304)]) (.agg [.q (shareS m.bodies (i : Int)) (302 * m.bodies.length + 304)]) from Ref.eq (by rw [reBody_un, hlm])) (show (m.bodies.map (unBody 300)) = ((m.bodies.map (unBody 300)).map reBody).map (unBody 300) by rw [reBody_un]) (show (m.bodies.map (unBody 300)).length <= 1000 by rw [hlm]; omega) (nn i) (.a4 v0 (show ((2 * (SZ jb)) + (300 + 300 + (SZ jb) + (SZ jb) + 6) + 2) + ((2 * (SZ jb)) + (300 + 300 + (SZ jb) + (SZ jb) + 6) + 2) + (302 * m.bodies.length + 304) + 300 <= LIM by unfold LIM; omega) (show (cB jb m.bodies.length i) + (cB jb m.bodies.length i) + (((2 * (SZ jb)) + (300 + 300 + (SZ jb) + (SZ jb) + 6) + 2) + (302 * m.bodies.length + 304) + 2) + (((2 * (SZ jb)) + (300 + 300 + (SZ jb) + (SZ jb) + 6) + 2) + (302 * m.bodies.length + 304) + 2) + 300 <= LIM by unfold LIM; omega) (wI ((i : Int) + (1 : Int)) ((i + 1 : Nat) : Int))))) (t := T66) (σ := slots 50 [(4, .ptr 0 6 0 0), (6, .cptr (unPl jb m p) 0), (8, .ptr 1 6 0 0), (25, .list 27 (m.bodies.map (unBody 300))), (26, .i6 ((m.bodies.length : Nat) : Int)), (27, .i6 ((i + 1 : Nat) : Int))]) (h := [some (c66_1), some ⟨58, 6, false, [[.q (((centreS m p i).x) + ((((fr m p i).at_.x) + (((fr m p i).c) * (m.bodies.getD i default).c.x - ((fr m p i).s) * (m.bodies.getD i default).c.z)) * (shareS m.bodies (i : Int)))) ((cB jb m.bodies.length i) + (((2 * (SZ jb)) + (300 + 300 + (SZ jb) + (SZ jb) + 6) + 2) + (302 * m.bodies.length + 304) + 2) + 2), .q (((centreS m p i).z) + ((((fr m p i).at_.z) + (((fr m p i).s) * (m.bodies.getD i default).c.x + ((fr m p i).c) * (m.bodies.getD i default).c.z)) * (shareS m.bodies (i : Int)))) ((cB jb m.bodies.length i) + (((2 * (SZ jb)) + (300 + 300 + (SZ jb) + (SZ jb) + 6) + 2) + (302 * m.bodies.length + 304) + 2) + 2)]], none⟩]) ?_
   have e : cB jb m.bodies.length i + (2 * SZ jb + (300 + 300 + SZ jb + SZ jb + 6) + 2 + (302 * m.bodies.length + 304) + 2) + 2 = cB jb m.bodies.length (i + 1) := by rw [cB]; omega
   rw [e]; exact ih
def k66 : KF
 | [.agg M, .agg [.q ax jb, .q az A2, .q tu A3, .list 3 J]] => some (.tup [.agg [.q (centreV (reMach M) ⟨⟨ax, az⟩, tu, J.map reQ⟩).x (32 * SZ jb + 26656), .q (centreV (reMach M) ⟨⟨ax, az⟩, tu, J.map reQ⟩).z (32 * SZ jb + 26656)], .int .i64 (poseE (reMach M) J.length)], [M = unMach 300 (reMach M), (reMach M).small, (reMach M).bodies.length <= 8, A2 <= jb, A3 <= jb, jb <= 100000, Ref (.list 3 J) (.list 3 ((J.map reQ).map (unQ jb))), J.length <= 4611686018427387904])
 | _ => none
abbrev c66_3 (jb : Nat) (m : MachD) (p : PoseD) : AV := (.tup [(standP jb (reMach (unMach 300 m)) ⟨⟨p.at_.x, p.at_.z⟩, p.turn, (p.joints.map (unQ jb)).map reQ⟩), .i6 (poseE (reMach (unMach 300 m)) (p.joints.map (unQ jb)).length)])
theorem a66 : Ctr 66 k66 := fun args r ob h ho => by
 unfold k66 at h
 split at h
 · rename_i M ax jb az A2 tu A3 J
   cases h; have o1 : M = unMach 300 (reMach M) := ho _ (by simp); have o2 : (reMach M).small := ho _ (by simp); have o3 : (reMach M).bodies.length <= 8 := ho _ (by simp); have o4 : A2 <= jb := ho _ (by simp); have o5 : A3 <= jb := ho _ (by simp); have o6 : jb <= 100000 := ho _ (by simp); have o7 : Ref (.list 3 J) (.list 3 ((J.map reQ).map (unQ jb))) := ho _ (by simp); have o8 : J.length <= 4611686018427387904 := ho _ (by simp); refine af Tryz.f66 fun S w0 => ?_
   generalize hm : reMach M = m at *; subst o1; clear hm; obtain ⟨p, hp⟩ : ∃ p : PoseD, p = ⟨⟨ax, az⟩, tu, J.map reQ⟩ := ⟨_, rfl⟩; have hpj : p.joints.length = J.length := by rw [hp]; simp
   rw [<- hp]
   try rw [<- hpj]
   refine Good.weak 50 [(0, .agg (unMach 300 m)), (1, .agg (unPose jb p))] (by kernel_rfl) (.r (.cons (by rw [hp]; exact Ref.pose o4 o5 o7) .nil)) ?_; clear hp; have s1 : unMach 300 m = unMach 300 (reMach (unMach 300 m)) := by rw [reMach_un]
   have s2 : (reMach (unMach 300 m)).small := by rw [reMach_un]; exact o2
   have s3 : (reMach (unMach 300 m)).bodies.length <= 8 := by rw [reMach_un]; exact o3
   have s4 : Ref (.list 3 (p.joints.map (unQ jb))) (.list 3 (((p.joints.map (unQ jb)).map reQ).map (unQ jb))) := Ref.eq (by rw [reQ_un]); have s5 : (p.joints.map (unQ jb)).length <= 4611686018427387904 := by rw [lmE, hpj]; exact o8
   have s7 : SZ jb <= 153753600 := by unfold SZ; omega
   have s8 : LIM = 17592186044416 := rfl
   by_cases h1 : (poseE m p.joints.length) = (0 : Int)
   · refine gR KT66_ok none [4, 5, 6, 8, 25, 26, 27] [2, 4] [(11, .tup [.cptr (c66_0 m jb p) 0, .i6 (0 : Int)])] (.c6 s1 s2 s3 (rl jb) (rl jb) o6 (.a3 s4 s5 (show Ref (c66_3 jb m p) (.tup [.cptr (c66_0 m jb p) 0, .i6 (0 : Int)]) by exact standP_ok h1))) (t := T66) (σ := slots 50 [(4, .ptr 0 6 0 0), (5, .i6 (0 : Int)), (6, .cptr (c66_0 m jb p) 0), (8, .ptr 1 6 0 0), (25, .list 27 (m.bodies.map (unBody 300))), (26, (.i6 ((m.bodies.map (unBody 300)).length : Int))), (27, .i6 (0 : Int))]) (h := [some (c66_1), some (c66_1)]) ?_
     rw [lmE, show centreV m p = centreS m p m.bodies.length from if_pos h1, h1]; refine Good.pk 50 (c66_4 jb m p) ?_; exact loop66 o3 s7
   · refine rF KT66_ok [(11, .tup [.lit (.pointer none), .i6 (poseE m p.joints.length)]), (18, tt)] (.c6 s1 s2 s3 (rl jb) (rl jb) o6 (.a4 s4 s5 (show Ref (c66_3 jb m p) (.tup [.lit (.pointer none), .i6 (poseE m p.joints.length)]) by exact standP_no h1) (jT h1))) (V := .tup [.agg [.q 0 0, .q 0 0], .i6 (poseE m p.joints.length)]) ?_
     rw [show centreV m p = ⟨0, 0⟩ from if_neg h1]; exact Ref.tup2 (Ref.agg (RefC.cons qe qe)) rr rfl rfl rfl rfl
 · cases h
def k35 : KF
 | [.agg [.q ax A, .q az B], .int .i64 x, .int .i64 z] => some (.bool (decide (ax = (x : Rat) /\ az = (z : Rat))), [A + 300 <= LIM, B + 300 <= LIM, (-9223372036854775808 : Int) <= x, x <= (9223372036854775807 : Int), (-9223372036854775808 : Int) <= z, z <= (9223372036854775807 : Int)])
 | _ => none
theorem a35 : Ctr 35 k35 := by
 refine ctr Tryz.f35 fun _ _ _ S w0 h ho => ?_
 unfold k35 at h; split at h <;> cases h; rename_i ax A az B x z; obtain ⟨o1, o2, o3, o4, o5, o6⟩ := ho.e6; have L := limE; have K := (kn.cons a104).cons a25
 by_cases h1 : (cmpQ ax (x : Rat)) = (0 : Int)
 · exact rF K [(13, tt)] (.c6 o3 o4 (om (A + 64 + 200 <= LIM)) (iT h1) o5 o6 (.a1 (om (B + 64 + 200 <= LIM)))) (V := .bool (decide ((cmpQ az (z : Rat)) = (0 : Int)))) (Ref.bool (by simp [cmpQ_zero] at h1 ⊢; simp [h1, cmpQ_zero]))
 · exact rF K [(13, ff)] (.a4 o3 o4 (om (A + 64 + 200 <= LIM)) (iF h1)) (V := .bool false) (Ref.bool (by simp [cmpQ_zero] at h1 ⊢; simp [h1]))
def k128 : KF
 | [.agg [.q d D], .agg [.q a A, .q b B], .agg [.q c C, .q e E]] => some (.agg [.q (a + c) (A + C + 2), .q (b + e) (B + E + 2)], [A + B + C + E + D + 400 <= LIM])
 | _ => none
theorem a128 : Ctr 128 k128 := by
 refine ctr Tryz.f128 fun _ _ _ S w0 h ho => ?_
 unfold k128 at h; split at h <;> cases h; rename_i d D a A b B c C e E; have o1 := ho.one; have L := limE; have K := kn.cons a26; exact rR K [] (.a2 (om (A + C + 200 <= LIM)) (om (B + E + 200 <= LIM)))
structure Nm where
 a : Rat
 b : Rat
 deriving Inhabited
def fAdd (x y : Nm) : Nm := ⟨x.a + y.a, x.b + y.b⟩
def fSub (x y : Nm) : Nm := ⟨x.a - y.a, x.b - y.b⟩
def fMul (d : Rat) (x y : Nm) : Nm := ⟨x.a * y.a + d * x.b * y.b, x.a * y.b + x.b * y.a⟩
def fCon (y : Nm) : Nm := ⟨y.a, -y.b⟩
def fDiv (d : Rat) (x y : Nm) : Nm := ⟨(fMul d x (fCon y)).a / (fMul d y (fCon y)).a, (fMul d x (fCon y)).b / (fMul d y (fCon y)).a⟩
def k130 : KF
 | [.agg [.q a A]] => some (.agg [.q a A, .q 0 0], [])
 | _ => none
theorem a130 : Ctr 130 k130 := by
 refine ctr Tryz.f130 fun _ _ _ S w0 h ho => ?_
 unfold k130 at h; split at h <;> cases h; rename_i a A; exact rR .nil [] .nil
def k214 : KF
 | [.agg [.q d D], .agg [.q a A, .q b B], .agg [.q c C, .q e E]] => some (.agg [.q (fMul d ⟨a, b⟩ ⟨c, e⟩).a (A + B + C + E + D + 8), .q (fMul d ⟨a, b⟩ ⟨c, e⟩).b (A + B + C + E + D + 8)], [A + B + C + E + D + 400 <= LIM])
 | _ => none
theorem a214 : Ctr 214 k214 := by
 refine ctr Tryz.f214 fun _ _ _ S w0 h ho => ?_
 unfold k214 at h; split at h <;> cases h; rename_i d D a A b B c C e E; have o1 := ho.one; have L := limE; have K := (kn.cons a29).cons a26; exact rV K [] (.c6 (om (A + C + 200 <= LIM)) (om (D + B + 200 <= LIM)) (om ((D + B + 2) + E + 200 <= LIM)) (om ((A + C + 2) + ((D + B + 2) + E + 2) + 200 <= LIM)) (om (A + E + 200 <= LIM)) (om (B + C + 200 <= LIM)) (.a3 (om ((A + E + 2) + (B + C + 2) + 200 <= LIM)) (om ((A + C + 2) + ((D + B + 2) + E + 2) + 2 <= A + B + C + E + D + 8)) (om ((A + E + 2) + (B + C + 2) + 2 <= A + B + C + E + D + 8))))
def k217 : KF
 | [.agg [.q d D], .agg [.q a A, .q b B], .agg [.q c C, .q e E]] => some (.agg [.q (a - c) (A + C + 2), .q (b - e) (B + E + 2)], [A + B + C + E + D + 400 <= LIM])
 | _ => none
theorem a217 : Ctr 217 k217 := by
 refine ctr Tryz.f217 fun _ _ _ S w0 h ho => ?_
 unfold k217 at h; split at h <;> cases h; rename_i d D a A b B c C e E; have o1 := ho.one; have L := limE; have K := kn.cons a28; exact rR K [] (.a2 (om (A + C + 200 <= LIM)) (om (B + E + 200 <= LIM)))
structure Vc where
 x : Nm
 z : Nm
 deriving Inhabited
def fSpin (d : Rat) (p : Vc) (c s : Nm) : Vc := ⟨fSub (fMul d c p.x) (fMul d s p.z), fAdd (fMul d s p.x) (fMul d c p.z)⟩
def fOne : Nm := ⟨1, 0⟩
def fTurn (d : Rat) (p : Vc) (t : Nm) : Vc := fSpin d p (fDiv d (fSub fOne (fMul d t t)) (fAdd fOne (fMul d t t))) (fDiv d (fAdd t t) (fAdd fOne (fMul d t t)))
def vAdd (p q : Vc) : Vc := ⟨fAdd p.x q.x, fAdd p.z q.z⟩
def k129 : KF
 | [.agg [.q d D], .agg [.q x1 X1, .q x2 X2, .q z1 Z1, .q z2 Z2], .agg [.q c C, .q e E], .agg [.q s U, .q t V]] => some (.agg [.q (fSpin d ⟨⟨x1, x2⟩, ⟨z1, z2⟩⟩ ⟨c, e⟩ ⟨s, t⟩).x.a (C + E + U + V + X1 + X2 + Z1 + Z2 + 2 * D + 18), .q (fSpin d ⟨⟨x1, x2⟩, ⟨z1, z2⟩⟩ ⟨c, e⟩ ⟨s, t⟩).x.b (C + E + U + V + X1 + X2 + Z1 + Z2 + 2 * D + 18), .q (fSpin d ⟨⟨x1, x2⟩, ⟨z1, z2⟩⟩ ⟨c, e⟩ ⟨s, t⟩).z.a (C + E + U + V + X1 + X2 + Z1 + Z2 + 2 * D + 18), .q (fSpin d ⟨⟨x1, x2⟩, ⟨z1, z2⟩⟩ ⟨c, e⟩ ⟨s, t⟩).z.b (C + E + U + V + X1 + X2 + Z1 + Z2 + 2 * D + 18)], [2 * C + 2 * E + 2 * U + 2 * V + 2 * X1 + 2 * X2 + 2 * Z1 + 2 * Z2 + 5 * D + 1000 <= LIM])
 | _ => none
theorem a129 : Ctr 129 k129 := by
 refine ctr Tryz.f129 fun _ _ _ S w0 h ho => ?_
 unfold k129 at h; split at h <;> cases h; rename_i d D x1 X1 x2 X2 z1 Z1 z2 Z2 c C e E s U t V; have o1 := ho.one; have L := limE; have K := ((kn.cons a217).cons a214).cons a128; exact rV K [] (.c6 (om (C + E + X1 + X2 + D + 400 <= LIM)) (om (U + V + Z1 + Z2 + D + 400 <= LIM)) (om ((C + E + X1 + X2 + D + 8) + (C + E + X1 + X2 + D + 8) + (U + V + Z1 + Z2 + D + 8) + (U + V + Z1 + Z2 + D + 8) + D + 400 <= LIM)) (om (U + V + X1 + X2 + D + 400 <= LIM)) (om (C + E + Z1 + Z2 + D + 400 <= LIM)) (om ((U + V + X1 + X2 + D + 8) + (U + V + X1 + X2 + D + 8) + (C + E + Z1 + Z2 + D + 8) + (C + E + Z1 + Z2 + D + 8) + D + 400 <= LIM)) (.a4 (om ((C + E + X1 + X2 + D + 8) + (U + V + Z1 + Z2 + D + 8) + 2 <= C + E + U + V + X1 + X2 + Z1 + Z2 + 2 * D + 18)) (om ((C + E + X1 + X2 + D + 8) + (U + V + Z1 + Z2 + D + 8) + 2 <= C + E + U + V + X1 + X2 + Z1 + Z2 + 2 * D + 18)) (om ((U + V + X1 + X2 + D + 8) + (C + E + Z1 + Z2 + D + 8) + 2 <= C + E + U + V + X1 + X2 + Z1 + Z2 + 2 * D + 18)) (om ((U + V + X1 + X2 + D + 8) + (C + E + Z1 + Z2 + D + 8) + 2 <= C + E + U + V + X1 + X2 + Z1 + Z2 + 2 * D + 18))))
def k124 : KF
 | [.agg [.q x1 X1, .q x2 X2, .q z1 Z1, .q z2 Z2], .agg [.q y1 Y1, .q y2 Y2, .q w1 W1, .q w2 W2], .fnm 128 true [.q d D]] => some (.agg [.q (vAdd ⟨⟨x1, x2⟩, ⟨z1, z2⟩⟩ ⟨⟨y1, y2⟩, ⟨w1, w2⟩⟩).x.a (X1 + Y1 + 2), .q (vAdd ⟨⟨x1, x2⟩, ⟨z1, z2⟩⟩ ⟨⟨y1, y2⟩, ⟨w1, w2⟩⟩).x.b (X2 + Y2 + 2), .q (vAdd ⟨⟨x1, x2⟩, ⟨z1, z2⟩⟩ ⟨⟨y1, y2⟩, ⟨w1, w2⟩⟩).z.a (Z1 + W1 + 2), .q (vAdd ⟨⟨x1, x2⟩, ⟨z1, z2⟩⟩ ⟨⟨y1, y2⟩, ⟨w1, w2⟩⟩).z.b (Z2 + W2 + 2)], [X1 + X2 + Z1 + Z2 + Y1 + Y2 + W1 + W2 + D + 600 <= LIM])
 | _ => none
theorem a124 : Ctr 124 k124 := by
 refine ctr Tryz.f124 fun _ _ _ S w0 h ho => ?_
 unfold k124 at h; split at h <;> cases h; rename_i x1 X1 x2 X2 z1 Z1 z2 Z2 y1 Y1 y2 Y2 w1 W1 w2 W2 d D; have o1 := ho.one; have L := limE; have K := kn.cons a128; exact rV K [] (.a6 (om (X1 + X2 + Y1 + Y2 + D + 400 <= LIM)) (om (Z1 + Z2 + W1 + W2 + D + 400 <= LIM)) (rl (X1 + Y1 + 2)) (rl (X2 + Y2 + 2)) (rl (Z1 + W1 + 2)) (rl (Z2 + W2 + 2)))
def k125 : KF
 | [.agg [.q x1 X1, .q z1 Z1]] => some (.agg [.q x1 X1, .q 0 0, .q z1 Z1, .q 0 0], [])
 | _ => none
theorem a125 : Ctr 125 k125 := by
 refine ctr Tryz.f125 fun _ _ _ S w0 h ho => ?_
 unfold k125 at h; split at h <;> cases h; rename_i x1 X1 z1 Z1; have K := kn.cons a130; exact rR K [] .nil
def k216 : KF
 | [.agg [.q d D], .agg [.q a A, .q b B], .agg [.q c C, .q e E]] => some (.agg [.q (fDiv d ⟨a, b⟩ ⟨c, e⟩).a (A + B + 3 * C + 3 * E + 2 * D + 18), .q (fDiv d ⟨a, b⟩ ⟨c, e⟩).b (A + B + 3 * C + 3 * E + 2 * D + 18)], [A + B + 3 * C + 3 * E + 2 * D + 400 <= LIM])
 | _ => none
theorem a216 : Ctr 216 k216 := by
 refine ctr Tryz.f216 fun _ _ _ S w0 h ho => ?_
 unfold k216 at h; split at h <;> cases h; rename_i d D a A b B c C e E; have o1 := ho.one; have L := limE; have K := ((kn.cons a214).cons a59).cons a27; have v0 : (A + B + C + E + D + 8) + (C + E + C + E + D + 8) + 200 <= LIM := by omega
 exact rV K [] (.a6 (om (A + B + C + E + D + 400 <= LIM)) (om (C + E + C + E + D + 400 <= LIM)) v0 v0 (om ((A + B + C + E + D + 8) + (C + E + C + E + D + 8) + 2 <= A + B + 3 * C + 3 * E + 2 * D + 18)) (om ((A + B + C + E + D + 8) + (C + E + C + E + D + 8) + 2 <= A + B + 3 * C + 3 * E + 2 * D + 18)))
def k126 : KF
 | [.agg [.q d D], .agg [.q x1 X1, .q x2 X2, .q z1 Z1, .q z2 Z2], .agg [.q a A, .q b B]] => some (.agg [.q (fTurn d ⟨⟨x1, x2⟩, ⟨z1, z2⟩⟩ ⟨a, b⟩).x.a (64 * A + 64 * B + 42 * D + X1 + X2 + Z1 + Z2 + 1500), .q (fTurn d ⟨⟨x1, x2⟩, ⟨z1, z2⟩⟩ ⟨a, b⟩).x.b (64 * A + 64 * B + 42 * D + X1 + X2 + Z1 + Z2 + 1500), .q (fTurn d ⟨⟨x1, x2⟩, ⟨z1, z2⟩⟩ ⟨a, b⟩).z.a (64 * A + 64 * B + 42 * D + X1 + X2 + Z1 + Z2 + 1500), .q (fTurn d ⟨⟨x1, x2⟩, ⟨z1, z2⟩⟩ ⟨a, b⟩).z.b (64 * A + 64 * B + 42 * D + X1 + X2 + Z1 + Z2 + 1500)], [128 * A + 128 * B + 90 * D + 2 * X1 + 2 * X2 + 2 * Z1 + 2 * Z2 + 8000 <= LIM])
 | _ => none
theorem a126 : Ctr 126 k126 := by
 refine ctr Tryz.f126 fun _ _ _ S w0 h ho => ?_
 unfold k126 at h; split at h <;> cases h; rename_i d D x1 X1 x2 X2 z1 Z1 z2 Z2 a A b B; have o1 := ho.one; have L := limE; have K := ((((((kn.cons a217).cons a216).cons a214).cons a130).cons a129).cons a128).cons a25; have v0 : 64 + 0 + (A + B + A + B + D + 8) + (A + B + A + B + D + 8) + D + 400 <= LIM := by omega
 have v1 : A + B + A + B + D + 400 <= LIM := by omega
 exact rV K [] (.c6 (dc ((-9223372036854775808 : Int) <= 1)) (dc (1 <= (9223372036854775807 : Int))) v1 v0 v0 (om ((64 + (A + B + A + B + D + 8) + 2) + (0 + (A + B + A + B + D + 8) + 2) + 3 * (64 + (A + B + A + B + D + 8) + 2) + 3 * (0 + (A + B + A + B + D + 8) + 2) + 2 * D + 400 <= LIM)) (.c6 v1 (om ((A + A + 2) + (B + B + 2) + 3 * (64 + (A + B + A + B + D + 8) + 2) + 3 * (0 + (A + B + A + B + D + 8) + 2) + 2 * D + 400 <= LIM)) (om (2 * ((64 + (A + B + A + B + D + 8) + 2) + (0 + (A + B + A + B + D + 8) + 2) + 3 * (64 + (A + B + A + B + D + 8) + 2) + 3 * (0 + (A + B + A + B + D + 8) + 2) + 2 * D + 18) + 2 * ((64 + (A + B + A + B + D + 8) + 2) + (0 + (A + B + A + B + D + 8) + 2) + 3 * (64 + (A + B + A + B + D + 8) + 2) + 3 * (0 + (A + B + A + B + D + 8) + 2) + 2 * D + 18) + 2 * ((A + A + 2) + (B + B + 2) + 3 * (64 + (A + B + A + B + D + 8) + 2) + 3 * (0 + (A + B + A + B + D + 8) + 2) + 2 * D + 18) + 2 * ((A + A + 2) + (B + B + 2) + 3 * (64 + (A + B + A + B + D + 8) + 2) + 3 * (0 + (A + B + A + B + D + 8) + 2) + 2 * D + 18) + 2 * X1 + 2 * X2 + 2 * Z1 + 2 * Z2 + 5 * D + 1000 <= LIM)) (om (((64 + (A + B + A + B + D + 8) + 2) + (0 + (A + B + A + B + D + 8) + 2) + 3 * (64 + (A + B + A + B + D + 8) + 2) + 3 * (0 + (A + B + A + B + D + 8) + 2) + 2 * D + 18) + ((64 + (A + B + A + B + D + 8) + 2) + (0 + (A + B + A + B + D + 8) + 2) + 3 * (64 + (A + B + A + B + D + 8) + 2) + 3 * (0 + (A + B + A + B + D + 8) + 2) + 2 * D + 18) + ((A + A + 2) + (B + B + 2) + 3 * (64 + (A + B + A + B + D + 8) + 2) + 3 * (0 + (A + B + A + B + D + 8) + 2) + 2 * D + 18) + ((A + A + 2) + (B + B + 2) + 3 * (64 + (A + B + A + B + D + 8) + 2) + 3 * (0 + (A + B + A + B + D + 8) + 2) + 2 * D + 18) + X1 + X2 + Z1 + Z2 + 2 * D + 18 <= 64 * A + 64 * B + 42 * D + X1 + X2 + Z1 + Z2 + 1500)) (om (((64 + (A + B + A + B + D + 8) + 2) + (0 + (A + B + A + B + D + 8) + 2) + 3 * (64 + (A + B + A + B + D + 8) + 2) + 3 * (0 + (A + B + A + B + D + 8) + 2) + 2 * D + 18) + ((64 + (A + B + A + B + D + 8) + 2) + (0 + (A + B + A + B + D + 8) + 2) + 3 * (64 + (A + B + A + B + D + 8) + 2) + 3 * (0 + (A + B + A + B + D + 8) + 2) + 2 * D + 18) + ((A + A + 2) + (B + B + 2) + 3 * (64 + (A + B + A + B + D + 8) + 2) + 3 * (0 + (A + B + A + B + D + 8) + 2) + 2 * D + 18) + ((A + A + 2) + (B + B + 2) + 3 * (64 + (A + B + A + B + D + 8) + 2) + 3 * (0 + (A + B + A + B + D + 8) + 2) + 2 * D + 18) + X1 + X2 + Z1 + Z2 + 2 * D + 18 <= 64 * A + 64 * B + 42 * D + X1 + X2 + Z1 + Z2 + 1500)) (om (((64 + (A + B + A + B + D + 8) + 2) + (0 + (A + B + A + B + D + 8) + 2) + 3 * (64 + (A + B + A + B + D + 8) + 2) + 3 * (0 + (A + B + A + B + D + 8) + 2) + 2 * D + 18) + ((64 + (A + B + A + B + D + 8) + 2) + (0 + (A + B + A + B + D + 8) + 2) + 3 * (64 + (A + B + A + B + D + 8) + 2) + 3 * (0 + (A + B + A + B + D + 8) + 2) + 2 * D + 18) + ((A + A + 2) + (B + B + 2) + 3 * (64 + (A + B + A + B + D + 8) + 2) + 3 * (0 + (A + B + A + B + D + 8) + 2) + 2 * D + 18) + ((A + A + 2) + (B + B + 2) + 3 * (64 + (A + B + A + B + D + 8) + 2) + 3 * (0 + (A + B + A + B + D + 8) + 2) + 2 * D + 18) + X1 + X2 + Z1 + Z2 + 2 * D + 18 <= 64 * A + 64 * B + 42 * D + X1 + X2 + Z1 + Z2 + 1500)) (.a1 (om (((64 + (A + B + A + B + D + 8) + 2) + (0 + (A + B + A + B + D + 8) + 2) + 3 * (64 + (A + B + A + B + D + 8) + 2) + 3 * (0 + (A + B + A + B + D + 8) + 2) + 2 * D + 18) + ((64 + (A + B + A + B + D + 8) + 2) + (0 + (A + B + A + B + D + 8) + 2) + 3 * (64 + (A + B + A + B + D + 8) + 2) + 3 * (0 + (A + B + A + B + D + 8) + 2) + 2 * D + 18) + ((A + A + 2) + (B + B + 2) + 3 * (64 + (A + B + A + B + D + 8) + 2) + 3 * (0 + (A + B + A + B + D + 8) + 2) + 2 * D + 18) + ((A + A + 2) + (B + B + 2) + 3 * (64 + (A + B + A + B + D + 8) + 2) + 3 * (0 + (A + B + A + B + D + 8) + 2) + 2 * D + 18) + X1 + X2 + Z1 + Z2 + 2 * D + 18 <= 64 * A + 64 * B + 42 * D + X1 + X2 + Z1 + Z2 + 1500)))))
theorem bitLen_dval {xs : List Nat} (h : Dig b32 xs) (hne : xs ≠ []) : bitLen (dval b32 xs) = 32 * (xs.length - 1) + bitLen (xs.getD (xs.length - 1) 0) := by
 have hp : 0 < xs.length := List.length_pos_iff.2 hne; have h1 := Dig.low (b := b32) (by decide) h hne; have h2 := dval_split b32 (xs.length - 1) xs; have h3 := dval_drop_succ (b := b32) (k := xs.length - 1) (xs := xs) (by omega); have h4 := dval_take_lt (b := b32) (by decide) h.1 (xs.length - 1); rw [show xs.length - 1 + 1 = xs.length by omega, List.drop_length] at h3; simp only [dval, Nat.mul_zero, Nat.add_zero] at h3; rw [h3] at h2
 have h5 : dval b32 xs / b32 ^ (xs.length - 1) = xs.getD (xs.length - 1) 0 := by
   rw [h2, Nat.add_mul_div_left _ _ (Nat.pow_pos (by decide)), Nat.div_eq_of_lt h4, Nat.zero_add]
 rw [b32_pow] at h1 h5; rw [bitLen_div h1, h5]
def k336 : KF
 | [.nat n B] => some (.int .i64 ((bitLen n : Nat) : Int), [B <= LIM])
 | _ => none
theorem a336 : Ctr 336 k336 := by
 refine ctr Tryz.f336 fun _ _ _ S w0 h ho => ?_
 unfold k336 at h; split at h <;> cases h; rename_i n B; have o1 := ho.one; have L := limE; have K := kn.cons a298; refine Good.natlt (n := n) (B := B) 0 rfl fun hB => ?_
 obtain ⟨hx, hxn⟩ := digits_spec (b := b32) (by decide) n; have hl := digits_len hB; refine Good.weak 18 [(0, .list 1 (d32 (digits b32 n)))] (by kernel_rfl) (.cons Ref.opn .nil) ?_; generalize digits b32 n = xs at *; unfold LIM at o1; have ht := getD_lt (b := b32) (by decide) hx.1 (xs.length - 1); unfold b32 at ht; have e1 : ((((d32 xs).length : Nat) : Int) - (1 : Int)).toNat = xs.length - 1 := by rw [d32_length]; omega
 have hb := bitLen_le (n := xs.getD (xs.length - 1) 0) (k := 32) ht
 by_cases h1 : (((d32 xs).length : Nat) : Int) = (0 : Int)
 · refine rF K [(5, tt)] (.a1 (iT h1)) (V := .i6 (0 : Int)) ?_
   rw [d32_length] at h1; have : xs = [] := List.length_eq_zero_iff.1 (by omega); subst this; rw [<- hxn]; exact Ref.int (by simp [dval, bitLen])
 · refine rF K [(5, ff), (8, .i6 ((((d32 xs).length : Nat) : Int) - (1 : Int))), (9, .i6 ((32 : Int) * ((((d32 xs).length : Nat) : Int) - (1 : Int)))), (13, .i6 ((((d32 xs).length : Nat) : Int) - (1 : Int))), (14, .cptr [.int .u32 (xs.getD (((((d32 xs).length : Nat) : Int) - (1 : Int)).toNat) 0 : Int)] 0), (17, .i6 (((32 : Int) * ((((d32 xs).length : Nat) : Int) - (1 : Int))) + (bitLen (xs.getD (((((d32 xs).length : Nat) : Int) - (1 : Int)).toNat) 0) : Int)))] (.c6 (iF h1) (wI ((((d32 xs).length : Nat) : Int) - (1 : Int)) ((((d32 xs).length : Nat) : Int) - (1 : Int)) (by first | (rw [e1]; rw [d32_length] at *; omega) | (rw [d32_length] at *; omega))) (wI ((32 : Int) * ((((d32 xs).length : Nat) : Int) - (1 : Int))) ((32 : Int) * ((((d32 xs).length : Nat) : Int) - (1 : Int))) (by first | (rw [e1]; rw [d32_length] at *; omega) | (rw [d32_length] at *; omega))) (wI ((((d32 xs).length : Nat) : Int) - (1 : Int)) ((((d32 xs).length : Nat) : Int) - (1 : Int)) (by first | (rw [e1]; rw [d32_length] at *; omega) | (rw [d32_length] at *; omega))) (show Ref (.cptr ((d32 xs).getD ((((d32 xs).length : Int) - (1 : Int)).toNat) []) 0) (.cptr [.int .u32 (xs.getD (((((d32 xs).length : Nat) : Int) - (1 : Int)).toNat) 0 : Int)] 0) from Ref.cd32 ((show ((((d32 xs).length : Nat) : Int) - (1 : Int)).toNat < xs.length by (rw [e1]; rw [d32_length] at *; omega)))) (show 0 <= ((((d32 xs).length : Nat) : Int) - (1 : Int)) by (rw [d32_length] at *; omega)) (.a4 (show ((((d32 xs).length : Nat) : Int) - (1 : Int)) < ((d32 xs).length : Int) by (rw [d32_length] at *; omega)) (show 0 <= (xs.getD (((((d32 xs).length : Nat) : Int) - (1 : Int)).toNat) 0 : Int) by first | (rw [e1]; exact ht) | (rw [e1]; rw [d32_length] at *; omega) | (rw [d32_length] at *; omega) | omega) (show (xs.getD ((((d32 xs).length : Int) - (1 : Int)).toNat) 0) < 4294967296 by (rw [e1]; exact ht)) (wI (((32 : Int) * ((((d32 xs).length : Nat) : Int) - (1 : Int))) + (bitLen (xs.getD (((((d32 xs).length : Nat) : Int) - (1 : Int)).toNat) 0) : Int)) (((32 : Int) * ((((d32 xs).length : Nat) : Int) - (1 : Int))) + (bitLen (xs.getD (((((d32 xs).length : Nat) : Int) - (1 : Int)).toNat) 0) : Int)) (by first | (rw [e1]; rw [d32_length] at *; omega) | (rw [d32_length] at *; omega))))) (V := .i6 (((32 : Int) * ((((d32 xs).length : Nat) : Int) - (1 : Int))) + (bitLen (xs.getD (((((d32 xs).length : Nat) : Int) - (1 : Int)).toNat) 0) : Int))) ?_
   rw [d32_length] at h1; refine Ref.int ?_; rw [<- hxn, e1, d32_length, bitLen_dval hx (fun h => h1 (by rw [h]; rfl))]; have : 0 < xs.length := by omega
   omega
def KT329_ok := ((((((kn.cons a336).cons a265).cons a262).cons a207).cons a205).cons a203).cons a202
def isqF : Nat -> Nat -> Nat
 | 0, _ => 0
 | k + 1, n => if n = 0 then 0 else if (2 * isqF k (n / 4) + 1) * (2 * isqF k (n / 4) + 1) <= n then 2 * isqF k (n / 4) + 1 else 2 * isqF k (n / 4)
def isqrt (n : Nat) : Nat := isqF n n
theorem isqF_spec : ∀ (k n : Nat), n <= k -> isqF k n * isqF k n <= n /\ n < (isqF k n + 1) * (isqF k n + 1)
 | 0, n, h => by
   have : n = 0 := by omega
   subst this; simp [isqF]
 | k + 1, n, h => by
   rw [isqF]
   split
   · rename_i h0; subst h0; simp
   · rename_i h0
     obtain ⟨h1, h2⟩ := isqF_spec k (n / 4) (by omega); generalize isqF k (n / 4) = s at *; have h3 : 4 * (n / 4) <= n := by omega
     have h4 : n < 4 * (n / 4) + 4 := by omega
     have e1 : (2 * s) * (2 * s) = 4 * (s * s) := by grind
     have e2 : (2 * s + 1 + 1) * (2 * s + 1 + 1) = 4 * ((s + 1) * (s + 1)) := by grind
     split
     · rename_i h5
       exact ⟨h5, by rw [e2]; omega⟩
     · rename_i h5
       exact ⟨by rw [e1]; omega, by omega⟩
theorem isqrt_spec (n : Nat) : isqrt n * isqrt n <= n /\ n < (isqrt n + 1) * (isqrt n + 1) := isqF_spec n n (rl n)
theorem isqrt_uniq {n x : Nat} (h1 : x * x <= n) (h2 : n < (x + 1) * (x + 1)) : x = isqrt n := by
 obtain ⟨h3, h4⟩ := isqrt_spec n; generalize isqrt n = r at *; rcases Nat.lt_trichotomy x r with h | h | h
 · have := Nat.mul_le_mul (show x + 1 <= r from h) (show x + 1 <= r from h)
   omega
 · exact h
 · have := Nat.mul_le_mul (show r + 1 <= x from h) (show r + 1 <= x from h)
   omega
theorem isqrt_le (n : Nat) : isqrt n <= n := by
 obtain ⟨h, _⟩ := isqrt_spec n; exact Nat.le_trans (Nat.le_mul_self _) h
theorem isqrt_pos {n : Nat} (h : 0 < n) : 0 < isqrt n := by
 obtain ⟨_, h2⟩ := isqrt_spec n; rcases Nat.eq_zero_or_pos (isqrt n) with e | e
 · rw [e] at h2; omega
 · exact e
theorem newton {n x : Nat} (hn : 0 < n) (hx : 0 < x) : n < ((x + n / x) / 2 + 1) * ((x + n / x) / 2 + 1) /\ 0 < (x + n / x) / 2 /\ (x <= (x + n / x) / 2 -> x * x <= n) := by
 have h1 : x * (n / x) <= n := Nat.mul_div_le n x; have h2 : n < x * (n / x + 1) := Nat.lt_mul_div_succ n hx; generalize n / x = q at *; refine ⟨?_, ?_, fun h => ?_⟩
 · have h3 : x + q + 1 <= 2 * ((x + q) / 2 + 1) := by omega
   generalize (x + q) / 2 + 1 = y at *; have h4 := Nat.mul_le_mul h3 h3
   have h5 : 4 * (x * (q + 1)) <= (x + q + 1) * (x + q + 1) := by
     rcases Nat.le_total x (q + 1) with h | h
     · obtain ⟨d, hd⟩ := Nat.le.dest h
       have : q + 1 = x + d := hd.symm; rw [show x + q + 1 = x + (q + 1) by omega, this]; have : (x + (x + d)) * (x + (x + d)) = 4 * (x * (x + d)) + d * d := by grind
       omega
     · obtain ⟨d, hd⟩ := Nat.le.dest h
       rw [show x + q + 1 = x + (q + 1) by omega, <- hd]; have : (q + 1 + d + (q + 1)) * (q + 1 + d + (q + 1)) = 4 * ((q + 1 + d) * (q + 1)) + d * d := by grind
       omega
   have h6 : (2 * y) * (2 * y) = 4 * (y * y) := by grind
   omega
 · rcases Nat.eq_zero_or_pos ((x + q) / 2) with h | h
   · exfalso
     have hx1 : x = 1 := by omega
     have hq0 : q = 0 := by omega
     subst hx1; subst hq0; omega
   · exact h
 · have h3 : x <= q := by omega
   exact Nat.le_trans (Nat.mul_le_mul_left x h3) h1
def k329 : KF
 | [.nat n B] => some (.nat (isqrt n) B, [B + 300 <= LIM])
 | _ => none
section
variable {S : Nat -> Prop} {w0 : World}
noncomputable abbrev T329 : List Item := [.code (nav [1, 1, 1, 0, 0] (bodyOf Tryz.f329)), .inLoop (nav [1, 1, 1, 0, 0] (bodyOf Tryz.f329)), .inBlock 0]
theorem loop329 {n B C : Nat} (hn : 0 < n) (hB : n < 2 ^ B) (hC : max B C + 128 <= LIM) : ∀ (j x : Nat), x <= j -> 0 < x -> n < (x + 1) * (x + 1) -> x < 2 ^ C ->
   GF 329 S w0 (.nat (isqrt n) B) T329 ⟨slots 32 [(0, .nat n B), (3, .nat x C)], []⟩ := by
 intro j
 induction j with
 | zero => intro x h1 h2; omega
 | succ j ih =>
   intro x hj hx hnx hxC; obtain ⟨n1, n2, n3⟩ := newton hn hx; have v0 : (1 : Int) <= 9223372036854775807 := by decide
   by_cases c : (0 : Int) <= (cmpN ((x + (n / x)) / 2 ^ 1) x)
   · refine gR KT329_ok none [0, 2, 3] [] [(29, tt)] (.c6 hx hC (om (max C B + 1 <= LIM)) (dc (0 <= (1 : Int))) (om ((max C B + 1) <= LIM)) v0 (.a1 (iT c))) (t := [.code .ret, .code (nav [1, 1, 1, 0, 0, 0, 1, 1, 1] (bodyOf Tryz.f329)), .inBlock 1, .inLoop (nav [1, 1, 1, 0, 0] (bodyOf Tryz.f329)), .inBlock 0]) (σ := slots 32 [(0, .nat n B), (2, .nat x C), (3, .nat x C)]) (h := []) ?_
     have h1 : x = isqrt n := isqrt_uniq (n3 (cmpN_nonneg.1 c)) hnx; refine good_ret1 TT0_ok (fn := Tryz.f329) (by kernel_rfl) 2 (by kernel_rfl) rfl (by rfl) ?_; rw [h1]; exact Ref.natB (Nat.lt_of_le_of_lt (isqrt_le n) hB)
   · refine gR KT329_ok none [0, 2, 3] [] [(29, ff)] (.c6 hx hC (om (max C B + 1 <= LIM)) (dc (0 <= (1 : Int))) (om ((max C B + 1) <= LIM)) v0 (.a1 (iF c))) (t := T329) (σ := slots 32 [(0, .nat n B), (3, (.nat ((x + (n / x)) / 2 ^ 1) (max C B + 1)))]) (h := []) ?_
     have hlt : (x + n / x) / 2 ^ 1 < x := Nat.lt_of_not_le fun h => c (cmpN_nonneg.2 h)
     refine Good.weak 32 [(0, _), (3, .nat ((x + n / x) / 2 ^ 1) C)] (by kernel_rfl) (.r (.cons (Ref.natB (Nat.lt_trans hlt hxC)) .nil)) ?_; exact ih _ (by omega) n2 n1 (Nat.lt_trans hlt hxC)
end
theorem a329 : Ctr 329 k329 := by
 refine ctr Tryz.f329 fun _ _ _ S w0 h ho => ?_
 unfold k329 at h; split at h <;> cases h; rename_i n B; have o1 := ho.one; refine Good.natlt (n := n) (B := B) 0 rfl fun hB => ?_
 have hb := bitLen_le hB; obtain ⟨hx, hxn⟩ := digits_spec (b := b32) (by decide) n; refine Good.weak 32 [(0, .list 1 (d32 (digits b32 n)))] (by kernel_rfl) (.cons Ref.opn .nil) ?_; have hlen := digits_pos (b := b32) (n := n) (by decide); generalize digits b32 n = xs at *
 by_cases c : (((d32 xs).length : Nat) : Int) = (0 : Int)
 · refine rF KT329_ok [(9, tt)] (.a1 (iT c)) (V := AV.nil) ?_
   rw [d32_length] at c; have h0 : n = 0 := by omega
   subst h0; exact (Ref.nilL (e := 1)).trans (Ref.nat (xs := []) ⟨by simp, by simp⟩ rfl (Nat.pow_pos (by decide)))
 · refine gS KT329_ok (some 3) [0, 2, 3] [(9, ff)] (.a1 (iF c)) (t := [.code (nav [1, 1, 0] (bodyOf Tryz.f329)), .code (nav [1, 1, 1] (bodyOf Tryz.f329))]) (σ := slots 32 [(0, .list 1 (d32 xs)), (2, .nil)]) (h := []) ?_
   rw [d32_length] at c; have hn : 0 < n := by omega
   refine Good.weak 32 [(0, .nat n B)] (by kernel_rfl) (.cons (Ref.nat hx hxn hB) .nil) ?_; unfold LIM at o1; refine gR KT329_ok none [0, 3] [] [(13, .i6 ((bitLen n + 1 : Nat) : Int)), (14, .i6 (((bitLen n + 1) / 2 : Nat) : Int))] (.c6 (dc (0 <= (1 : Int))) (dc ((1 : Int) < 18446744073709551616)) (show B <= LIM by unfold LIM; omega) (wI (((bitLen n : Nat) : Int) + (1 : Int)) ((bitLen n + 1 : Nat) : Int)) (show Ref (.i6 (IntKind.i64.wrap (((bitLen n + 1 : Nat) : Int).tdiv (2 : Int)))) (.i6 (((bitLen n + 1) / 2 : Nat) : Int)) from Ref.quo (a := bitLen n + 1) (b := 2) rfl rfl (by decide) (by show _ <= (9223372036854775807 : Int); omega)) (dc ((2 : Int) ≠ 0)) (.a2 (nn ((bitLen n + 1) / 2)) (show 64 + ((bitLen n + 1) / 2) <= LIM by unfold LIM; omega))) (t := T329) (σ := slots 32 [(0, .nat n B), (3, (.nat (1 * 2 ^ ((bitLen n + 1) / 2)) (64 + ((bitLen n + 1) / 2))))]) (h := []) ?_
   obtain ⟨b1, b2, b3⟩ := bitLen_spec (n := n) (by omega)
   have hx0 : n < 2 ^ ((bitLen n + 1) / 2) * 2 ^ ((bitLen n + 1) / 2) := by
     rw [<- Nat.pow_add]; exact Nat.lt_of_lt_of_le b3 (Nat.pow_le_pow_right (by decide) (by omega))
   refine loop329 hn hB (by unfold LIM; omega) _ _ (rl _) (by rw [Nat.one_mul]; exact Nat.pow_pos (by decide)) ?_ ?_
   · rw [Nat.one_mul]
     exact Nat.lt_of_lt_of_le hx0 (Nat.mul_le_mul (Nat.le_succ _) (Nat.le_succ _))
   · rw [Nat.one_mul]
     exact Nat.pow_lt_pow_right (by decide) (by omega)
def sqB (x : Rat) : Bool := decide (isqrt x.num.natAbs * isqrt x.num.natAbs = x.num.natAbs /\ isqrt x.den * isqrt x.den = x.den)
def sqV (x : Rat) : Rat := mkRat (isqrt x.num.natAbs : Nat) (isqrt x.den)
def k301 : KF
 | [.agg [.q x B]] => some (.tup [.agg [.q (if sqB x then sqV x else 0) (B + 1)], .bool (sqB x)], [2 * B + 400 <= LIM])
 | _ => none
theorem a301 : Ctr 301 k301 := by
 refine ctr Tryz.f301 fun _ _ _ S w0 h ho => ?_
 unfold k301 at h; split at h <;> cases h; rename_i x B; have o1 := ho.one; have L := limE; have K := ((((kn.cons a329).cons a207).cons a115).cons a112).cons a111; have v0 : max B 64 + 1 <= LIM := by omega
 have v1 : (B + 1) + 300 <= LIM := by omega
 have v2 : B + B + 128 <= LIM := by omega
 have v3 : B + 300 <= LIM := by omega
 by_cases h1 : (cmpN ((isqrt x.num.natAbs) * (isqrt x.num.natAbs)) x.num.natAbs) = (0 : Int)
 · have v4 : (B + 1) + (B + 1) + 128 <= LIM := by omega
   by_cases h2 : (cmpN ((isqrt x.den) * (isqrt x.den)) x.den) = (0 : Int)
   · refine rF K [(21, ff), (29, ff), (32, .agg [.z (isqrt x.num.natAbs : Int) B])] (.c6 v3 v0 v1 v2 (jF h1) v4 (.a5 v0 (jF h2) (show Ref (.agg [.bool false, .nat (isqrt x.num.natAbs) B]) (.agg [.z (isqrt x.num.natAbs : Int) B]) by exact Ref.agg (RefC.mkz (rl _) (by simp) (by simp))) (show 0 < (isqrt x.den) by exact isqrt_pos x.den_pos) (om (max B (B + 1) + 128 <= LIM)))) (V := .tup [.agg [.q (mkRat (isqrt x.num.natAbs : Int) (isqrt x.den)) (max B (B + 1))], .bool true]) ?_
     have hs : sqB x = true := decide_eq_true ⟨cmpN_zero.1 h1, cmpN_zero.1 h2⟩; rw [hs]; exact Ref.tup2 (Ref.q1 rfl (by omega)) rr rfl rfl rfl rfl
   · refine rF K [(21, ff), (29, tt)] (.c6 v3 v0 v1 v2 (jF h1) v4 (.a2 v0 (jT h2))) (V := .tup [.agg [.q 0 0], .bool false]) ?_
     have hs : sqB x = false := decide_eq_false fun h => h2 (cmpN_zero.2 h.2)
     rw [hs]; exact Ref.tup2 (Ref.q1 rfl (by omega)) rr rfl rfl rfl rfl
 · refine rF K [(21, tt)] (.a5 v3 v0 v1 v2 (jT h1)) (V := .tup [.agg [.q 0 0], .bool false]) ?_
   have hs : sqB x = false := decide_eq_false fun h => h1 (cmpN_zero.2 h.1)
   rw [hs]; exact Ref.tup2 (Ref.q1 rfl (by omega)) rr rfl rfl rfl rfl
def k302 : KF
 | [.agg [.q x B]] => some (.agg [.q ((x.den : Int) : Rat) (B + 1)], [max B 64 + 1 <= LIM])
 | _ => none
theorem a302 : Ctr 302 k302 := by
 refine ctr Tryz.f302 fun _ _ _ S w0 h ho => ?_
 unfold k302 at h; split at h <;> cases h; rename_i x B; have o1 := ho.one; have L := limE; have K := (kn.cons a111).cons a108; exact rR K [(5, .agg [.z (x.den : Int) (B + 1)])] (.a2 o1 (show Ref (.agg [.bool false, .nat x.den (B + 1)]) (.agg [.z (x.den : Int) (B + 1)]) by exact Ref.agg (RefC.mkz (rl _) (by simp) (by simp))))
def k303 : KF
 | [.agg [.q x B]] => some (.agg [.q (x.num : Rat) B], [])
 | _ => none
theorem a303 : Ctr 303 k303 := by
 refine ctr Tryz.f303 fun _ _ _ S w0 h ho => ?_
 unfold k303 at h; split at h <;> cases h; rename_i x B; have K := kn.cons a108; exact rR K [] .nil
structure Sd where
 a : Rat
 b : Rat
 d : Rat
 deriving Inhabited
def nrm (s : Sd) : Sd := if s.b = 0 then ⟨s.a, 0, 0⟩ else if sqB s.d = true then ⟨s.a + s.b * sqV s.d, 0, 0⟩ else ⟨s.a, s.b / ((s.d.den : Int) : Rat), (s.d.num : Rat) * ((s.d.den : Int) : Rat)⟩
def k269 : KF
 | [.agg [.q a A, .q b B, .q d D]] => some (.agg [.q (nrm ⟨a, b, d⟩).a (A + B + D + 5), .q (nrm ⟨a, b, d⟩).b (B + D + 3), .q (nrm ⟨a, b, d⟩).d (2 * D + 3)], [A + B + 3 * D + 600 <= LIM])
 | _ => none
theorem a269 : Ctr 269 k269 := by
 refine ctr Tryz.f269 fun _ _ _ S w0 h ho => ?_
 unfold k269 at h; split at h <;> cases h; rename_i a A b B d D; have o1 := ho.one; have L := limE; have K := ((((((kn.cons a303).cons a302).cons a301).cons a116).cons a60).cons a29).cons a26
 by_cases h1 : (Int.sign b.num) = (0 : Int)
 · refine rF K [(8, tt)] (.a1 (iT h1)) (V := .agg [.q a A, .q 0 0, .q 0 0]) ?_
   have h0 : b = 0 := div_sgn0 h1; have hn : nrm ⟨a, b, d⟩ = ⟨a, 0, 0⟩ := by unfold nrm; rw [if_pos h0]
   rw [hn]; exact Ref.agg (RefC.cons qe (RefC.cons qe qe))
 · rcases Bool.eq_false_or_eq_true (sqB d) with h2 | h2
   · refine rF K [(8, ff), (18, tt)] (.a5 (iF h1) (om (2 * D + 400 <= LIM)) (show Ref (.bool (sqB d)) (.bool true) from Ref.bool h2) (om (B + (D + 1) + 200 <= LIM)) (om (A + (B + (D + 1) + 2) + 200 <= LIM))) (V := .agg [.q (a + (b * (if sqB d then sqV d else 0))) (A + (B + (D + 1) + 2) + 2), .q 0 0, .q 0 0]) ?_
     have h0 : b ≠ 0 := fun h => h1 (by rw [h]; rfl)
     have hn : nrm ⟨a, b, d⟩ = ⟨a + b * sqV d, 0, 0⟩ := by unfold nrm; rw [if_neg h0, if_pos h2]
     rw [hn, h2]; exact Ref.agg (RefC.cons qe (RefC.cons qe qe))
   · refine rF K [(8, ff), (18, ff)] (.c6 (iF h1) (om (2 * D + 400 <= LIM)) (show Ref (.bool (sqB d)) (.bool false) from Ref.bool h2) (om (max D 64 + 1 <= LIM)) (om (B + (D + 1) + 200 <= LIM)) (show ((d.den : Int) : Rat) ≠ 0 by exact fun h => d.den_nz (by have := Rat.intCast_eq_zero_iff.1 h; omega)) (.a2 (om (max D 64 + 1 <= LIM)) (om (D + (D + 1) + 200 <= LIM)))) (V := .agg [.q a A, .q (b / ((d.den : Int) : Rat)) (B + (D + 1) + 2), .q ((d.num : Rat) * ((d.den : Int) : Rat)) (D + (D + 1) + 2)]) ?_
     have h0 : b ≠ 0 := fun h => h1 (by rw [h]; rfl)
     have hn : nrm ⟨a, b, d⟩ = ⟨a, b / ((d.den : Int) : Rat), (d.num : Rat) * ((d.den : Int) : Rat)⟩ := by unfold nrm; rw [if_neg h0, if_neg (by rw [h2]; decide)]
     rw [hn]; exact Ref.agg (RefC.cons qe (RefC.cons qe qe))
def k219 : KF
 | [.agg [.q a A, .q b B, .q d D]] => some (.tup [.agg [.q ((if Int.sign d.num < 0 then (⟨0, 0, 0⟩ : Sd) else nrm ⟨a, b, d⟩)).a (A + B + D + 5), .q ((if Int.sign d.num < 0 then (⟨0, 0, 0⟩ : Sd) else nrm ⟨a, b, d⟩)).b (B + D + 3), .q ((if Int.sign d.num < 0 then (⟨0, 0, 0⟩ : Sd) else nrm ⟨a, b, d⟩)).d (2 * D + 3)], .int .i64 (if Int.sign d.num < 0 then 8 else 0)], [A + B + 3 * D + 600 <= LIM])
 | _ => none
theorem a219 : Ctr 219 k219 := by
 refine ctr Tryz.f219 fun _ _ _ S w0 h ho => ?_
 unfold k219 at h; split at h <;> cases h; rename_i a A b B d D; have o1 := ho.one; have L := limE; have K := (kn.cons a269).cons a60
 by_cases h1 : (Int.sign d.num) < (0 : Int)
 · refine rF K [(7, tt)] (.a1 (iT h1)) (V := .tup [.agg [.q 0 0, .q 0 0, .q 0 0], .i6 (8 : Int)]) ?_
   simp only [if_pos h1]; exact Ref.tup2 (Ref.agg (RefC.cons qe (RefC.cons qe qe))) rr rfl rfl rfl rfl
 · refine rF K [(7, ff)] (.a2 (iF h1) o1) (V := .tup [.agg [.q ((nrm ⟨a, b, d⟩).a) (A + B + D + 5), .q ((nrm ⟨a, b, d⟩).b) (B + D + 3), .q ((nrm ⟨a, b, d⟩).d) (2 * D + 3)], .i6 (0 : Int)]) ?_
   simp only [if_neg h1]; exact Ref.tup2 rr rr rfl rfl rfl rfl
def k131 : KF
 | [.agg [.q d D], .agg [.q a A, .q b B]] => some (.agg [.q ((if Int.sign d.num < 0 then (⟨0, 0, 0⟩ : Sd) else nrm ⟨a, b, d⟩)).a (A + B + D + 5), .q ((if Int.sign d.num < 0 then (⟨0, 0, 0⟩ : Sd) else nrm ⟨a, b, d⟩)).b (B + D + 3), .q ((if Int.sign d.num < 0 then (⟨0, 0, 0⟩ : Sd) else nrm ⟨a, b, d⟩)).d (2 * D + 3)], [A + B + 3 * D + 600 <= LIM])
 | _ => none
theorem a131 : Ctr 131 k131 := by
 refine ctr Tryz.f131 fun _ _ _ S w0 h ho => ?_
 unfold k131 at h; split at h <;> cases h; rename_i d D a A b B; have o1 := ho.one; have K := kn.cons a219; exact rR K [] (.a1 o1)
def k163 : KF
 | [.agg [.q px B, .q pz D], .agg [.q qx C, .q qz E]] => some (.agg [.q (px * qx + pz * qz) (B + D + C + E + 6)], [B + D + C + E + 300 <= LIM])
 | _ => none
theorem a163 : Ctr 163 k163 := by
 refine ctr Tryz.f163 fun _ _ _ S w0 h ho => ?_
 unfold k163 at h; split at h <;> cases h; rename_i px B pz D qx C qz E; have o1 := ho.one; have L := limE; have K := (kn.cons a29).cons a26; exact rF K [] (.a3 (om (B + C + 200 <= LIM)) (om (D + E + 200 <= LIM)) (om ((B + C + 2) + (D + E + 2) + 200 <= LIM))) (V := .agg [.q ((px * qx) + (pz * qz)) ((B + C + 2) + (D + E + 2) + 2)]) (Ref.q1 rfl (by omega))
theorem sgn_false (n : Nat) : sgn false n = n := rfl
theorem abs_num (x : Rat) : (x.num.natAbs : Int) = (if x < 0 then -x else x).num := by
 have h : x < 0 ↔ x.num < 0 := by rw [Rat.lt_iff]; simp
 by_cases k : x < 0
 · have a := h.1 k
   rw [if_pos k]; exact Int.ofNat_natAbs_of_nonpos (by omega)
 · have a : ¬ x.num < 0 := fun a => k (h.2 a)
   rw [if_neg k]; exact Int.natAbs_of_nonneg (by omega)
def k268 : KF
 | [.agg [.q x B]] => some (.agg [.q (if x < 0 then -x else x) B], [])
 | _ => none
theorem a268 : Ctr 268 k268 := by
 refine ctr Tryz.f268 fun _ _ _ S w0 h ho => ?_
 unfold k268 at h; split at h <;> cases h; rename_i x B; have K := kn.cons a109; refine rF K [] .nil (V := .agg [.z (sgn false x.num.natAbs) B, .nat (x.den - 1) B]) ?_
 refine Ref.agg (RefC.mkq (rl _) (rl _) ?_ ?_)
 · rw [sgn_false]; exact abs_num x
 · split <;> rfl
def KD213_ok := ((((((((kn.cons a269).cons a268).cons a116).cons a60).cons a59).cons a29).cons a28).cons a26).cons a25
def unSd (B : Nat) (s : Sd) : List AV := [.q s.a B, .q s.b B, .q s.d B]
def rootsS (a b c : Rat) : List Sd :=
 if a = 0 then (if b = 0 then [] else [⟨-(c / b), 0, 0⟩])
 else if b * b - 4 * a * c < 0 then []
 else if b * b - 4 * a * c = 0 then [⟨-(b / (a + a)), 0, 0⟩]
 else [nrm ⟨-(b / (a + a)), -(if 1 / (a + a) < 0 then -(1 / (a + a)) else 1 / (a + a)), b * b - 4 * a * c⟩, nrm ⟨-(b / (a + a)), if 1 / (a + a) < 0 then -(1 / (a + a)) else 1 / (a + a), b * b - 4 * a * c⟩]
def k213 : KF
 | [.agg [.q a A], .agg [.q b B], .agg [.q c C]] => some (.tup [.list 9 ((rootsS a b c).map (unSd (5 * A + 4 * B + 2 * C + 300))), .int .i64 (if a = 0 /\ b = 0 /\ c = 0 then 10 else 0)], [20 * A + 20 * B + 10 * C + 3000 <= LIM])
 | _ => none
abbrev d213_1 (a : Rat) (A : Nat) : ABlk := ⟨56, 3, false, [[.q (if ((1 : Rat) / (a + a)) < 0 then -((1 : Rat) / (a + a)) else ((1 : Rat) / (a + a))) (64 + (A + A + 2) + 2)]], none⟩
theorem a213 : Ctr 213 k213 := by
 refine ctr Tryz.f213 fun _ _ _ S w0 h ho => ?_
 unfold k213 at h; split at h <;> cases h; rename_i a A b B c C; have o1 := ho.one; have q1 : ∀ x : Rat, (Int.sign x.num) = (0 : Int) -> x = 0 := fun x => sgn_zero.1
 have q2 : ∀ x : Rat, ¬ ((Int.sign x.num) = (0 : Int)) -> x ≠ 0 := fun x h k => h (sgn_zero.2 k)
 have q3 : ∀ x : Rat, (Int.sign x.num) = (-1 : Int) -> x < 0 := fun x => sgn_lt.1
 have q4 : ∀ x : Rat, ¬ ((Int.sign x.num) = (-1 : Int)) -> ¬ x < 0 := fun x h k => h (sgn_lt.2 k)
 by_cases h1 : (Int.sign a.num) = (0 : Int)
 · by_cases h2 : (Int.sign b.num) = (0 : Int)
   · by_cases h3 : (Int.sign c.num) = (0 : Int)
     · refine rF KD213_ok [(11, ff), (15, ff), (25, ff)] (.a3 (jF h1) (jF h2) (jF h3)) (V := .tup [AV.nil, .i6 (10 : Int)]) ?_
       show Ref (AV.tup [AV.nil, (AV.int .i64 (10 : Int))]) (.tup [.list 9 ((rootsS a b c).map (unSd (5 * A + 4 * B + 2 * C + 300))), .i6 (if a = 0 /\ b = 0 /\ c = 0 then 10 else 0)]); rw [if_pos ⟨q1 _ h1, q1 _ h2, q1 _ h3⟩, show rootsS a b c = [] by unfold rootsS; rw [if_pos (q1 _ h1), if_pos (q1 _ h2)]]; exact Ref.tup2 Ref.nilL rr rfl rfl rfl rfl
     · refine rF KD213_ok [(11, ff), (15, ff), (25, tt)] (.a3 (jF h1) (jF h2) (jT h3)) (V := .tup [AV.nil, .i6 (0 : Int)]) ?_
       show Ref (AV.tup [AV.nil, (AV.int .i64 (0 : Int))]) (.tup [.list 9 ((rootsS a b c).map (unSd (5 * A + 4 * B + 2 * C + 300))), .i6 (if a = 0 /\ b = 0 /\ c = 0 then 10 else 0)]); rw [if_neg (fun h => q2 _ h3 h.2.2), show rootsS a b c = [] by unfold rootsS; rw [if_pos (q1 _ h1), if_pos (q1 _ h2)]]; exact Ref.tup2 Ref.nilL rr rfl rfl rfl rfl
   · refine gN KD213_ok [6, 7] [(11, ff), (15, tt)] (.a4 (jF h1) (jT h2) (om (C + B + 200 <= LIM)) (show b ≠ 0 by grind)) (t := [.code .ret, .inBlock 0, .code (nav [1, 1] (bodyOf Tryz.f213))]) (σ := slots 71 [(6, .own 7 9 0 1), (7, .i6 (0 : Int))]) (h := [some ⟨56, 3, false, [[.q a A]], none⟩, some ⟨56, 3, false, [[.q b B]], none⟩, some ⟨56, 3, false, [[.q c C]], none⟩, none, none, none, none, some ⟨106, 9, false, [[.q (-(c / b)) (C + B + 2), .q 0 0, .q 0 0]], none⟩]) ?_
     refine Good.freezeD (b := ⟨106, 9, false, [[(.q (-(c / b)) (C + B + 2)), (.q 0 0), (.q 0 0)]], none⟩) 7 (by rfl) (by rfl) (.oe (.a1 (dc (0 + 1 <= 1)))) .on ?_; refine gE [(AV.list 9 [[(AV.q (-(c / b)) (C + B + 2)), (AV.q 0 0), (AV.q 0 0)]]), (AV.int .i64 (0 : Int))] ?_; show Ref (AV.tup [(AV.list 9 [[(AV.q (-(c / b)) (C + B + 2)), (AV.q 0 0), (AV.q 0 0)]]), (AV.int .i64 (0 : Int))]) (.tup [.list 9 ((rootsS a b c).map (unSd (5 * A + 4 * B + 2 * C + 300))), .i6 (if a = 0 /\ b = 0 /\ c = 0 then 10 else 0)]); rw [if_neg (fun h => q2 _ h2 h.2.1), show rootsS a b c = [⟨-(c / b), 0, 0⟩] by unfold rootsS; rw [if_pos (q1 _ h1), if_neg (q2 _ h2)]]; exact Ref.tup2 (Ref.list1 (RefC.cons qe (RefC.cons qe qe))) rr rfl rfl rfl rfl
 · have v0 : A + A + 200 <= LIM := by omega
   have v1 : (B + B + 2) + ((64 + A + 2) + C + 2) + 200 <= LIM := by omega
   have v3 : (a + a) ≠ 0 := by grind
   have v4 : (-9223372036854775808 : Int) <= 4 := by decide
   have v5 : (-9223372036854775808 : Int) <= 1 := by decide
   have v6 : 4 <= (9223372036854775807 : Int) := by decide
   have v7 : 1 <= (9223372036854775807 : Int) := by decide
   have v8 : (64 + A + 2) + C + 200 <= LIM := by omega
   have v9 : 64 + (A + A + 2) + 200 <= LIM := by omega
   have v10 : B + (A + A + 2) + 200 <= LIM := by omega
   have v11 : 64 + A + 200 <= LIM := by omega
   have v12 : B + B + 200 <= LIM := by omega
   by_cases h2 : (Int.sign ((b * b) - (((4 : Rat) * a) * c)).num) = (-1 : Int)
   · refine rF KD213_ok [(11, tt), (52, tt)] (.c6 (jT h1) v12 v4 v6 v11 v8 (.c6 v1 v0 v10 v3 v5 v7 (.a4 v0 v9 v3 (iT h2)))) (V := .tup [AV.nil, .i6 (0 : Int)]) ?_
     show Ref (AV.tup [AV.nil, (AV.int .i64 (0 : Int))]) (.tup [.list 9 ((rootsS a b c).map (unSd (5 * A + 4 * B + 2 * C + 300))), .i6 (if a = 0 /\ b = 0 /\ c = 0 then 10 else 0)]); rw [if_neg (fun h => q2 _ h1 h.1), show rootsS a b c = [] by unfold rootsS; rw [if_neg (q2 _ h1), if_pos (q3 _ h2)]]; exact Ref.tup2 Ref.nilL rr rfl rfl rfl rfl
   · by_cases h3 : (Int.sign ((b * b) - (((4 : Rat) * a) * c)).num) = (0 : Int)
     · refine gN KD213_ok [6, 7] [(11, tt), (52, ff), (54, tt)] (.c6 (jT h1) v12 v4 v6 v11 v8 (.c6 v1 v0 v10 v3 v5 v7 (.a5 v0 v9 v3 (iF h2) (iT h3)))) (t := [.code .ret, .inBlock 1, .code (nav [1, 1, 1, 1, 1] (bodyOf Tryz.f213))]) (σ := slots 71 [(6, .own 20 9 0 1), (7, .i6 (0 : Int))]) (h := [some ⟨56, 3, false, [[.q a A]], none⟩, some ⟨56, 3, false, [[.q b B]], none⟩, some ⟨56, 3, false, [[.q c C]], none⟩, none, none, none, none, none, none, some ⟨56, 3, false, [[.q ((b * b) - (((4 : Rat) * a) * c)) ((B + B + 2) + ((64 + A + 2) + C + 2) + 2)]], none⟩, none, none, none, none, none, none, none, some ⟨56, 3, false, [[.q (-(b / (a + a))) (B + (A + A + 2) + 2)]], none⟩, some (d213_1 a A), none, some ⟨106, 9, false, [[.q (-(b / (a + a))) (B + (A + A + 2) + 2), .q 0 0, .q 0 0]], none⟩]) ?_
       refine Good.freezeD (b := ⟨106, 9, false, [[(.q (-(b / (a + a))) (B + (A + A + 2) + 2)), (.q 0 0), (.q 0 0)]], none⟩) 20 (by rfl) (by rfl) (.oe (.a1 (dc (0 + 1 <= 1)))) .on ?_; refine gE [(AV.list 9 [[(AV.q (-(b / (a + a))) (B + (A + A + 2) + 2)), (AV.q 0 0), (AV.q 0 0)]]), (AV.int .i64 (0 : Int))] ?_; show Ref (AV.tup [(AV.list 9 [[(AV.q (-(b / (a + a))) (B + (A + A + 2) + 2)), (AV.q 0 0), (AV.q 0 0)]]), (AV.int .i64 (0 : Int))]) (.tup [.list 9 ((rootsS a b c).map (unSd (5 * A + 4 * B + 2 * C + 300))), .i6 (if a = 0 /\ b = 0 /\ c = 0 then 10 else 0)]); rw [if_neg (fun h => q2 _ h1 h.1), show rootsS a b c = [⟨-(b / (a + a)), 0, 0⟩] by unfold rootsS; rw [if_neg (q2 _ h1), if_neg (q4 _ h2), if_pos (q1 _ h3)]]; exact Ref.tup2 (Ref.list1 (RefC.cons qe (RefC.cons qe qe))) rr rfl rfl rfl rfl
     · have v2 : (B + (A + A + 2) + 2) + (64 + (A + A + 2) + 2) + 3 * ((B + B + 2) + ((64 + A + 2) + C + 2) + 2) + 600 <= LIM := by omega
       refine gN KD213_ok [6, 7] [(11, tt), (52, ff), (54, ff)] (.c6 (jT h1) v12 v4 v6 v11 v8 (.c6 v1 v0 v10 v3 v5 v7 (.c6 v0 v9 v3 (iF h2) (iF h3) v2 (.a1 v2)))) (t := [.code .ret]) (σ := slots 71 [(6, .own 23 9 0 2), (7, .i6 (0 : Int))]) (h := [some ⟨56, 3, false, [[.q a A]], none⟩, some ⟨56, 3, false, [[.q b B]], none⟩, some ⟨56, 3, false, [[.q c C]], none⟩, none, none, none, none, none, none, some ⟨56, 3, false, [[.q ((b * b) - (((4 : Rat) * a) * c)) ((B + B + 2) + ((64 + A + 2) + C + 2) + 2)]], none⟩, none, none, none, none, none, none, none, some ⟨56, 3, false, [[.q (-(b / (a + a))) (B + (A + A + 2) + 2)]], none⟩, some (d213_1 a A), none, none, none, none, some ⟨106, 9, false, [[.q ((nrm ⟨(-(b / (a + a))), (-(if ((1 : Rat) / (a + a)) < 0 then -((1 : Rat) / (a + a)) else ((1 : Rat) / (a + a)))), ((b * b) - (((4 : Rat) * a) * c))⟩).a) ((B + (A + A + 2) + 2) + (64 + (A + A + 2) + 2) + ((B + B + 2) + ((64 + A + 2) + C + 2) + 2) + 5), .q ((nrm ⟨(-(b / (a + a))), (-(if ((1 : Rat) / (a + a)) < 0 then -((1 : Rat) / (a + a)) else ((1 : Rat) / (a + a)))), ((b * b) - (((4 : Rat) * a) * c))⟩).b) ((64 + (A + A + 2) + 2) + ((B + B + 2) + ((64 + A + 2) + C + 2) + 2) + 3), .q ((nrm ⟨(-(b / (a + a))), (-(if ((1 : Rat) / (a + a)) < 0 then -((1 : Rat) / (a + a)) else ((1 : Rat) / (a + a)))), ((b * b) - (((4 : Rat) * a) * c))⟩).d) (2 * ((B + B + 2) + ((64 + A + 2) + C + 2) + 2) + 3)], [.q ((nrm ⟨(-(b / (a + a))), (if ((1 : Rat) / (a + a)) < 0 then -((1 : Rat) / (a + a)) else ((1 : Rat) / (a + a))), ((b * b) - (((4 : Rat) * a) * c))⟩).a) ((B + (A + A + 2) + 2) + (64 + (A + A + 2) + 2) + ((B + B + 2) + ((64 + A + 2) + C + 2) + 2) + 5), .q ((nrm ⟨(-(b / (a + a))), (if ((1 : Rat) / (a + a)) < 0 then -((1 : Rat) / (a + a)) else ((1 : Rat) / (a + a))), ((b * b) - (((4 : Rat) * a) * c))⟩).b) ((64 + (A + A + 2) + 2) + ((B + B + 2) + ((64 + A + 2) + C + 2) + 2) + 3), .q ((nrm ⟨(-(b / (a + a))), (if ((1 : Rat) / (a + a)) < 0 then -((1 : Rat) / (a + a)) else ((1 : Rat) / (a + a))), ((b * b) - (((4 : Rat) * a) * c))⟩).d) (2 * ((B + B + 2) + ((64 + A + 2) + C + 2) + 2) + 3)]], none⟩]) ?_
       refine Good.freezeD (b := ⟨106, 9, false, [[(.q ((nrm ⟨(-(b / (a + a))), (-(if ((1 : Rat) / (a + a)) < 0 then -((1 : Rat) / (a + a)) else ((1 : Rat) / (a + a)))), ((b * b) - (((4 : Rat) * a) * c))⟩).a) ((B + (A + A + 2) + 2) + (64 + (A + A + 2) + 2) + ((B + B + 2) + ((64 + A + 2) + C + 2) + 2) + 5)), (.q ((nrm ⟨(-(b / (a + a))), (-(if ((1 : Rat) / (a + a)) < 0 then -((1 : Rat) / (a + a)) else ((1 : Rat) / (a + a)))), ((b * b) - (((4 : Rat) * a) * c))⟩).b) ((64 + (A + A + 2) + 2) + ((B + B + 2) + ((64 + A + 2) + C + 2) + 2) + 3)), (.q ((nrm ⟨(-(b / (a + a))), (-(if ((1 : Rat) / (a + a)) < 0 then -((1 : Rat) / (a + a)) else ((1 : Rat) / (a + a)))), ((b * b) - (((4 : Rat) * a) * c))⟩).d) (2 * ((B + B + 2) + ((64 + A + 2) + C + 2) + 2) + 3))], [(.q ((nrm ⟨(-(b / (a + a))), (if ((1 : Rat) / (a + a)) < 0 then -((1 : Rat) / (a + a)) else ((1 : Rat) / (a + a))), ((b * b) - (((4 : Rat) * a) * c))⟩).a) ((B + (A + A + 2) + 2) + (64 + (A + A + 2) + 2) + ((B + B + 2) + ((64 + A + 2) + C + 2) + 2) + 5)), (.q ((nrm ⟨(-(b / (a + a))), (if ((1 : Rat) / (a + a)) < 0 then -((1 : Rat) / (a + a)) else ((1 : Rat) / (a + a))), ((b * b) - (((4 : Rat) * a) * c))⟩).b) ((64 + (A + A + 2) + 2) + ((B + B + 2) + ((64 + A + 2) + C + 2) + 2) + 3)), (.q ((nrm ⟨(-(b / (a + a))), (if ((1 : Rat) / (a + a)) < 0 then -((1 : Rat) / (a + a)) else ((1 : Rat) / (a + a))), ((b * b) - (((4 : Rat) * a) * c))⟩).d) (2 * ((B + B + 2) + ((64 + A + 2) + C + 2) + 2) + 3))]], none⟩) 23 (by rfl) (by rfl) (.oe (.a1 (dc (0 + 2 <= 2)))) .on ?_
       refine gE [(AV.list 9 [[(AV.q ((nrm ⟨(-(b / (a + a))), (-(if ((1 : Rat) / (a + a)) < 0 then -((1 : Rat) / (a + a)) else ((1 : Rat) / (a + a)))), ((b * b) - (((4 : Rat) * a) * c))⟩).a) ((B + (A + A + 2) + 2) + (64 + (A + A + 2) + 2) + ((B + B + 2) + ((64 + A + 2) + C + 2) + 2) + 5)), (AV.q ((nrm ⟨(-(b / (a + a))), (-(if ((1 : Rat) / (a + a)) < 0 then -((1 : Rat) / (a + a)) else ((1 : Rat) / (a + a)))), ((b * b) - (((4 : Rat) * a) * c))⟩).b) ((64 + (A + A + 2) + 2) + ((B + B + 2) + ((64 + A + 2) + C + 2) + 2) + 3)), (AV.q ((nrm ⟨(-(b / (a + a))), (-(if ((1 : Rat) / (a + a)) < 0 then -((1 : Rat) / (a + a)) else ((1 : Rat) / (a + a)))), ((b * b) - (((4 : Rat) * a) * c))⟩).d) (2 * ((B + B + 2) + ((64 + A + 2) + C + 2) + 2) + 3))], [(AV.q ((nrm ⟨(-(b / (a + a))), (if ((1 : Rat) / (a + a)) < 0 then -((1 : Rat) / (a + a)) else ((1 : Rat) / (a + a))), ((b * b) - (((4 : Rat) * a) * c))⟩).a) ((B + (A + A + 2) + 2) + (64 + (A + A + 2) + 2) + ((B + B + 2) + ((64 + A + 2) + C + 2) + 2) + 5)), (AV.q ((nrm ⟨(-(b / (a + a))), (if ((1 : Rat) / (a + a)) < 0 then -((1 : Rat) / (a + a)) else ((1 : Rat) / (a + a))), ((b * b) - (((4 : Rat) * a) * c))⟩).b) ((64 + (A + A + 2) + 2) + ((B + B + 2) + ((64 + A + 2) + C + 2) + 2) + 3)), (AV.q ((nrm ⟨(-(b / (a + a))), (if ((1 : Rat) / (a + a)) < 0 then -((1 : Rat) / (a + a)) else ((1 : Rat) / (a + a))), ((b * b) - (((4 : Rat) * a) * c))⟩).d) (2 * ((B + B + 2) + ((64 + A + 2) + C + 2) + 2) + 3))]]), (AV.int .i64 (0 : Int))] ?_; show Ref (AV.tup [(AV.list 9 [[(AV.q ((nrm ⟨(-(b / (a + a))), (-(if ((1 : Rat) / (a + a)) < 0 then -((1 : Rat) / (a + a)) else ((1 : Rat) / (a + a)))), ((b * b) - (((4 : Rat) * a) * c))⟩).a) ((B + (A + A + 2) + 2) + (64 + (A + A + 2) + 2) + ((B + B + 2) + ((64 + A + 2) + C + 2) + 2) + 5)), (AV.q ((nrm ⟨(-(b / (a + a))), (-(if ((1 : Rat) / (a + a)) < 0 then -((1 : Rat) / (a + a)) else ((1 : Rat) / (a + a)))), ((b * b) - (((4 : Rat) * a) * c))⟩).b) ((64 + (A + A + 2) + 2) + ((B + B + 2) + ((64 + A + 2) + C + 2) + 2) + 3)), (AV.q ((nrm ⟨(-(b / (a + a))), (-(if ((1 : Rat) / (a + a)) < 0 then -((1 : Rat) / (a + a)) else ((1 : Rat) / (a + a)))), ((b * b) - (((4 : Rat) * a) * c))⟩).d) (2 * ((B + B + 2) + ((64 + A + 2) + C + 2) + 2) + 3))], [(AV.q ((nrm ⟨(-(b / (a + a))), (if ((1 : Rat) / (a + a)) < 0 then -((1 : Rat) / (a + a)) else ((1 : Rat) / (a + a))), ((b * b) - (((4 : Rat) * a) * c))⟩).a) ((B + (A + A + 2) + 2) + (64 + (A + A + 2) + 2) + ((B + B + 2) + ((64 + A + 2) + C + 2) + 2) + 5)), (AV.q ((nrm ⟨(-(b / (a + a))), (if ((1 : Rat) / (a + a)) < 0 then -((1 : Rat) / (a + a)) else ((1 : Rat) / (a + a))), ((b * b) - (((4 : Rat) * a) * c))⟩).b) ((64 + (A + A + 2) + 2) + ((B + B + 2) + ((64 + A + 2) + C + 2) + 2) + 3)), (AV.q ((nrm ⟨(-(b / (a + a))), (if ((1 : Rat) / (a + a)) < 0 then -((1 : Rat) / (a + a)) else ((1 : Rat) / (a + a))), ((b * b) - (((4 : Rat) * a) * c))⟩).d) (2 * ((B + B + 2) + ((64 + A + 2) + C + 2) + 2) + 3))]]), (AV.int .i64 (0 : Int))]) (.tup [.list 9 ((rootsS a b c).map (unSd (5 * A + 4 * B + 2 * C + 300))), .i6 (if a = 0 /\ b = 0 /\ c = 0 then 10 else 0)])
       rw [show (if a = 0 /\ b = 0 /\ c = 0 then (10 : Int) else 0) = 0 from if_neg (fun h => q2 _ h1 h.1), show rootsS a b c = [nrm ⟨-(b / (a + a)), -(if 1 / (a + a) < 0 then -(1 / (a + a)) else 1 / (a + a)), b * b - 4 * a * c⟩, nrm ⟨-(b / (a + a)), if 1 / (a + a) < 0 then -(1 / (a + a)) else 1 / (a + a), b * b - 4 * a * c⟩] by unfold rootsS; rw [if_neg (q2 _ h1), if_neg (q4 _ h2), if_neg (q2 _ h3)]]; exact Ref.tup2 (Ref.list2 (RefC.cons qe (RefC.cons qe qe)) (RefC.cons qe (RefC.cons qe qe))) rr rfl rfl rfl rfl
def sgnS (a b d : Rat) : Int := if 0 <= Int.sign a.num * (Int.sign b.num * Int.sign d.num) then (if Int.sign a.num ≠ 0 then Int.sign a.num else Int.sign b.num * Int.sign d.num) else Int.sign a.num * cmpQ (a * a) (b * b * d)
theorem sign_b (n : Int) : -1 <= Int.sign n /\ Int.sign n <= 1 := by
 rcases Int.lt_trichotomy n 0 with h | h | h
 · rw [Int.sign_eq_neg_one_of_neg h]; omega
 · rw [h]; decide
 · rw [Int.sign_eq_one_of_pos h]; omega
theorem mul_b {x y : Int} (hx : -1 <= x /\ x <= 1) (hy : -1 <= y /\ y <= 1) : -1 <= x * y /\ x * y <= 1 := by
 have : x = -1 \/ x = 0 \/ x = 1 := by omega
 rcases this with rfl | rfl | rfl <;> omega
theorem cmpQ_b (x y : Rat) : -1 <= cmpQ x y /\ cmpQ x y <= 1 := by unfold cmpQ; split <;> (try split) <;> omega
theorem sgnS_b (a b d : Rat) : -1 <= sgnS a b d /\ sgnS a b d <= 1 := by
 unfold sgnS; have h1 := sign_b a.num; have h2 := mul_b (sign_b b.num) (sign_b d.num)
 split
 · split
   · exact h1
   · exact h2
 · exact mul_b h1 (cmpQ_b _ _)
def k271 : KF
 | [.agg [.q a A, .q b B, .q d D]] => some (.int .i64 (sgnS a b d), [2 * A + 2 * B + D + 600 <= LIM])
 | _ => none
theorem a271 : Ctr 271 k271 := by
 refine ctr Tryz.f271 fun _ _ _ S w0 h ho => ?_
 unfold k271 at h; split at h <;> cases h; rename_i a A b B d D; have o1 := ho.one; have L := limE; have K := ((kn.cons a104).cons a60).cons a29; have s1 := sign_b a.num; have s2 := mul_b (sign_b b.num) (sign_b d.num); have s3 := mul_b s1 s2; have s4 := mul_b s1 (cmpQ_b (a * a) (b * b * d))
 by_cases h1 : (0 : Int) <= ((Int.sign a.num) * ((Int.sign b.num) * (Int.sign d.num)))
 · by_cases h2 : (Int.sign a.num) = (0 : Int)
   · exact rF K [(14, .i6 ((Int.sign b.num) * (Int.sign d.num))), (17, .i6 ((Int.sign a.num) * ((Int.sign b.num) * (Int.sign d.num)))), (18, tt), (20, ff)] (.a4 (wI ((Int.sign b.num) * (Int.sign d.num)) ((Int.sign b.num) * (Int.sign d.num))) (wI ((Int.sign a.num) * ((Int.sign b.num) * (Int.sign d.num))) ((Int.sign a.num) * ((Int.sign b.num) * (Int.sign d.num)))) (iT h1) (jF h2)) (V := .i6 ((Int.sign b.num) * (Int.sign d.num))) (Ref.int (by unfold sgnS; rw [if_pos h1, if_neg (fun h => h h2)]))
   · exact rF K [(14, .i6 ((Int.sign b.num) * (Int.sign d.num))), (17, .i6 ((Int.sign a.num) * ((Int.sign b.num) * (Int.sign d.num)))), (18, tt), (20, tt)] (.a4 (wI ((Int.sign b.num) * (Int.sign d.num)) ((Int.sign b.num) * (Int.sign d.num))) (wI ((Int.sign a.num) * ((Int.sign b.num) * (Int.sign d.num))) ((Int.sign a.num) * ((Int.sign b.num) * (Int.sign d.num)))) (iT h1) (jT h2)) (V := .i6 (Int.sign a.num)) (Ref.int (by unfold sgnS; rw [if_pos h1, if_pos h2]))
 · exact rF K [(14, .i6 ((Int.sign b.num) * (Int.sign d.num))), (17, .i6 ((Int.sign a.num) * ((Int.sign b.num) * (Int.sign d.num)))), (18, ff), (38, .i6 ((Int.sign a.num) * (cmpQ (a * a) ((b * b) * d))))] (.c6 (wI ((Int.sign b.num) * (Int.sign d.num)) ((Int.sign b.num) * (Int.sign d.num))) (wI ((Int.sign a.num) * ((Int.sign b.num) * (Int.sign d.num))) ((Int.sign a.num) * ((Int.sign b.num) * (Int.sign d.num)))) (iF h1) (om (A + A + 200 <= LIM)) (om (B + B + 200 <= LIM)) (om ((B + B + 2) + D + 200 <= LIM)) (.a2 (om ((A + A + 2) + ((B + B + 2) + D + 2) + 200 <= LIM)) (wI ((Int.sign a.num) * (cmpQ (a * a) ((b * b) * d))) ((Int.sign a.num) * (cmpQ (a * a) ((b * b) * d)))))) (V := .i6 ((Int.sign a.num) * (cmpQ (a * a) ((b * b) * d)))) (Ref.int (by unfold sgnS; rw [if_neg h1]))
def k270 : KF
 | [.agg [.q a A, .q b B, .q d D]] => some (.tup [.int .i64 (if Int.sign d.num < 0 then 0 else sgnS a b d), .int .i64 (if Int.sign d.num < 0 then 8 else 0)], [2 * A + 2 * B + D + 600 <= LIM])
 | _ => none
theorem a270 : Ctr 270 k270 := by
 refine ctr Tryz.f270 fun _ _ _ S w0 h ho => ?_
 unfold k270 at h; split at h <;> cases h; rename_i a A b B d D; have o1 := ho.one; have K := (kn.cons a271).cons a60
 by_cases h1 : (Int.sign d.num) < (0 : Int)
 · refine rF K [(7, tt)] (.a1 (iT h1)) (V := .tup [.i6 (0 : Int), .i6 (8 : Int)]) ?_
   simp only [if_pos h1]; exact rr
 · refine rF K [(7, ff)] (.a2 (iF h1) o1) (V := .tup [.i6 (sgnS a b d), .i6 (0 : Int)]) ?_
   simp only [if_neg h1]; exact rr
def k215 : KF
 | [.agg [.q d D], .agg [.q a A, .q b B]] => some (.bool (decide ((if Int.sign d.num < 0 then 0 else sgnS a b d) = 0)), [2 * A + 2 * B + D + 600 <= LIM])
 | _ => none
theorem a215 : Ctr 215 k215 := by
 refine ctr Tryz.f215 fun _ _ _ S w0 h ho => ?_
 unfold k215 at h; split at h <;> cases h; rename_i d D a A b B; have o1 := ho.one; have K := kn.cons a270; exact rR K [] (.a1 o1)
def cmpS (a b d c e f : Rat) : Int :=
 if sgnS (a - c) b d < Int.sign e.num * Int.sign f.num then -1 else if Int.sign e.num * Int.sign f.num < sgnS (a - c) b d then 1 else if sgnS (a - c) b d = 0 then 0 else
   sgnS (a - c) b d * sgnS ((a - c) * (a - c) + b * b * d - e * e * f) ((a - c) * b + (a - c) * b) d
def k220 : KF
 | [.agg [.q a A, .q b B, .q d D], .agg [.q c C, .q e E, .q f W]] => some (.int .i64 (cmpS a b d c e f), [8 * A + 8 * C + 8 * B + 4 * D + 4 * E + 2 * W + 2000 <= LIM])
 | _ => none
theorem a220 : Ctr 220 k220 := by
 refine ctr Tryz.f220 fun _ _ _ S w0 h ho => ?_
 unfold k220 at h; split at h <;> cases h; rename_i a A b B d D c C e E f W; have o1 := ho.one; have L := limE; have K := ((((kn.cons a271).cons a60).cons a29).cons a28).cons a26; have s1 := sgnS_b (a - c) b d; have s2 := mul_b (sign_b e.num) (sign_b f.num); have s3 := mul_b s1 (sgnS_b ((a - c) * (a - c) + b * b * d - e * e * f) ((a - c) * b + (a - c) * b) d); have v0 : 2 * (A + C + 2) + 2 * B + D + 600 <= LIM := by omega
 have v1 : A + C + 200 <= LIM := by omega
 by_cases h1 : (sgnS (a - c) b d) < ((Int.sign e.num) * (Int.sign f.num))
 · exact rF K [(23, .i6 ((Int.sign e.num) * (Int.sign f.num))), (24, tt)] (.a4 v1 v0 (wI ((Int.sign e.num) * (Int.sign f.num)) ((Int.sign e.num) * (Int.sign f.num))) (iT h1)) (V := .i6 (-1 : Int)) (Ref.int (by unfold cmpS; rw [if_pos h1]))
 · by_cases h2 : ((Int.sign e.num) * (Int.sign f.num)) < (sgnS (a - c) b d)
   · exact rF K [(23, .i6 ((Int.sign e.num) * (Int.sign f.num))), (24, ff), (28, tt)] (.a5 v1 v0 (wI ((Int.sign e.num) * (Int.sign f.num)) ((Int.sign e.num) * (Int.sign f.num))) (iF h1) (iT h2)) (V := .i6 (1 : Int)) (Ref.int (by unfold cmpS; rw [if_neg h1, if_pos h2]))
   · by_cases h3 : (sgnS (a - c) b d) = (0 : Int)
     · exact rF K [(23, .i6 ((Int.sign e.num) * (Int.sign f.num))), (24, ff), (28, ff), (32, tt)] (.a6 v1 v0 (wI ((Int.sign e.num) * (Int.sign f.num)) ((Int.sign e.num) * (Int.sign f.num))) (iF h1) (iF h2) (iT h3)) (V := .i6 (0 : Int)) (Ref.int (by unfold cmpS; rw [if_neg h1, if_neg h2, if_pos h3]))
     · exact rF K [(23, .i6 ((Int.sign e.num) * (Int.sign f.num))), (24, ff), (28, ff), (32, ff), (72, .i6 ((sgnS (a - c) b d) * (sgnS ((((a - c) * (a - c)) + ((b * b) * d)) - ((e * e) * f)) (((a - c) * b) + ((a - c) * b)) d)))] (.c6 v1 v0 (wI ((Int.sign e.num) * (Int.sign f.num)) ((Int.sign e.num) * (Int.sign f.num))) (iF h1) (iF h2) (iF h3) (.c6 (om ((A + C + 2) + B + 200 <= LIM)) (om ((A + C + 2) + (A + C + 2) + 200 <= LIM)) (om (B + B + 200 <= LIM)) (om ((B + B + 2) + D + 200 <= LIM)) (om (((A + C + 2) + (A + C + 2) + 2) + ((B + B + 2) + D + 2) + 200 <= LIM)) (om (E + E + 200 <= LIM)) (.a5 (om ((E + E + 2) + W + 200 <= LIM)) (om ((((A + C + 2) + (A + C + 2) + 2) + ((B + B + 2) + D + 2) + 2) + ((E + E + 2) + W + 2) + 200 <= LIM)) (om (((A + C + 2) + B + 2) + ((A + C + 2) + B + 2) + 200 <= LIM)) (om (2 * ((((A + C + 2) + (A + C + 2) + 2) + ((B + B + 2) + D + 2) + 2) + ((E + E + 2) + W + 2) + 2) + 2 * (((A + C + 2) + B + 2) + ((A + C + 2) + B + 2) + 2) + D + 600 <= LIM)) (wI ((sgnS (a - c) b d) * (sgnS ((((a - c) * (a - c)) + ((b * b) * d)) - ((e * e) * f)) (((a - c) * b) + ((a - c) * b)) d)) ((sgnS (a - c) b d) * (sgnS ((((a - c) * (a - c)) + ((b * b) * d)) - ((e * e) * f)) (((a - c) * b) + ((a - c) * b)) d)))))) (V := .i6 ((sgnS (a - c) b d) * (sgnS ((((a - c) * (a - c)) + ((b * b) * d)) - ((e * e) * f)) (((a - c) * b) + ((a - c) * b)) d))) (Ref.int (by unfold cmpS; rw [if_neg h1, if_neg h2, if_neg h3]))
def cmpX (d f : Rat) : Int := if Int.sign d.num < 0 \/ Int.sign f.num < 0 then 8 else 0
def cmpC (a b d c e f : Rat) : Int := if Int.sign d.num < 0 \/ Int.sign f.num < 0 then 0 else cmpS a b d c e f
def k132 : KF
 | [.agg [.q a A, .q b B, .q d D], .agg [.q c C, .q e E, .q f W]] => some (.tup [.int .i64 (cmpC a b d c e f), .int .i64 (cmpX d f)], [8 * A + 8 * C + 8 * B + 4 * D + 4 * E + 2 * W + 2000 <= LIM])
 | _ => none
theorem a132 : Ctr 132 k132 := by
 refine ctr Tryz.f132 fun _ _ _ S w0 h ho => ?_
 unfold k132 at h; split at h <;> cases h; rename_i a A b B d D c C e E f W; have o1 := ho.one; have K := (kn.cons a220).cons a60
 by_cases h1 : (Int.sign d.num) < (0 : Int)
 · refine rF K [(10, tt)] (.a1 (iT h1)) (V := .tup [.i6 (0 : Int), .i6 (8 : Int)]) ?_
   simp only [cmpC, cmpX, if_pos (Or.inl h1)]; exact rr
 · by_cases h2 : (Int.sign f.num) < (0 : Int)
   · refine rF K [(10, ff), (15, tt)] (.a2 (iF h1) (iT h2)) (V := .tup [.i6 (0 : Int), .i6 (8 : Int)]) ?_
     simp only [cmpC, cmpX, if_pos (Or.inr h2)]; exact rr
   · refine rF K [(10, ff), (15, ff)] (.a3 (iF h1) (iF h2) o1) (V := .tup [.i6 (cmpS a b d c e f), .i6 (0 : Int)]) ?_
     simp only [cmpC, cmpX, if_neg (not_or.2 ⟨h1, h2⟩)]; exact rr
def withinB (lo hi : Rat) (t : Sd) : Bool := decide (0 <= cmpC t.a t.b t.d lo 0 0 /\ cmpC t.a t.b t.d hi 0 0 <= 0)
def k218 : KF
 | [.agg [.str nm, .int .i64 pr, .q bx B1, .q bz B2, .q ma B3, .q ie B4, .q cx B5, .q cz B6, .q lo B7, .q hi B8, .list 6 SH], .agg [.q a A, .q b B, .q d D]] => some (.bool (withinB lo hi ⟨a, b, d⟩), [8 * A + 8 * B7 + 8 * B8 + 8 * B + 4 * D + 2000 <= LIM])
 | _ => none
theorem a218 : Ctr 218 k218 := by
 refine ctr Tryz.f218 fun _ _ _ S w0 h ho => ?_
 unfold k218 at h; split at h <;> cases h; rename_i nm pr bx B1 bz B2 ma B3 ie B4 cx B5 cz B6 lo B7 hi B8 SH a A b B d D; have o1 := ho.one; have L := limE; have K := kn.cons a132; have v0 : 8 * A + 8 * B7 + 8 * B + 4 * D + 4 * 0 + 2 * 0 + 2000 <= LIM := by omega
 have v1 : 8 * A + 8 * B8 + 8 * B + 4 * D + 4 * 0 + 2 * 0 + 2000 <= LIM := by omega
 by_cases h1 : (0 : Int) <= (cmpC a b d lo 0 0)
 · exact rF K [(27, tt)] (.a3 v0 v1 (iT h1)) (V := .bool (decide ((cmpC a b d hi 0 0) <= (0 : Int)))) (Ref.bool (by unfold withinB; simp [h1]))
 · exact rF K [(27, ff)] (.a3 v0 v1 (iF h1)) (V := .bool false) (Ref.bool (by unfold withinB; simp [h1]))
def KT122_ok := ((((((((((((((((((kn.cons a218).cons a217).cons a216).cons a215).cons a214).cons a213).cons a212).cons a211).cons a163).cons a131).cons a130).cons a128).cons a126).cons a125).cons a124).cons a60).cons a29).cons a28).cons a26
end Go.Av
