/- The law's deviation; bounds of the curves' points. -/
import Derived.Test.YtkepeihlggkadaaErrA
namespace Go.Proofs.Ytkepeihlggkadaa
open Go.RowKit
attribute [local go_sem ↓] Go.wp_at_zero Go.wp_at_succ run_eql_point run_neq_point run_max_ii run_min_ii

/-- A point whose coordinates are small. -/
def Bd (p : Int × Int) : Prop := (-4398046511104 ≤ p.1 ∧ p.1 ≤ 4398046511104) ∧ (-4398046511104 ≤ p.2 ∧ p.2 ≤ 4398046511104)

theorem nearV_coarse (x m : Int) (hm : 1 ≤ m) (h1 : -3000000000000 ≤ x) (h2 : x ≤ 3000000000000) : -4398046511104 ≤ nearV x m ∧ nearV x m ≤ 4398046511104 := by
  obtain ⟨b1, b2⟩ := nearV_bounds x m hm
  have e : ∀ v : Int, 0 ≤ v → v ≤ m * v := fun v hv => by
    have := Int.mul_le_mul_of_nonneg_right hm hv
    omega
  rw [Int.mul_assoc] at b1 b2
  constructor
  · rcases Int.lt_or_le (nearV x m) (-1) with h5 | h5
    · have h3 := e (-(nearV x m)) (by omega)
      rw [Int.mul_neg] at h3
      have h6 := Int.mul_le_mul_of_nonneg_left (show nearV x m ≤ -2 by omega) (show (0 : Int) ≤ m by omega)
      generalize m * nearV x m = z at *
      omega
    · omega
  · rcases Int.lt_or_le 1 (nearV x m) with h5 | h5
    · have h3 := e (nearV x m) (by omega)
      have h6 := Int.mul_le_mul_of_nonneg_left (show 2 ≤ nearV x m by omega) (show (0 : Int) ≤ m by omega)
      generalize m * nearV x m = z at *
      omega
    · omega

theorem dev_any (m a b : Int × Int) (w : World) (hm : Bd m) (ha : Bd a) (hb : Bd b) :
    Calls Try.prog 21 #[.agg #[.int .i64 m.1, .int .i64 m.2], .agg #[.int .i64 a.1, .int .i64 a.2], .agg #[.int .i64 b.1, .int .i64 b.2]] w fun e w' =>
      e = .returned (.int .i64 (devV m a b)) ∧ Ext w w' := by
  obtain ⟨m1, m2⟩ := m
  obtain ⟨a1, a2⟩ := a
  obtain ⟨b1, b2⟩ := b
  unfold Bd at hm ha hb
  unfold devV
  simp only at hm ha hb ⊢
  have i1 : IntKind.i64.wrap (2 * m1) = 2 * m1 := IntWalk.i64_in _ (by omega)
  have i2 : IntKind.i64.wrap (2 * m1 - a1) = 2 * m1 - a1 := IntWalk.i64_in _ (by omega)
  have i3 : IntKind.i64.wrap (2 * m1 - a1 - b1) = 2 * m1 - a1 - b1 := IntWalk.i64_in _ (by omega)
  have i4 : IntKind.i64.wrap (2 * m2) = 2 * m2 := IntWalk.i64_in _ (by omega)
  have i5 : IntKind.i64.wrap (2 * m2 - a2) = 2 * m2 - a2 := IntWalk.i64_in _ (by omega)
  have i6 : IntKind.i64.wrap (2 * m2 - a2 - b2) = 2 * m2 - a2 - b2 := IntWalk.i64_in _ (by omega)
  go_enter Try.func21, Try.ntmps21
  go_wp2_with fail
  go_quiet (fail)
  clear i1 i2 i3 i4 i5 i6
  go_wp2_with fail
  go_ret
  refine ⟨ret_int (by omega), by repeat (first | exact Ext.refl _ | apply Ext.alloc | apply Ext.drew | apply Ext.drewN)⟩
theorem Bd.zero : Bd (0, 0) := by unfold Bd; simp

theorem quadAtV_bd (a b c : Int × Int) (i n : Int) : Bd (quadAtV a b c i n) := by
  unfold quadAtV
  split
  · rename_i hm
    have ho : okAll [a, b, c] = true ∧ parV i n = true := by unfold MayB at hm; simpa using hm
    have bi := (parV_iff i n).1 ho.2
    have hb : ((-1048576 ≤ a.1 ∧ a.1 ≤ 1048576) ∧ -1048576 ≤ a.2 ∧ a.2 ≤ 1048576) ∧ ((-1048576 ≤ b.1 ∧ b.1 ≤ 1048576) ∧ -1048576 ≤ b.2 ∧ b.2 ≤ 1048576) ∧ ((-1048576 ≤ c.1 ∧ c.1 ≤ 1048576) ∧ -1048576 ≤ c.2 ∧ c.2 ≤ 1048576) := by
      simpa [okAll, okPt_iff] using ho.1
    have q1 := qbounds i (n - i) n a.1 b.1 c.1 (by omega) (by omega) (by omega) (by omega) (by omega) (by omega)
    have q2 := qbounds i (n - i) n a.2 b.2 c.2 (by omega) (by omega) (by omega) (by omega) (by omega) (by omega)
    unfold Bd qv
    exact ⟨nearV_coarse _ _ (by omega) (by omega) (by omega), nearV_coarse _ _ (by omega) (by omega) (by omega)⟩
  · exact Bd.zero
theorem cubicAtV_bd (a b c d : Int × Int) (i n : Int) : Bd (cubicAtV a b c d i n) := by
  unfold cubicAtV
  split
  · rename_i hm
    have ho : okAll [a, b, c, d] = true ∧ parV i n = true := by unfold MayB at hm; simpa using hm
    have bi := (parV_iff i n).1 ho.2
    have hb : ((-1048576 ≤ a.1 ∧ a.1 ≤ 1048576) ∧ -1048576 ≤ a.2 ∧ a.2 ≤ 1048576) ∧ ((-1048576 ≤ b.1 ∧ b.1 ≤ 1048576) ∧ -1048576 ≤ b.2 ∧ b.2 ≤ 1048576) ∧ ((-1048576 ≤ c.1 ∧ c.1 ≤ 1048576) ∧ -1048576 ≤ c.2 ∧ c.2 ≤ 1048576) ∧ ((-1048576 ≤ d.1 ∧ d.1 ≤ 1048576) ∧ -1048576 ≤ d.2 ∧ d.2 ≤ 1048576) := by
      simpa [okAll, okPt_iff] using ho.1
    have q1 := cbounds i (n - i) n a.1 b.1 c.1 d.1 (by omega) (by omega) (by omega) (by omega) (by omega) (by omega) (by omega)
    have q2 := cbounds i (n - i) n a.2 b.2 c.2 d.2 (by omega) (by omega) (by omega) (by omega) (by omega) (by omega) (by omega)
    unfold Bd cv
    exact ⟨nearV_coarse _ _ (by omega) (by omega) (by omega), nearV_coarse _ _ (by omega) (by omega) (by omega)⟩
  · exact Bd.zero

theorem piecesV_form (need tol : Int) (ps : List (Int × Int)) : ∃ N : Nat, N ≤ 64 ∧ (piecesV need tol ps).1 = (N : Int) := by
  unfold piecesV
  split
  · exact ⟨0, by omega, rfl⟩
  · split
    · exact ⟨0, by omega, rfl⟩
    · split
      · rename_i k hk
        have := least_range _ _ _ _ _ hk
        exact ⟨k, by omega, rfl⟩
      · exact ⟨0, by omega, rfl⟩

/-- What the law wants to know of a quadratic curve's segments. -/
def QF (a b c : Int × Int) (tol : Int) (N : Nat) (e : Int) : Prop :=
  quadSegV a b c tol = ((N : Int), e) ∧ N ≤ 64 ∧ (e = 0 → (quadAtV a b c 0 N = a ∧ quadAtV a b c N N = c) ∧ 1 ≤ tol ∧ tol ≤ 256 ∧ 1 ≤ N ∧
    (N ≤ 32 → ∀ i : Nat, i < N → devV (quadAtV a b c (2 * (i : Int) + 1) (2 * (N : Int))) (quadAtV a b c i N) (quadAtV a b c ((i : Int) + 1) N) ≤ 2 * tol + 2))
def CF (a b c d : Int × Int) (tol : Int) (N : Nat) (e : Int) : Prop :=
  cubicSegV a b c d tol = ((N : Int), e) ∧ N ≤ 64 ∧ (e = 0 → (cubicAtV a b c d 0 N = a ∧ cubicAtV a b c d N N = d) ∧ 1 ≤ tol ∧ tol ≤ 256 ∧ 1 ≤ N ∧
    (N ≤ 32 → ∀ i : Nat, i < N → devV (cubicAtV a b c d (2 * (i : Int) + 1) (2 * (N : Int))) (cubicAtV a b c d i N) (cubicAtV a b c d ((i : Int) + 1) N) ≤ 2 * tol + 2))

theorem qfacts (a b c : Int × Int) (tol : Int) : ∃ N e, QF a b c tol N e := by
  obtain ⟨N, hN, h1⟩ := piecesV_form (sqD a b c) tol [a, b, c]
  refine ⟨N, (quadSegV a b c tol).2, Prod.ext h1 rfl, hN, fun he => ?_⟩
  have hs : quadSegV a b c tol = ((N : Int), 0) := Prod.ext h1 he
  obtain ⟨_, t1, t2, k, hk, k1, k2, _⟩ := piecesV_good (sqD a b c) tol [a, b, c] he
  have : (N : Int) = k := by rw [← hk]; exact h1.symm
  exact ⟨quad_ends a b c tol N hs, t1, t2, by omega, fun h32 i hi => quad_dev a b c tol N hs h32 i hi⟩
theorem cfacts (a b c d : Int × Int) (tol : Int) : ∃ N e, CF a b c d tol N e := by
  obtain ⟨N, hN, h1⟩ := piecesV_form (9 * max (sqD a b c) (sqD b c d)) tol [a, b, c, d]
  refine ⟨N, (cubicSegV a b c d tol).2, Prod.ext h1 rfl, hN, fun he => ?_⟩
  have hs : cubicSegV a b c d tol = ((N : Int), 0) := Prod.ext h1 he
  obtain ⟨_, t1, t2, k, hk, k1, k2, _⟩ := piecesV_good (9 * max (sqD a b c) (sqD b c d)) tol [a, b, c, d] he
  have : (N : Int) = k := by rw [← hk]; exact h1.symm
  exact ⟨cubic_ends a b c d tol N hs, t1, t2, by omega, fun h32 i hi => cubic_dev a b c d tol N hs h32 i hi⟩
theorem qmono {a b c : Int × Int} {tol more : Int} {N M : Nat} {e f : Int} (h : QF a b c tol N e) (h2 : QF a b c more M f) : tol ≤ more → e = 0 → f = 0 → M ≤ N := by
  intro ht he hf
  have p1 : piecesV (sqD a b c) tol [a, b, c] = ((N : Int), e) := h.1
  have p2 : piecesV (sqD a b c) more [a, b, c] = ((M : Int), f) := h2.1
  have := pieces_mono (sqD a b c) tol more [a, b, c] ht (by rw [p1]; exact he) (by rw [p2]; exact hf)
  rw [p1, p2] at this
  simp only at this
  omega
theorem cmono {a b c d : Int × Int} {tol more : Int} {N M : Nat} {e f : Int} (h : CF a b c d tol N e) (h2 : CF a b c d more M f) : tol ≤ more → e = 0 → f = 0 → M ≤ N := by
  intro ht he hf
  have p1 : piecesV (9 * max (sqD a b c) (sqD b c d)) tol [a, b, c, d] = ((N : Int), e) := h.1
  have p2 : piecesV (9 * max (sqD a b c) (sqD b c d)) more [a, b, c, d] = ((M : Int), f) := h2.1
  have := pieces_mono (9 * max (sqD a b c) (sqD b c d)) tol more [a, b, c, d] ht (by rw [p1]; exact he) (by rw [p2]; exact hf)
  rw [p1, p2] at this
  simp only at this
  omega
end Go.Proofs.Ytkepeihlggkadaa
