/- Plain laws of the flattened curves: ends, reversal, the bound of the error. No walk. -/
import Derived.Test.YtkepeihlggkadaaFlatP
namespace Go.Proofs.Ytkepeihlggkadaa

theorem nearV_mul (m c : Int) (hm : 1 ≤ m) : nearV (m * c) m = c := by
  unfold nearV
  have e : 2 * (m * c) + m = m + 2 * m * c := by grind
  rw [e, Int.add_mul_ediv_left _ _ (by omega)]
  rw [Int.ediv_eq_zero_of_lt (by omega) (by omega)]
  omega

theorem nearV_bounds (x m : Int) (hm : 1 ≤ m) : 2 * m * nearV x m ≤ 2 * x + m ∧ 2 * x + m < 2 * m * nearV x m + 2 * m := by
  unfold nearV
  have e := Int.mul_ediv_add_emod (2 * x + m) (2 * m)
  have h0 := Int.emod_nonneg (2 * x + m) (b := 2 * m) (by omega)
  have h1 := Int.emod_lt_of_pos (2 * x + m) (b := 2 * m) (by omega)
  omega

theorem qv_start (n a b c : Int) (hn : 1 ≤ n) : qv 0 n a b c = a := by
  unfold qv
  have h : 1 ≤ n * n := by have := Int.mul_le_mul hn hn (by omega) (show 0 ≤ n by omega); omega
  rw [show (n - 0) * (n - 0) * a + 2 * 0 * (n - 0) * b + 0 * 0 * c = n * n * a by grind]
  exact nearV_mul _ _ h
theorem qv_end (n a b c : Int) (hn : 1 ≤ n) : qv n n a b c = c := by
  unfold qv
  have h : 1 ≤ n * n := by have := Int.mul_le_mul hn hn (by omega) (show 0 ≤ n by omega); omega
  rw [show (n - n) * (n - n) * a + 2 * n * (n - n) * b + n * n * c = n * n * c by grind]
  exact nearV_mul _ _ h
theorem qv_rev (i n a b c : Int) : qv (n - i) n c b a = qv i n a b c := by
  unfold qv
  congr 1
  grind
theorem cube_pos (n : Int) (hn : 1 ≤ n) : 1 ≤ n * n * n := by
  have h : 1 ≤ n * n := by have := Int.mul_le_mul hn hn (by omega) (show 0 ≤ n by omega); omega
  have := Int.mul_le_mul h hn (by omega) (show 0 ≤ n * n by omega)
  omega
theorem cv_start (n a b c d : Int) (hn : 1 ≤ n) : cv 0 n a b c d = a := by
  unfold cv
  rw [show (n - 0) * (n - 0) * (n - 0) * a + 3 * 0 * (n - 0) * (n - 0) * b + 3 * 0 * 0 * (n - 0) * c + 0 * 0 * 0 * d = n * n * n * a by grind]
  exact nearV_mul _ _ (cube_pos n hn)
theorem cv_end (n a b c d : Int) (hn : 1 ≤ n) : cv n n a b c d = d := by
  unfold cv
  rw [show (n - n) * (n - n) * (n - n) * a + 3 * n * (n - n) * (n - n) * b + 3 * n * n * (n - n) * c + n * n * n * d = n * n * n * d by grind]
  exact nearV_mul _ _ (cube_pos n hn)
theorem cv_rev (i n a b c d : Int) : cv (n - i) n d c b a = cv i n a b c d := by
  unfold cv
  congr 1
  grind

theorem sqD_rev (a b c : Int × Int) : sqD c b a = sqD a b c := by unfold sqD; grind

theorem parV_rev (i n : Int) (h0 : 0 ≤ i) (h1 : i ≤ n) : parV (n - i) n = parV i n := by
  rw [Bool.eq_iff_iff, parV_iff, parV_iff]; omega
theorem okAll3_rev (a b c : Int × Int) : okAll [c, b, a] = okAll [a, b, c] := by
  simp only [okAll, List.all_cons, List.all_nil, Bool.and_true]
  cases okPt a.1 a.2 <;> cases okPt b.1 b.2 <;> cases okPt c.1 c.2 <;> rfl
theorem okAll4_rev (a b c d : Int × Int) : okAll [d, c, b, a] = okAll [a, b, c, d] := by
  simp only [okAll, List.all_cons, List.all_nil, Bool.and_true]
  cases okPt a.1 a.2 <;> cases okPt b.1 b.2 <;> cases okPt c.1 c.2 <;> cases okPt d.1 d.2 <;> rfl

theorem piecesV_congr {n m tol : Int} {ps qs : List (Int × Int)} (h : n = m) (ho : okAll ps = okAll qs) : piecesV n tol ps = piecesV m tol qs := by
  unfold piecesV
  rw [h, ho]
theorem quadSegV_rev (a b c : Int × Int) (tol : Int) : quadSegV c b a tol = quadSegV a b c tol := piecesV_congr (sqD_rev a b c) (okAll3_rev a b c)
theorem cubicSegV_rev (a b c d : Int × Int) (tol : Int) : cubicSegV d c b a tol = cubicSegV a b c d tol :=
  piecesV_congr (by rw [sqD_rev b c d, sqD_rev a b c, Int.max_comm]) (okAll4_rev a b c d)

theorem quadAtV_rev (a b c : Int × Int) (i n : Int) (h0 : 0 ≤ i) (h1 : i ≤ n) : quadAtV c b a (n - i) n = quadAtV a b c i n := by
  unfold quadAtV MayB
  rw [parV_rev i n h0 h1, okAll3_rev, qv_rev, qv_rev]
theorem cubicAtV_rev (a b c d : Int × Int) (i n : Int) (h0 : 0 ≤ i) (h1 : i ≤ n) : cubicAtV d c b a (n - i) n = cubicAtV a b c d i n := by
  unfold cubicAtV MayB
  rw [parV_rev i n h0 h1, okAll4_rev, cv_rev, cv_rev]

/-- No error: the points are valid, the number of segments is from 1 to 64. -/
theorem piecesV_good (need tol : Int) (ps : List (Int × Int)) (h : (piecesV need tol ps).2 = 0) :
    okAll ps = true ∧ 1 ≤ tol ∧ tol ≤ 256 ∧ ∃ k : Nat, (piecesV need tol ps).1 = (k : Int) ∧ 1 ≤ k ∧ k ≤ 64 ∧ least need tol 1 64 = some k := by
  unfold piecesV at h ⊢
  split at h
  · cases h
  · split at h
    · cases h
    · rename_i h1 h2
      rw [if_neg h1, if_neg h2]
      split at h
      · rename_i k hk
        have := least_range _ _ _ _ _ hk
        exact ⟨by simpa using h2, by omega, by omega, k, rfl, by omega, by omega, hk⟩
      · cases h

theorem least_sat (need tol : Int) (k f j : Nat) (h : least need tol k f = some j) : need ≤ 16 * j * j * j * j * tol * tol := by
  induction f generalizing k with
  | zero => cases h
  | succ f ih =>
    rw [least] at h
    split at h
    · injection h with h; subst h; assumption
    · exact ih _ h

/-- A larger number of segments or tolerance serves where a smaller one does. -/
theorem bound_mono (j : Nat) (t u : Int) (h1 : 1 ≤ t) (h : t ≤ u) : 16 * (j : Int) * j * j * j * t * t ≤ 16 * (j : Int) * j * j * j * u * u := by
  have hj : 0 ≤ 16 * (j : Int) * j * j * j := by
    have a : 0 ≤ 16 * (j : Int) * j := Int.mul_nonneg (by omega) (by omega)
    exact Int.mul_nonneg (Int.mul_nonneg a (by omega)) (by omega)
  have a := Int.mul_le_mul_of_nonneg_left h hj
  have b : 0 ≤ 16 * (j : Int) * j * j * j * u := Int.mul_nonneg hj (by omega)
  exact Int.mul_le_mul a h (by omega) b

theorem least_mono (need t u : Int) (h1 : 1 ≤ t) (h : t ≤ u) (k f i j : Nat) (hi : least need t k f = some i) (hj : least need u k f = some j) : j ≤ i := by
  induction f generalizing k with
  | zero => cases hi
  | succ f ih =>
    rw [least] at hi hj
    split at hj
    · injection hj with hj
      subst hj
      split at hi
      · injection hi with hi; omega
      · have := least_range _ _ _ _ _ hi; omega
    · rename_i hn
      split at hi
      · rename_i hy
        exact absurd (Int.le_trans hy (bound_mono k t u h1 h)) hn
      · exact ih _ hi hj

end Go.Proofs.Ytkepeihlggkadaa
