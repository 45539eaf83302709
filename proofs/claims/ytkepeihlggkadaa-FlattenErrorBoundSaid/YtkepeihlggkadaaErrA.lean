/- Plain part of FlattenErrorBound: the curve at the middle of a segment is near the segment's middle; the ends; fewer segments at a larger tolerance. No walk. -/
import Derived.Test.YtkepeihlggkadaaPureA
namespace Go.Proofs.Ytkepeihlggkadaa

/-- The middle of a segment and the point of the curve: what rounding leaves. -/
theorem mid_bound (N f m a b t Xm Xa Xb : Int) (hN : 1 ≤ N) (hf : f = 4 ∨ f = 8)
    (hm : 2 * (f * N) * m ≤ 2 * Xm + f * N ∧ 2 * Xm + f * N < 2 * (f * N) * m + 2 * (f * N)) (ha : 2 * N * a ≤ 2 * Xa + N ∧ 2 * Xa + N < 2 * N * a + 2 * N) (hb : 2 * N * b ≤ 2 * Xb + N ∧ 2 * Xb + N < 2 * N * b + 2 * N)
    (hD : 2 * Xm - f * Xa - f * Xb ≤ 2 * f * (N * t) ∧ -(2 * f * (N * t)) ≤ 2 * Xm - f * Xa - f * Xb) : 2 * m - a - b ≤ 2 * t + 2 ∧ -(2 * m - a - b) ≤ 2 * t + 2 := by
  have e1 : 2 * (f * N) * m = f * (2 * (N * m)) := by grind
  have e2 : 2 * N * a = 2 * (N * a) := by grind
  have e3 : 2 * N * b = 2 * (N * b) := by grind
  rw [e1] at hm
  rw [e2] at ha
  rw [e3] at hb
  have k1 : N * (2 * m - a - b) < N * (2 * t + 3) := by
    have : N * (2 * m - a - b) = 2 * (N * m) - N * a - N * b := by grind
    have : N * (2 * t + 3) = 2 * (N * t) + 3 * N := by grind
    rcases hf with rfl | rfl <;> omega
  have k2 : N * (-(2 * m - a - b)) < N * (2 * t + 3) := by
    have : N * (-(2 * m - a - b)) = -(2 * (N * m)) + N * a + N * b := by grind
    have : N * (2 * t + 3) = 2 * (N * t) + 3 * N := by grind
    rcases hf with rfl | rfl <;> omega
  have := Int.lt_of_mul_lt_mul_left k1 (by omega)
  have := Int.lt_of_mul_lt_mul_left k2 (by omega)
  omega

theorem abs_of_sq (x y : Int) (hy : 0 ≤ y) (h : x * x ≤ y * y) : x ≤ y ∧ -x ≤ y := by
  constructor
  · rcases Int.lt_or_le y x with h1 | h1
    · have := Int.mul_self_lt_mul_self hy h1; omega
    · exact h1
  · rcases Int.lt_or_le y (-x) with h1 | h1
    · have := Int.mul_self_lt_mul_self hy h1
      rw [Int.neg_mul_neg] at this
      omega
    · exact h1

theorem qv_mid (i n a b c t : Int) (hn : 1 ≤ n) (ht : 0 ≤ t) (hD : (a - 2 * b + c) * (a - 2 * b + c) ≤ 16 * n * n * n * n * t * t) :
    2 * qv (2 * i + 1) (2 * n) a b c - qv i n a b c - qv (i + 1) n a b c ≤ 2 * t + 2 ∧ -(2 * qv (2 * i + 1) (2 * n) a b c - qv i n a b c - qv (i + 1) n a b c) ≤ 2 * t + 2 := by
  have hN : 1 ≤ n * n := by have := Int.mul_le_mul hn hn (by omega) (show 0 ≤ n by omega); omega
  have hy : 0 ≤ 4 * (n * n * t) := by have := Int.mul_nonneg (show 0 ≤ n * n by omega) ht; omega
  have hd := abs_of_sq (a - 2 * b + c) (4 * (n * n * t)) hy (by
    have : 4 * (n * n * t) * (4 * (n * n * t)) = 16 * n * n * n * n * t * t := by grind
    omega)
  unfold qv
  have b1 := nearV_bounds ((2 * n - (2 * i + 1)) * (2 * n - (2 * i + 1)) * a + 2 * (2 * i + 1) * (2 * n - (2 * i + 1)) * b + (2 * i + 1) * (2 * i + 1) * c) (4 * (n * n)) (by omega)
  have b2 := nearV_bounds ((n - i) * (n - i) * a + 2 * i * (n - i) * b + i * i * c) (n * n) hN
  have b3 := nearV_bounds ((n - (i + 1)) * (n - (i + 1)) * a + 2 * (i + 1) * (n - (i + 1)) * b + (i + 1) * (i + 1) * c) (n * n) hN
  rw [show 2 * n * (2 * n) = 4 * (n * n) by grind]
  refine mid_bound (n * n) 4 _ _ _ t _ _ _ hN (.inl rfl) b1 b2 b3 ?_
  have e : 2 * ((2 * n - (2 * i + 1)) * (2 * n - (2 * i + 1)) * a + 2 * (2 * i + 1) * (2 * n - (2 * i + 1)) * b + (2 * i + 1) * (2 * i + 1) * c) - 4 * ((n - i) * (n - i) * a + 2 * i * (n - i) * b + i * i * c) - 4 * ((n - (i + 1)) * (n - (i + 1)) * a + 2 * (i + 1) * (n - (i + 1)) * b + (i + 1) * (i + 1) * c) = -2 * (a - 2 * b + c) := by grind
  rw [e]
  omega

theorem mul_abs (x y p Y : Int) (hp : 0 ≤ p) (h1 : y ≤ Y) (h2 : -y ≤ Y) (hx : x = p * y) : x ≤ p * Y ∧ -x ≤ p * Y := by
  subst hx
  have a := Int.mul_le_mul_of_nonneg_left h1 hp
  have b := Int.mul_le_mul_of_nonneg_left h2 hp
  rw [Int.mul_neg] at b
  exact ⟨a, b⟩

theorem cv_mid (i n a b c d t : Int) (hi : 0 ≤ i) (hin : i < n) (ht : 0 ≤ t) (hD : 9 * ((a - 2 * b + c) * (a - 2 * b + c)) ≤ 16 * n * n * n * n * t * t) (hE : 9 * ((b - 2 * c + d) * (b - 2 * c + d)) ≤ 16 * n * n * n * n * t * t) :
    2 * cv (2 * i + 1) (2 * n) a b c d - cv i n a b c d - cv (i + 1) n a b c d ≤ 2 * t + 2 ∧ -(2 * cv (2 * i + 1) (2 * n) a b c d - cv i n a b c d - cv (i + 1) n a b c d) ≤ 2 * t + 2 := by
  have hn : 1 ≤ n := by omega
  have hN2 : 1 ≤ n * n := by have := Int.mul_le_mul hn hn (by omega) (show 0 ≤ n by omega); omega
  have hN := cube_pos n hn
  have hy : 0 ≤ 4 * (n * n * t) := by have := Int.mul_nonneg (show 0 ≤ n * n by omega) ht; omega
  have e4 : 4 * (n * n * t) * (4 * (n * n * t)) = 16 * n * n * n * n * t * t := by grind
  have hd := abs_of_sq (3 * (a - 2 * b + c)) (4 * (n * n * t)) hy (by
    have : 3 * (a - 2 * b + c) * (3 * (a - 2 * b + c)) = 9 * ((a - 2 * b + c) * (a - 2 * b + c)) := by grind
    omega)
  have he := abs_of_sq (3 * (b - 2 * c + d)) (4 * (n * n * t)) hy (by
    have : 3 * (b - 2 * c + d) * (3 * (b - 2 * c + d)) = 9 * ((b - 2 * c + d) * (b - 2 * c + d)) := by grind
    omega)
  have m1 := mul_abs _ _ (2 * n - 2 * i - 1) _ (by omega) hd.1 hd.2 rfl
  have m2 := mul_abs _ _ (2 * i + 1) _ (by omega) he.1 he.2 rfl
  have e5 : (2 * n - 2 * i - 1) * (4 * (n * n * t)) + (2 * i + 1) * (4 * (n * n * t)) = 8 * (n * n * n * t) := by grind
  unfold cv
  have b1 := nearV_bounds ((2 * n - (2 * i + 1)) * (2 * n - (2 * i + 1)) * (2 * n - (2 * i + 1)) * a + 3 * (2 * i + 1) * (2 * n - (2 * i + 1)) * (2 * n - (2 * i + 1)) * b + 3 * (2 * i + 1) * (2 * i + 1) * (2 * n - (2 * i + 1)) * c + (2 * i + 1) * (2 * i + 1) * (2 * i + 1) * d) (8 * (n * n * n)) (by omega)
  have b2 := nearV_bounds ((n - i) * (n - i) * (n - i) * a + 3 * i * (n - i) * (n - i) * b + 3 * i * i * (n - i) * c + i * i * i * d) (n * n * n) hN
  have b3 := nearV_bounds ((n - (i + 1)) * (n - (i + 1)) * (n - (i + 1)) * a + 3 * (i + 1) * (n - (i + 1)) * (n - (i + 1)) * b + 3 * (i + 1) * (i + 1) * (n - (i + 1)) * c + (i + 1) * (i + 1) * (i + 1) * d) (n * n * n) hN
  rw [show 2 * n * (2 * n) * (2 * n) = 8 * (n * n * n) by grind]
  refine mid_bound (n * n * n) 8 _ _ _ t _ _ _ hN (.inr rfl) b1 b2 b3 ?_
  have e : 2 * ((2 * n - (2 * i + 1)) * (2 * n - (2 * i + 1)) * (2 * n - (2 * i + 1)) * a + 3 * (2 * i + 1) * (2 * n - (2 * i + 1)) * (2 * n - (2 * i + 1)) * b + 3 * (2 * i + 1) * (2 * i + 1) * (2 * n - (2 * i + 1)) * c + (2 * i + 1) * (2 * i + 1) * (2 * i + 1) * d) - 8 * ((n - i) * (n - i) * (n - i) * a + 3 * i * (n - i) * (n - i) * b + 3 * i * i * (n - i) * c + i * i * i * d) - 8 * ((n - (i + 1)) * (n - (i + 1)) * (n - (i + 1)) * a + 3 * (i + 1) * (n - (i + 1)) * (n - (i + 1)) * b + 3 * (i + 1) * (i + 1) * (n - (i + 1)) * c + (i + 1) * (i + 1) * (i + 1) * d) = -2 * ((2 * n - 2 * i - 1) * (3 * (a - 2 * b + c)) + (2 * i + 1) * (3 * (b - 2 * c + d))) := by grind
  rw [e]
  omega

/-- The law's measure: the largest absolute coordinate of 2 m - a - b. -/
def devV (m a b : Int × Int) : Int := max (max (2 * m.1 - a.1 - b.1) (-(2 * m.1 - a.1 - b.1))) (max (2 * m.2 - a.2 - b.2) (-(2 * m.2 - a.2 - b.2)))

theorem sq_nonneg (x : Int) : 0 ≤ x * x := by
  rcases Int.le_total 0 x with h | h
  · exact Int.mul_nonneg h h
  · have := Int.mul_nonneg (a := -x) (b := -x) (by omega) (by omega)
    rwa [Int.neg_mul_neg] at this

theorem sqD_le (a b c : Int × Int) (z : Int) (h : sqD a b c ≤ z) :
    (a.1 - 2 * b.1 + c.1) * (a.1 - 2 * b.1 + c.1) ≤ z ∧ (a.2 - 2 * b.2 + c.2) * (a.2 - 2 * b.2 + c.2) ≤ z := by
  unfold sqD at h
  have := sq_nonneg (a.1 - 2 * b.1 + c.1)
  have := sq_nonneg (a.2 - 2 * b.2 + c.2)
  omega

theorem mayB_of {ps : List (Int × Int)} {i n : Int} (h : okAll ps = true) (h1 : 1 ≤ n) (h2 : n ≤ 64) (h3 : 0 ≤ i) (h4 : i ≤ n) : MayB ps i n = true := by
  unfold MayB
  rw [h, (parV_iff i n).2 ⟨h1, h2, h3, h4⟩]; rfl

theorem quad_dev (a b c : Int × Int) (tol : Int) (n : Nat) (hn : quadSegV a b c tol = ((n : Int), 0)) (h32 : n ≤ 32) (i : Nat) (hi : i < n) :
    devV (quadAtV a b c (2 * (i : Int) + 1) (2 * (n : Int))) (quadAtV a b c i n) (quadAtV a b c ((i : Int) + 1) n) ≤ 2 * tol + 2 := by
  obtain ⟨ok, t1, t2, k, hk, k1, k2, hl⟩ := piecesV_good (sqD a b c) tol [a, b, c] (congrArg Prod.snd hn)
  obtain rfl : k = n := by have : (n : Int) = k := by rw [← hk]; exact (congrArg Prod.fst hn).symm
                           omega
  have hs := least_sat _ _ _ _ _ hl
  obtain ⟨d1, d2⟩ := sqD_le a b c _ hs
  unfold quadAtV
  rw [if_pos (mayB_of ok (by omega) (by omega) (by omega) (by omega)), if_pos (mayB_of ok (by omega) (by omega) (by omega) (by omega)), if_pos (mayB_of ok (by omega) (by omega) (by omega) (by omega))]
  have m1 := qv_mid i k a.1 b.1 c.1 tol (by omega) (by omega) d1
  have m2 := qv_mid i k a.2 b.2 c.2 tol (by omega) (by omega) d2
  unfold devV
  simp only
  omega

theorem cubic_dev (a b c d : Int × Int) (tol : Int) (n : Nat) (hn : cubicSegV a b c d tol = ((n : Int), 0)) (h32 : n ≤ 32) (i : Nat) (hi : i < n) :
    devV (cubicAtV a b c d (2 * (i : Int) + 1) (2 * (n : Int))) (cubicAtV a b c d i n) (cubicAtV a b c d ((i : Int) + 1) n) ≤ 2 * tol + 2 := by
  obtain ⟨ok, t1, t2, k, hk, k1, k2, hl⟩ := piecesV_good (9 * max (sqD a b c) (sqD b c d)) tol [a, b, c, d] (congrArg Prod.snd hn)
  obtain rfl : k = n := by have : (n : Int) = k := by rw [← hk]; exact (congrArg Prod.fst hn).symm
                           omega
  have hs := least_sat _ _ _ _ _ hl
  have e1 : 9 * sqD a b c ≤ 16 * k * k * k * k * tol * tol := by omega
  have e2 : 9 * sqD b c d ≤ 16 * k * k * k * k * tol * tol := by omega
  have n1 := sqD_le a b c _ (Int.le_refl _)
  have n2 := sqD_le b c d _ (Int.le_refl _)
  unfold cubicAtV
  rw [if_pos (mayB_of ok (by omega) (by omega) (by omega) (by omega)), if_pos (mayB_of ok (by omega) (by omega) (by omega) (by omega)), if_pos (mayB_of ok (by omega) (by omega) (by omega) (by omega))]
  have m1 := cv_mid i k a.1 b.1 c.1 d.1 tol (by omega) (by omega) (by omega) (by omega) (by omega)
  have m2 := cv_mid i k a.2 b.2 c.2 d.2 tol (by omega) (by omega) (by omega) (by omega) (by omega)
  unfold devV
  simp only
  omega

theorem quad_ends (a b c : Int × Int) (tol : Int) (n : Nat) (hn : quadSegV a b c tol = ((n : Int), 0)) : quadAtV a b c 0 n = a ∧ quadAtV a b c n n = c := by
  obtain ⟨ok, t1, t2, k, hk, k1, k2, hl⟩ := piecesV_good (sqD a b c) tol [a, b, c] (congrArg Prod.snd hn)
  obtain rfl : k = n := by have : (n : Int) = k := by rw [← hk]; exact (congrArg Prod.fst hn).symm
                           omega
  unfold quadAtV
  rw [if_pos (mayB_of ok (by omega) (by omega) (by omega) (by omega)), if_pos (mayB_of ok (by omega) (by omega) (by omega) (by omega))]
  rw [qv_start _ _ _ _ (by omega), qv_start _ _ _ _ (by omega), qv_end _ _ _ _ (by omega), qv_end _ _ _ _ (by omega)]
  exact ⟨rfl, rfl⟩
theorem cubic_ends (a b c d : Int × Int) (tol : Int) (n : Nat) (hn : cubicSegV a b c d tol = ((n : Int), 0)) : cubicAtV a b c d 0 n = a ∧ cubicAtV a b c d n n = d := by
  obtain ⟨ok, t1, t2, k, hk, k1, k2, hl⟩ := piecesV_good (9 * max (sqD a b c) (sqD b c d)) tol [a, b, c, d] (congrArg Prod.snd hn)
  obtain rfl : k = n := by have : (n : Int) = k := by rw [← hk]; exact (congrArg Prod.fst hn).symm
                           omega
  unfold cubicAtV
  rw [if_pos (mayB_of ok (by omega) (by omega) (by omega) (by omega)), if_pos (mayB_of ok (by omega) (by omega) (by omega) (by omega))]
  rw [cv_start _ _ _ _ _ (by omega), cv_start _ _ _ _ _ (by omega), cv_end _ _ _ _ _ (by omega), cv_end _ _ _ _ _ (by omega)]
  exact ⟨rfl, rfl⟩

/-- A larger tolerance never needs more segments. -/
theorem pieces_mono (need tol more : Int) (ps : List (Int × Int)) (h : tol ≤ more) (h1 : (piecesV need tol ps).2 = 0) (h2 : (piecesV need more ps).2 = 0) : (piecesV need more ps).1 ≤ (piecesV need tol ps).1 := by
  obtain ⟨ok, t1, t2, k, hk, k1, k2, hl⟩ := piecesV_good need tol ps h1
  obtain ⟨_, _, _, j, hj, j1, j2, hl2⟩ := piecesV_good need more ps h2
  have := least_mono need tol more t1 h 1 64 k j hl hl2
  omega
end Go.Proofs.Ytkepeihlggkadaa
