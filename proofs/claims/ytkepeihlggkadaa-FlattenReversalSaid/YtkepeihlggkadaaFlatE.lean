/- The reference's QuadSegments, CubicSegments; the rounded quotients. -/
import Derived.Test.YtkepeihlggkadaaFlatD
namespace Go.Proofs.Ytkepeihlggkadaa
open Go.RowKit
attribute [local go_sem ↓] Go.wp_at_zero Go.wp_at_succ run_eql_point run_neq_point run_max_ii run_min_ii

theorem rquadSeg_any (a b c : Int × Int) (tol : Int) (w : World) :
    Calls Try.prog 13 #[.agg #[.int .i64 a.1, .int .i64 a.2, .int .i64 b.1, .int .i64 b.2, .int .i64 c.1, .int .i64 c.2], .int .i64 tol] w fun e w' =>
      e = .returned (.tuple #[.int .i64 (quadSegV a b c tol).1, .int .i64 (quadSegV a b c tol).2]) ∧ Ext w w' := by
  go_enter Try.func13, Try.ntmps13
  go_wp2_with (go_at_call 50; refine (segs3 a b c tol _ 3 _ (pts3 (by simp) (by simp) (by simp) (by simp) (by simp) (by simp))).mono ?_; rintro e w' ⟨rfl, hb⟩)
  go_ret2
  exact ⟨rfl, (((Ext.refl _).alloc _).alloc _).trans ‹_›⟩

theorem rcubicSeg_any (a b c d : Int × Int) (tol : Int) (w : World) :
    Calls Try.prog 15 #[.agg #[.int .i64 a.1, .int .i64 a.2, .int .i64 b.1, .int .i64 b.2, .int .i64 c.1, .int .i64 c.2, .int .i64 d.1, .int .i64 d.2], .int .i64 tol] w fun e w' =>
      e = .returned (.tuple #[.int .i64 (cubicSegV a b c d tol).1, .int .i64 (cubicSegV a b c d tol).2]) ∧ Ext w w' := by
  go_enter Try.func15, Try.ntmps15
  go_wp2_with (go_at_call 50; refine (segs4 a b c d tol _ 4 _ (pts4 (by simp) (by simp) (by simp) (by simp) (by simp) (by simp) (by simp) (by simp))).mono ?_; rintro e w' ⟨rfl, hb⟩)
  go_ret2
  exact ⟨rfl, (((Ext.refl _).alloc _).alloc _).trans ‹_›⟩

/-- a/b rounded to the nearest integer, halves up. -/
def nearV (a b : Int) : Int := (2 * a + b) / (2 * b)

theorem quo_floor (x y : Int) (hy : 1 ≤ y) : (0 ≤ x.tmod y → x.tdiv y = x / y) ∧ (x.tmod y < 0 → x.tdiv y - 1 = x / y) ∧ (x.tmod y < 0 → x < 0) ∧ (0 ≤ x → x.tdiv y = x / y ∧ 0 ≤ x.tmod y) := by
  by_cases hx : 0 ≤ x
  · have h1 : x.tdiv y = x / y := Int.tdiv_eq_ediv_of_nonneg hx
    have h2 : 0 ≤ x.tmod y := Int.tmod_nonneg _ hx
    exact ⟨fun _ => h1, fun h => by omega, fun h => by omega, fun _ => ⟨h1, h2⟩⟩
  · have e := Int.mul_tdiv_add_tmod x y
    have e2 := Int.mul_ediv_add_emod x y
    have m0 := Int.emod_nonneg x (b := y) (by omega)
    have m1 := Int.emod_lt_of_pos x (b := y) (by omega)
    have t0 : x.tmod y ≤ 0 := by
      have := Int.tmod_nonneg (a := -x) y (by omega)
      rw [Int.neg_tmod] at this
      omega
    have t1 : -y < x.tmod y := by
      have := Int.tmod_lt_of_pos (-x) (b := y) (by omega)
      rw [Int.neg_tmod] at this
      omega
    refine ⟨fun h => ?_, fun h => ?_, fun _ => by omega, fun h => by omega⟩
    · have h0 : x.tmod y = 0 := by omega
      have hm : y * (x.tdiv y - x / y) = x % y := by rw [Int.mul_sub]; omega
      have : x.tdiv y - x / y = 0 := by
        by_cases hp : 1 ≤ x.tdiv y - x / y
        · have := Int.mul_le_mul_of_nonneg_left hp (show 0 ≤ y by omega); omega
        · by_cases hn : x.tdiv y - x / y ≤ -1
          · have := Int.mul_le_mul_of_nonneg_left hn (show 0 ≤ y by omega); omega
          · omega
      omega
    · have hm : y * (x.tdiv y - x / y) = x % y - x.tmod y := by rw [Int.mul_sub]; omega
      have : x.tdiv y - x / y = 1 := by
        by_cases hp : 2 ≤ x.tdiv y - x / y
        · have := Int.mul_le_mul_of_nonneg_left hp (show 0 ≤ y by omega); omega
        · by_cases hn : x.tdiv y - x / y ≤ 0
          · have := Int.mul_le_mul_of_nonneg_left hn (show 0 ≤ y by omega); omega
          · omega
      omega

theorem tdiv_bound (x y B : Int) (h1 : -B ≤ x) (h2 : x ≤ B) : -B ≤ x.tdiv y ∧ x.tdiv y ≤ B := by
  have := Int.natAbs_tdiv_le_natAbs x y
  omega

theorem near_any (a b : Int) (w : World) (h1 : 1 ≤ b) (h2 : b ≤ 1099511627776) (h3 : -1152921504606846976 ≤ a) (h4 : a ≤ 1152921504606846976) :
    Calls Try.prog 53 #[.int .i64 a, .int .i64 b] w fun e w' => e = .returned (.int .i64 (nearV a b)) ∧ w = w' := by
  have q := quo_floor (2 * a + b) (2 * b) (by omega)
  have bq := tdiv_bound (2 * a + b) (2 * b) 3458764513820540928 (by omega) (by omega)
  have e1 : (2 * a + b).tmod (2 * b) < 0 → nearV a b = (2 * a + b).tdiv (2 * b) - 1 := fun h => (q.2.1 h).symm
  have e2 : 0 ≤ (2 * a + b).tmod (2 * b) → nearV a b = (2 * a + b).tdiv (2 * b) := fun h => (q.1 h).symm
  have E1 := Lib.hid e1
  have E2 := Lib.hid e2
  clear e1 e2 q
  by_cases hr : (2 * a + b).tmod (2 * b) < 0
  · have d0 : ((2 * b) == 0) = false := by simp; omega
    go_enter Try.func53, Try.ntmps53
    go_wp2_with fail
    go_ret
    exact ⟨ret_int (E1.out hr).symm, rfl⟩
  · have d0 : ((2 * b) == 0) = false := by simp; omega
    go_enter Try.func53, Try.ntmps53
    go_wp2_with fail
    go_ret
    exact ⟨ret_int (E2.out (by omega)).symm, rfl⟩

theorem round_any (n d : Int) (w : World) (h1 : 1 ≤ d) (h2 : d ≤ 1099511627776) (h3 : -1152921504606846976 ≤ n) (h4 : n ≤ 1152921504606846976) :
    Calls Try.prog 56 #[.int .i64 n, .int .i64 d] w fun e w' => e = .returned (.int .i64 (nearV n d)) ∧ w = w' := by
  have q := quo_floor (2 * n + d) (2 * d) (by omega)
  have bq := tdiv_bound (2 * n + d) (2 * d) 3458764513820540928 (by omega) (by omega)
  have d0 : ((2 * d) == 0) = false := by simp; omega
  by_cases hx : 2 * n + d < 0
  · by_cases hr : (2 * n + d).tmod (2 * d) = 0
    · have E1 := Lib.hid (show nearV n d = (2 * n + d).tdiv (2 * d) from (q.1 (by omega)).symm)
      clear q
      have r0 : ((2 * n + d).tmod (2 * d) == 0) = true := by simpa using hr
      have r1 : ((2 * n + d).tmod (2 * d) != 0) = false := by simpa using hr
      clear hr
      go_enter Try.func56, Try.ntmps56
      go_wp2_with fail
      go_ret
      exact ⟨ret_int E1.out.symm, rfl⟩
    · have E1 := Lib.hid (show nearV n d = (2 * n + d).tdiv (2 * d) - 1 from (q.2.1 (by
        have := Int.tmod_nonneg (a := -(2 * n + d)) (2 * d) (by omega)
        rw [Int.neg_tmod] at this
        omega)).symm)
      clear q
      have r0 : ((2 * n + d).tmod (2 * d) == 0) = false := by simpa using hr
      have r1 : ((2 * n + d).tmod (2 * d) != 0) = true := by simpa using hr
      clear hr
      go_enter Try.func56, Try.ntmps56
      go_wp2_with fail
      go_ret
      exact ⟨ret_int E1.out.symm, rfl⟩
  · have E1 := Lib.hid (show nearV n d = (2 * n + d) / (2 * d) from rfl)
    clear q bq
    go_enter Try.func56, Try.ntmps56
    go_wp2_with fail
    go_ret
    exact ⟨ret_int E1.out.symm, rfl⟩
end Go.Proofs.Ytkepeihlggkadaa
