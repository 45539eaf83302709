/- The reference's QuadSegments and CubicSegments. -/
import Derived.Test.YtkepeihlggkadaaFlatC
namespace Go.Proofs.Ytkepeihlggkadaa
open Go.RowKit
attribute [local go_sem ↓] Go.wp_at_zero Go.wp_at_succ run_eql_point run_neq_point run_max_ii run_min_ii

theorem validTol_any (t : Int) (w : World) :
    Calls Try.prog 66 #[.int .i64 t] w fun e w' => e = .returned (.bool (decide (1 ≤ t) && decide (t ≤ 256))) ∧ w = w' := by
  by_cases h1 : 1 ≤ t
  · by_cases h2 : t ≤ 256
    · go_enter Try.func66, Try.ntmps66
      go_wp2_with fail
      go_ret
      exact ⟨ret_bool (by simp; omega), rfl⟩
    · go_enter Try.func66, Try.ntmps66
      go_wp2_with fail
      go_ret
      exact ⟨ret_bool (by simp; omega), rfl⟩
  · go_enter Try.func66, Try.ntmps66
    go_wp2_with fail
    go_ret
    exact ⟨ret_bool (by simp; omega), rfl⟩

theorem bend_any (ax ay bx bt cx cy : Int) (w : World) (hv : okAll [(ax, ay), (bx, bt), (cx, cy)] = true) :
    Calls Try.prog 87 #[.agg #[.int .i64 ax, .int .i64 ay], .agg #[.int .i64 bx, .int .i64 bt], .agg #[.int .i64 cx, .int .i64 cy]] w fun e w' =>
      e = .returned (.int .i64 (sqD (ax, ay) (bx, bt) (cx, cy))) ∧ Ext w w' := by
  have hb : ((-1048576 ≤ ax ∧ ax ≤ 1048576) ∧ -1048576 ≤ ay ∧ ay ≤ 1048576) ∧ ((-1048576 ≤ bx ∧ bx ≤ 1048576) ∧ -1048576 ≤ bt ∧ bt ≤ 1048576) ∧ ((-1048576 ≤ cx ∧ cx ≤ 1048576) ∧ -1048576 ≤ cy ∧ cy ≤ 1048576) := by
    simpa [okAll, okPt_iff] using hv
  have b1 := sq_bound (ax - 2 * bx + cx) (by omega) (by omega)
  have b2 := sq_bound (ay - 2 * bt + cy) (by omega) (by omega)
  clear hv
  go_enter Try.func87, Try.ntmps87
  go_wp2_with fail
  go_ret
  exact ⟨rfl, (((Ext.refl _).alloc _).alloc _).alloc _⟩

theorem bend_pts (a b c : Int × Int) (w : World) (hv : okAll [a, b, c] = true) :
    Calls Try.prog 87 #[.agg #[.int .i64 a.1, .int .i64 a.2], .agg #[.int .i64 b.1, .int .i64 b.2], .agg #[.int .i64 c.1, .int .i64 c.2]] w fun e w' =>
      e = .returned (.int .i64 (sqD a b c)) ∧ Ext w w' := bend_any a.1 a.2 b.1 b.2 c.1 c.2 w hv

/-- What 'segments' looks at: the largest second difference of three or four points. -/
def bends (ps : List (Int × Int)) : Int := match ps with
  | [a, b, c] => sqD a b c
  | [a, b, c, d] => max (sqD a b c) (sqD b c d)
  | _ => 0

theorem pts3_get {w w' : World} {g : Nat} {a b c : Int × Int} (hp : PtsAt w g 0 [a, b, c]) (h : Ext w w') :
    w'.cell? ⟨g, 0, none⟩ = some (.int .i64 a.1) ∧ w'.cell? ⟨g, 1, none⟩ = some (.int .i64 a.2) ∧ w'.cell? ⟨g, 2, none⟩ = some (.int .i64 b.1) ∧
      w'.cell? ⟨g, 3, none⟩ = some (.int .i64 b.2) ∧ w'.cell? ⟨g, 4, none⟩ = some (.int .i64 c.1) ∧ w'.cell? ⟨g, 5, none⟩ = some (.int .i64 c.2) := by
  have q := hp.ext h
  have q0 := q 0 (by simp)
  have q1 := q 1 (by simp)
  have q2 := q 2 (by simp)
  exact ⟨q0.1, q0.2, q1.1, q1.2, q2.1, q2.2⟩
theorem pts4_get {w w' : World} {g : Nat} {a b c d : Int × Int} (hp : PtsAt w g 0 [a, b, c, d]) (h : Ext w w') :
    w'.cell? ⟨g, 0, none⟩ = some (.int .i64 a.1) ∧ w'.cell? ⟨g, 1, none⟩ = some (.int .i64 a.2) ∧ w'.cell? ⟨g, 2, none⟩ = some (.int .i64 b.1) ∧
      w'.cell? ⟨g, 3, none⟩ = some (.int .i64 b.2) ∧ w'.cell? ⟨g, 4, none⟩ = some (.int .i64 c.1) ∧ w'.cell? ⟨g, 5, none⟩ = some (.int .i64 c.2) ∧
      w'.cell? ⟨g, 6, none⟩ = some (.int .i64 d.1) ∧ w'.cell? ⟨g, 7, none⟩ = some (.int .i64 d.2) := by
  have q := hp.ext h
  have q0 := q 0 (by simp)
  have q1 := q 1 (by simp)
  have q2 := q 2 (by simp)
  have q3 := q 3 (by simp)
  exact ⟨q0.1, q0.2, q1.1, q1.2, q2.1, q2.2, q3.1, q3.2⟩

theorem piecesV_some {need tol : Int} {ps : List (Int × Int)} {k : Nat} (t1 : 1 ≤ tol) (t2 : tol ≤ 256) (h : okAll ps = true) (hl : least need tol 1 64 = some k) : piecesV need tol ps = ((k : Int), 0) := by
  unfold piecesV
  rw [if_neg (by omega), if_neg (by simp [h]), hl]
theorem piecesV_none {need tol : Int} {ps : List (Int × Int)} (t1 : 1 ≤ tol) (t2 : tol ≤ 256) (h : okAll ps = true) (hl : least need tol 1 64 = none) : piecesV need tol ps = (0, 11) := by
  unfold piecesV
  rw [if_neg (by omega), if_neg (by simp [h]), hl]

theorem segs3 (a b c : Int × Int) (tol : Int) (g cap : Nat) (w : World) (hp : PtsAt w g 0 [a, b, c]) :
    Calls Try.prog 50 #[.slice (some ⟨g, 0, none⟩) 3 cap, .int .i64 tol, .int .i64 1] w fun e w' =>
      e = .returned (.tuple #[.int .i64 (quadSegV a b c tol).1, .int .i64 (quadSegV a b c tol).2]) ∧ Ext w w' := by
  unfold quadSegV
  by_cases ht : tol < 1 ∨ 256 < tol
  · have hv : piecesV (sqD a b c) tol [a, b, c] = (0, 2) := by unfold piecesV; rw [if_pos ht]
    rw [hv]
    clear hv
    have hd : (!(decide (1 ≤ tol) && decide (tol ≤ 256))) = true := by rcases ht with h | h <;> simp <;> omega
    go_enter Try.func50, Try.ntmps50
    go_wp2_with (go_at_call 66; refine (validTol_any _ _).mono ?_; rintro e w' ⟨rfl, rfl⟩)
    go_ret2
    exact ⟨rfl, Ext.refl _⟩
  have t1 : 1 ≤ tol := by omega
  have t2 : tol ≤ 256 := by omega
  have d1 : decide (1 ≤ tol) = true := by simpa using t1
  have d2 : decide (tol ≤ 256) = true := by simpa using t2
  by_cases hv : okAll [a, b, c] = true
  · have g0 : ∀ w', Ext w w' → w'.cell? ⟨g, 0, none⟩ = some (.int .i64 a.1) ∧ w'.cell? ⟨g, 1, none⟩ = some (.int .i64 a.2) ∧ w'.cell? ⟨g, 2, none⟩ = some (.int .i64 b.1) ∧
      w'.cell? ⟨g, 3, none⟩ = some (.int .i64 b.2) ∧ w'.cell? ⟨g, 4, none⟩ = some (.int .i64 c.1) ∧ w'.cell? ⟨g, 5, none⟩ = some (.int .i64 c.2) := fun w' h => pts3_get hp h
    have HV := Lib.hid hv
    have b0 := sqD_bound a b c hv
    clear ht
    go_enter Try.func50, Try.ntmps50
    go_wp2_with (first | (go_at_call 66; refine (validTol_any _ _).mono ?_; rintro e w' ⟨rfl, rfl⟩) | (go_at_call 55; refine (allValid_any g 0 cap [a, b, c] _ (by simp) hp).mono ?_; rintro e w' ⟨rfl, hb⟩))
    go_region_held3 (fun w' => Ext w w') (first | assumption | (exact Ext.drew (by assumption)) | (apply Ext.via; assumption; assumption))
      (first | (go_at_call 87; refine (bend_pts a b c _ HV.out).mono ?_; rintro e w' ⟨rfl, hb⟩))
    go_wp2_with fail
    go_loop [9] (fun i => ∃ j : Nat, 1 ≤ j ∧ j ≤ 65 ∧ i = .int .i64 j ∧ least (sqD a b c) tol 1 64 = least (sqD a b c) tol j (65 - j)) (fun i => 65 - (intOf i).toNat)
    case atStart => exact ⟨1, Nat.le_refl _, by omega, rfl, rfl⟩
    case round =>
      obtain ⟨j, hj1, hj2, rfl, hl⟩ := hrel
      have HL := Lib.hid hl
      clear hl
      by_cases hj : j ≤ 64
      · have bd := least_bounds j tol hj t1 t2
        by_cases hit : sqD a b c ≤ 16 * (j : Int) * j * j * j * tol * tol
        · have hr : least (sqD a b c) tol 1 64 = some j := by
            rw [HL.out, show 65 - j = (64 - j) + 1 by omega]; exact least_hit _ _ _ _ hit
          have HR := Lib.hid (piecesV_some t1 t2 HV.out hr)
          clear hr
          go_wp2_with fail
          go_ret2
          rw [HR.out]
          exact ⟨rfl, by assumption⟩
        · have hr : least (sqD a b c) tol 1 64 = least (sqD a b c) tol (j + 1) (65 - (j + 1)) := by
            rw [HL.out, show 65 - j = (64 - j) + 1 by omega, least_step _ _ _ _ hit, show 64 - j = 65 - (j + 1) by omega]
          have HR := Lib.hid hr
          clear hr
          go_wp2_with fail
          go_round
          case rel => exact ⟨j + 1, by omega, by omega, by go_num, HR.out⟩
          case measure => simp [intOf]; omega
      · have hr : least (sqD a b c) tol 1 64 = none := by
          rw [HL.out, show 65 - j = 0 by omega]; rfl
        have HR := Lib.hid (piecesV_none t1 t2 HV.out hr)
        clear hr
        go_wp2_with fail
        go_ret2
        rw [HR.out]
        exact ⟨rfl, by assumption⟩
  · have hvf : okAll [a, b, c] = false := by simpa using hv
    have hr : piecesV (sqD a b c) tol [a, b, c] = (0, 6) := by unfold piecesV; rw [if_neg ht, if_pos hvf]
    rw [hr]
    clear hr ht hv
    go_enter Try.func50, Try.ntmps50
    go_wp2_with (first | (go_at_call 66; refine (validTol_any _ _).mono ?_; rintro e w' ⟨rfl, rfl⟩) | (go_at_call 55; refine (allValid_any g 0 cap [a, b, c] _ (by simp) hp).mono ?_; rintro e w' ⟨rfl, hb⟩))
    go_ret2
    exact ⟨rfl, ‹_›⟩
theorem segs4 (a b c d : Int × Int) (tol : Int) (g cap : Nat) (w : World) (hp : PtsAt w g 0 [a, b, c, d]) :
    Calls Try.prog 50 #[.slice (some ⟨g, 0, none⟩) 4 cap, .int .i64 tol, .int .i64 9] w fun e w' =>
      e = .returned (.tuple #[.int .i64 (cubicSegV a b c d tol).1, .int .i64 (cubicSegV a b c d tol).2]) ∧ Ext w w' := by
  unfold cubicSegV
  by_cases ht : tol < 1 ∨ 256 < tol
  · have hv : piecesV (9 * max (sqD a b c) (sqD b c d)) tol [a, b, c, d] = (0, 2) := by unfold piecesV; rw [if_pos ht]
    rw [hv]
    clear hv
    have hd : (!(decide (1 ≤ tol) && decide (tol ≤ 256))) = true := by rcases ht with h | h <;> simp <;> omega
    go_enter Try.func50, Try.ntmps50
    go_wp2_with (go_at_call 66; refine (validTol_any _ _).mono ?_; rintro e w' ⟨rfl, rfl⟩)
    go_ret2
    exact ⟨rfl, Ext.refl _⟩
  have t1 : 1 ≤ tol := by omega
  have t2 : tol ≤ 256 := by omega
  have d1 : decide (1 ≤ tol) = true := by simpa using t1
  have d2 : decide (tol ≤ 256) = true := by simpa using t2
  by_cases hv : okAll [a, b, c, d] = true
  · have g0 : ∀ w', Ext w w' → w'.cell? ⟨g, 0, none⟩ = some (.int .i64 a.1) ∧ w'.cell? ⟨g, 1, none⟩ = some (.int .i64 a.2) ∧ w'.cell? ⟨g, 2, none⟩ = some (.int .i64 b.1) ∧
      w'.cell? ⟨g, 3, none⟩ = some (.int .i64 b.2) ∧ w'.cell? ⟨g, 4, none⟩ = some (.int .i64 c.1) ∧ w'.cell? ⟨g, 5, none⟩ = some (.int .i64 c.2) ∧
      w'.cell? ⟨g, 6, none⟩ = some (.int .i64 d.1) ∧ w'.cell? ⟨g, 7, none⟩ = some (.int .i64 d.2) := fun w' h => pts4_get hp h
    have HV := Lib.hid hv
    have v1 : okAll [a, b, c] = true := by simp [okAll] at hv ⊢; simp [hv]
    have v2 : okAll [b, c, d] = true := by simp [okAll] at hv ⊢; simp [hv]
    have b0 := sqD_bound a b c v1
    have b1 := sqD_bound b c d v2
    have V1 := Lib.hid v1
    have V2 := Lib.hid v2
    clear v1 v2
    clear ht
    go_enter Try.func50, Try.ntmps50
    go_wp2_with (first | (go_at_call 66; refine (validTol_any _ _).mono ?_; rintro e w' ⟨rfl, rfl⟩) | (go_at_call 55; refine (allValid_any g 0 cap [a, b, c, d] _ (by simp) hp).mono ?_; rintro e w' ⟨rfl, hb⟩))
    go_region_held3 (fun w' => Ext w w') (first | assumption | (exact Ext.drew (by assumption)) | (apply Ext.via; assumption; assumption))
      (first | (go_at_call 87; refine (bend_pts a b c _ V1.out).mono ?_; rintro e w' ⟨rfl, hb⟩))
    go_wp2_with fail

    go_region_held3 (fun w' => Ext w w') (first | assumption | (exact Ext.drew (by assumption)) | (apply Ext.via; assumption; assumption))
      (first | (go_at_call 87; refine (bend_pts b c d _ V2.out).mono ?_; rintro e w' ⟨rfl, hb⟩))
    go_wp2_with fail
    go_loop [9] (fun i => ∃ j : Nat, 1 ≤ j ∧ j ≤ 65 ∧ i = .int .i64 j ∧ least (9 * max (sqD a b c) (sqD b c d)) tol 1 64 = least (9 * max (sqD a b c) (sqD b c d)) tol j (65 - j)) (fun i => 65 - (intOf i).toNat)
    case atStart => exact ⟨1, Nat.le_refl _, by omega, rfl, rfl⟩
    case round =>
      obtain ⟨j, hj1, hj2, rfl, hl⟩ := hrel
      have HL := Lib.hid hl
      clear hl
      by_cases hj : j ≤ 64
      · have bd := least_bounds j tol hj t1 t2
        by_cases hit : 9 * max (sqD a b c) (sqD b c d) ≤ 16 * (j : Int) * j * j * j * tol * tol
        · have hr : least (9 * max (sqD a b c) (sqD b c d)) tol 1 64 = some j := by
            rw [HL.out, show 65 - j = (64 - j) + 1 by omega]; exact least_hit _ _ _ _ hit
          have HR := Lib.hid (piecesV_some t1 t2 HV.out hr)
          clear hr
          go_wp2_with fail
          go_ret2
          rw [HR.out]
          exact ⟨rfl, by assumption⟩
        · have hr : least (9 * max (sqD a b c) (sqD b c d)) tol 1 64 = least (9 * max (sqD a b c) (sqD b c d)) tol (j + 1) (65 - (j + 1)) := by
            rw [HL.out, show 65 - j = (64 - j) + 1 by omega, least_step _ _ _ _ hit, show 64 - j = 65 - (j + 1) by omega]
          have HR := Lib.hid hr
          clear hr
          go_wp2_with fail
          go_round
          case rel => exact ⟨j + 1, by omega, by omega, by go_num, HR.out⟩
          case measure => simp [intOf]; omega
      · have hr : least (9 * max (sqD a b c) (sqD b c d)) tol 1 64 = none := by
          rw [HL.out, show 65 - j = 0 by omega]; rfl
        have HR := Lib.hid (piecesV_none t1 t2 HV.out hr)
        clear hr
        go_wp2_with fail
        go_ret2
        rw [HR.out]
        exact ⟨rfl, by assumption⟩
  · have hvf : okAll [a, b, c, d] = false := by simpa using hv
    have hr : piecesV (9 * max (sqD a b c) (sqD b c d)) tol [a, b, c, d] = (0, 6) := by unfold piecesV; rw [if_neg ht, if_pos hvf]
    rw [hr]
    clear hr ht hv
    go_enter Try.func50, Try.ntmps50
    go_wp2_with (first | (go_at_call 66; refine (validTol_any _ _).mono ?_; rintro e w' ⟨rfl, rfl⟩) | (go_at_call 55; refine (allValid_any g 0 cap [a, b, c, d] _ (by simp) hp).mono ?_; rintro e w' ⟨rfl, hb⟩))
    go_ret2
    exact ⟨rfl, ‹_›⟩
end Go.Proofs.Ytkepeihlggkadaa
