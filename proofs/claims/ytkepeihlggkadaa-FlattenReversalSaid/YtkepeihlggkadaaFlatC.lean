/- QuadSegments and CubicSegments of the program. -/
import Derived.Test.YtkepeihlggkadaaFlatB
namespace Go.Proofs.Ytkepeihlggkadaa
open Go.RowKit
attribute [local go_sem ↓] Go.wp_at_zero Go.wp_at_succ run_eql_point run_neq_point run_max_ii run_min_ii

theorem quadSeg_any (a b c : Int × Int) (tol : Int) (w : World) :
    Calls Try.prog 11 #[.agg #[.int .i64 a.1, .int .i64 a.2, .int .i64 b.1, .int .i64 b.2, .int .i64 c.1, .int .i64 c.2], .int .i64 tol] w fun e w' =>
      e = .returned (.tuple #[.int .i64 (quadSegV a b c tol).1, .int .i64 (quadSegV a b c tol).2]) ∧ Ext w w' := by
  have g : ∀ w', Ext (w.alloc (.cells #[.int .i64 a.1, .int .i64 a.2, .int .i64 b.1, .int .i64 b.2, .int .i64 c.1, .int .i64 c.2] 28)) w' →
      w'.cell? ⟨w.heap.size, 0, none⟩ = some (.int .i64 a.1) ∧ w'.cell? ⟨w.heap.size, 1, none⟩ = some (.int .i64 a.2) ∧ w'.cell? ⟨w.heap.size, 2, none⟩ = some (.int .i64 b.1) ∧
      w'.cell? ⟨w.heap.size, 3, none⟩ = some (.int .i64 b.2) ∧ w'.cell? ⟨w.heap.size, 4, none⟩ = some (.int .i64 c.1) ∧ w'.cell? ⟨w.heap.size, 5, none⟩ = some (.int .i64 c.2) := fun w' h =>
    ⟨h.get (by simp), h.get (by simp), h.get (by simp), h.get (by simp), h.get (by simp), h.get (by simp)⟩
  have hps : ∀ w', Ext (w.alloc (.cells #[.int .i64 a.1, .int .i64 a.2, .int .i64 b.1, .int .i64 b.2, .int .i64 c.1, .int .i64 c.2] 28)) w' → PtsAt w' w.heap.size 0 [a, b, c] := fun w' h => by
    obtain ⟨h0, h1, h2, h3, h4, h5⟩ := g w' h
    exact pts3 h0 h1 h2 h3 h4 h5
  have HP := Lib.hid hps
  clear hps
  go_enter Try.func11, Try.ntmps11
  go_wp2_with fail
  go_region_held3 (fun w' => Ext (w.alloc (.cells #[.int .i64 a.1, .int .i64 a.2, .int .i64 b.1, .int .i64 b.2, .int .i64 c.1, .int .i64 c.2] 28)) w') (first | assumption | exact Ext.drew (Ext.refl _) | (apply Ext.via; assumption; assumption))
    (first | (go_at_call 49; refine (square_any a b c _).mono ?_; rintro e w' ⟨n, rfl, hn, hb⟩) | (go_at_call 48; refine (pieces_len _ tol 3 w.heap.size 0 3 [a, b, c] _ rfl (by omega) (HP.out _ (by assumption))).mono ?_; rintro e w' ⟨rfl, hb2⟩))
  go_wp2_with fail
  go_ret2
  have hq : quadSegV a b c tol = piecesV n tol [a, b, c] := by
    unfold quadSegV
    by_cases hv : okAll [a, b, c] = true
    · rw [hn hv]
    · exact piecesV_bad _ _ _ _ (by simpa using hv)
  rw [hq]
  exact ⟨rfl, ((Ext.refl _).alloc _).trans ‹_›⟩

theorem okAll_cons (p : Int × Int) (ps : List (Int × Int)) : okAll (p :: ps) = (okPt p.1 p.2 && okAll ps) := rfl
theorem okAll_nil : okAll [] = true := rfl

theorem sqD_bound (a b c : Int × Int) (h : okAll [a, b, c] = true) : 0 ≤ sqD a b c ∧ sqD a b c ≤ 35184372088832 := by
  have hb : ((-1048576 ≤ a.1 ∧ a.1 ≤ 1048576) ∧ -1048576 ≤ a.2 ∧ a.2 ≤ 1048576) ∧ ((-1048576 ≤ b.1 ∧ b.1 ≤ 1048576) ∧ -1048576 ≤ b.2 ∧ b.2 ≤ 1048576) ∧ ((-1048576 ≤ c.1 ∧ c.1 ≤ 1048576) ∧ -1048576 ≤ c.2 ∧ c.2 ≤ 1048576) := by
    simpa [okAll, okPt_iff] using h
  have b1 := sq_bound (a.1 - 2 * b.1 + c.1) (by omega) (by omega)
  have b2 := sq_bound (a.2 - 2 * b.2 + c.2) (by omega) (by omega)
  unfold sqD
  omega

theorem cubic_close {a b c d : Int × Int} {tol n m : Int} (hn : okAll [a, b, c] = true → n = sqD a b c) (hm : okAll [b, c, d] = true → m = sqD b c d) :
    cubicSegV a b c d tol = piecesV (IntKind.i64.wrap (9 * max n m)) tol [a, b, c, d] := by
  unfold cubicSegV
  by_cases hv : okAll [a, b, c, d] = true
  · have h1 : okAll [a, b, c] = true := by simp [okAll] at hv ⊢; simp [hv]
    have h2 : okAll [b, c, d] = true := by simp [okAll] at hv ⊢; simp [hv]
    have b1 := sqD_bound a b c h1
    have b2 := sqD_bound b c d h2
    rw [hn h1, hm h2, IntWalk.i64_in _ (by omega)]
  · exact piecesV_bad _ _ _ _ (by simpa using hv)

theorem cubicSeg_any (a b c d : Int × Int) (tol : Int) (w : World) :
    Calls Try.prog 14 #[.agg #[.int .i64 a.1, .int .i64 a.2, .int .i64 b.1, .int .i64 b.2, .int .i64 c.1, .int .i64 c.2, .int .i64 d.1, .int .i64 d.2], .int .i64 tol] w fun e w' =>
      e = .returned (.tuple #[.int .i64 (cubicSegV a b c d tol).1, .int .i64 (cubicSegV a b c d tol).2]) ∧ Ext w w' := by
  have g : ∀ w', Ext (w.alloc (.cells #[.int .i64 a.1, .int .i64 a.2, .int .i64 b.1, .int .i64 b.2, .int .i64 c.1, .int .i64 c.2, .int .i64 d.1, .int .i64 d.2] 24)) w' →
      w'.cell? ⟨w.heap.size, 0, none⟩ = some (.int .i64 a.1) ∧ w'.cell? ⟨w.heap.size, 1, none⟩ = some (.int .i64 a.2) ∧ w'.cell? ⟨w.heap.size, 2, none⟩ = some (.int .i64 b.1) ∧ w'.cell? ⟨w.heap.size, 3, none⟩ = some (.int .i64 b.2) ∧ w'.cell? ⟨w.heap.size, 4, none⟩ = some (.int .i64 c.1) ∧ w'.cell? ⟨w.heap.size, 5, none⟩ = some (.int .i64 c.2) ∧ w'.cell? ⟨w.heap.size, 6, none⟩ = some (.int .i64 d.1) ∧ w'.cell? ⟨w.heap.size, 7, none⟩ = some (.int .i64 d.2) := fun w' h =>
    ⟨h.get (by simp), h.get (by simp), h.get (by simp), h.get (by simp), h.get (by simp), h.get (by simp), h.get (by simp), h.get (by simp)⟩
  have hps : ∀ w', Ext (w.alloc (.cells #[.int .i64 a.1, .int .i64 a.2, .int .i64 b.1, .int .i64 b.2, .int .i64 c.1, .int .i64 c.2, .int .i64 d.1, .int .i64 d.2] 24)) w' → PtsAt w' w.heap.size 0 [a, b, c, d] := fun w' h => by
    obtain ⟨h0, h1, h2, h3, h4, h5, h6, h7⟩ := g w' h
    exact pts4 h0 h1 h2 h3 h4 h5 h6 h7
  have HP := Lib.hid hps
  clear hps
  go_enter Try.func14, Try.ntmps14
  go_wp2_with fail
  go_region_held3 (fun w' => Ext (w.alloc (.cells #[.int .i64 a.1, .int .i64 a.2, .int .i64 b.1, .int .i64 b.2, .int .i64 c.1, .int .i64 c.2, .int .i64 d.1, .int .i64 d.2] 24)) w') (first | assumption | exact Ext.drew (Ext.refl _) | (apply Ext.via; assumption; assumption))
    (first | (go_at_call 49; refine (square_any (_, _) (_, _) (_, _) _).mono ?_; rintro e w' ⟨n, rfl, hn, hb⟩) | (go_at_call 48; refine (pieces_len _ tol 4 w.heap.size 0 4 [a, b, c, d] _ rfl (by omega) (HP.out _ (by assumption))).mono ?_; rintro e w' ⟨rfl, hb2⟩))
  go_wp2_with fail
  go_ret2
  rw [cubic_close (a := a) (b := b) (c := c) (d := d) (by assumption) (by assumption)]
  exact ⟨rfl, ((Ext.refl _).alloc _).trans ‹_›⟩
end Go.Proofs.Ytkepeihlggkadaa
