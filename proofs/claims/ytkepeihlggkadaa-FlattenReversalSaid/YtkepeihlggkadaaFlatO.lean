/- The law's helper quad, and that its example holds. -/
import Derived.Test.YtkepeihlggkadaaFlatN
namespace Go.Proofs.Ytkepeihlggkadaa
open Go.RowKit
attribute [local go_sem ↓] Go.wp_at_zero Go.wp_at_succ run_eql_point run_neq_point run_max_ii run_min_ii

theorem lawquad_any (a b c d : Int × Int) (w : World) :
    Calls Try.prog 12 #[.agg #[.int .i64 a.1, .int .i64 a.2, .int .i64 b.1, .int .i64 b.2, .int .i64 c.1, .int .i64 c.2, .int .i64 d.1, .int .i64 d.2]] w fun e w' =>
      e = .returned (.agg #[.int .i64 a.1, .int .i64 a.2, .int .i64 b.1, .int .i64 b.2, .int .i64 c.1, .int .i64 c.2]) ∧ Ext w w' := by
  go_enter Try.func12, Try.ntmps12
  go_wp2_with fail
  refine bodyPost_ret (v := .agg #[.int .i64 a.1, .int .i64 a.2, .int .i64 b.1, .int .i64 b.2, .int .i64 c.1, .int .i64 c.2]) ?_ rfl ⟨rfl, ?_⟩
  · simp [results, Try.results12, go_sem]
  · exact ((Ext.refl _).alloc _).alloc _

theorem ex_seg : quadSegV (0, 0) (512, 0) (512, 512) 256 = (1, 0) := by decide +kernel
theorem ex_pts : quadPts (0, 0) (512, 0) (512, 512) 256 = [(512, 512)] := by decide +kernel
theorem ex_at : quadAtV (0, 0) (512, 0) (512, 512) 1 2 = (384, 128) := by decide +kernel

theorem pts1 {w : World} {g : Nat} {a : Int × Int} (h0 : w.cell? ⟨g, 0, none⟩ = some (.int .i64 a.1)) (h1 : w.cell? ⟨g, 1, none⟩ = some (.int .i64 a.2)) : PtsAt w g 0 [a] := by
  intro i hi
  match i, hi with
  | 0, _ => exact ⟨h0, h1⟩
theorem ptsV1 {w : World} {g : Nat} {a : Int × Int} (h0 : w.cell? ⟨g, 0, none⟩ = some (.int .i64 a.1)) (h1 : w.cell? ⟨g, 1, none⟩ = some (.int .i64 a.2)) : PtsV w (.slice (some ⟨g, 0, none⟩) 1 1) [a] :=
  ⟨_, _, rfl, fun _ => ⟨_, _, rfl, pts1 h0 h1⟩⟩

theorem example_any (w : World) : Calls Try.prog 16 #[] w fun e w' => e = .returned (.bool true) ∧ Ext w w' := by
  have S1 := fun w => quadSeg_any (0, 0) (512, 0) (512, 512) 256 w
  have S2 := fun w => quad_any (0, 0) (512, 0) (512, 512) 256 w
  have S3 := fun w => quadAt_any (0, 0) (512, 0) (512, 512) 1 2 w
  rw [ex_seg] at S1
  rw [ex_seg, ex_pts] at S2
  rw [ex_at] at S3
  have H1 := Lib.hid S1
  have H2 := Lib.hid S2
  have H3 := Lib.hid S3
  clear S1 S2 S3
  have HG := Lib.hid (show ∀ x, Ext (w.alloc (.cells #[.int .i64 0, .int .i64 0, .int .i64 512, .int .i64 0, .int .i64 512, .int .i64 512] 28)) x → x.cell? ⟨w.heap.size, 0, none⟩ = some (.int .i64 0) ∧ x.cell? ⟨w.heap.size, 1, none⟩ = some (.int .i64 0) ∧ x.cell? ⟨w.heap.size, 2, none⟩ = some (.int .i64 512) ∧
      x.cell? ⟨w.heap.size, 3, none⟩ = some (.int .i64 0) ∧ x.cell? ⟨w.heap.size, 4, none⟩ = some (.int .i64 512) ∧ x.cell? ⟨w.heap.size, 5, none⟩ = some (.int .i64 512) from fun x h =>
    ⟨h.get (by simp), h.get (by simp), h.get (by simp), h.get (by simp), h.get (by simp), h.get (by simp)⟩)
  go_enter Try.func16, Try.ntmps16
  go_wp2_with fail
  refine (H1.out _).mono ?_
  rintro e w1 ⟨rfl, hb1⟩
  have g1 := HG.out w1 hb1
  go_wp2_with fail
  refine (H2.out _).mono ?_
  rintro e w2 ⟨v, rfl, ho, hb2⟩
  have g2 := HG.out w2 (hb1.trans hb2)
  have hr := Lib.hid ho.read
  clear ho g1
  go_wp2_with fail
  refine (samePts_any v _ [(512, 512)] [(512, 512)] _ (hr.out.ext ((Ext.refl _).alloc _)) (ptsV1 (by simp) (by simp)) (by simp) (by simp)).mono ?_
  rintro e w3 ⟨rfl, hb3⟩
  have g3 := HG.out w3 ((hb1.trans hb2).trans (((Ext.refl _).alloc _).trans hb3))
  clear g2
  go_wp2_with fail
  refine (H3.out _).mono ?_
  rintro e w4 ⟨rfl, hb4⟩
  go_wp2_with fail
  go_ret
  exact ⟨rfl, ((Ext.refl _).alloc _).trans (((hb1.trans hb2).trans (((Ext.refl _).alloc _).trans hb3)).trans hb4)⟩
end Go.Proofs.Ytkepeihlggkadaa
