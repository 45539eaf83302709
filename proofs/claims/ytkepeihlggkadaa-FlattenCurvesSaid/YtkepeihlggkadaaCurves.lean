/- FlattenCurves: Quad and Cubic of the program return the points, or the error, that those of the reference return, at every curve and tolerance; the law's call returns true and changes nothing. -/
import Derived.Test.YtkepeihlggkadaaFlatQ
import Derived.Test.YtkepeihlggkadaaFrame
namespace Go.Proofs.Ytkepeihlggkadaa.curves
open Go.ChangeShapes Go.WideShapes Go.ChangeAt Go.RowKit
attribute [local go_sem ↓] Go.wp_at_zero Go.wp_at_succ run_eql_point run_neq_point run_max_ii run_min_ii

theorem quadPts_len (a b c : Int × Int) (tol : Int) : (quadPts a b c tol).length ≤ 64 := by
  unfold quadPts
  split
  · rename_i h
    obtain ⟨n, hn, _, h2⟩ := piecesV_range (sqD a b c) tol [a, b, c] h
    rw [upTo_length, show (quadSegV a b c tol).1 = (n : Int) from hn]
    omega
  · simp
theorem cubicPts_len (a b c d : Int × Int) (tol : Int) : (cubicPts a b c d tol).length ≤ 64 := by
  unfold cubicPts
  split
  · rename_i h
    obtain ⟨n, hn, _, h2⟩ := piecesV_range (9 * max (sqD a b c) (sqD b c d)) tol [a, b, c, d] h
    rw [upTo_length, show (cubicSegV a b c d tol).1 = (n : Int) from hn]
    omega
  · simp

set_option maxRecDepth 20000 in
set_option maxHeartbeats 1000000 in
theorem walk (a b c d : Int × Int) (tol : Int) (w : World) :
    Calls Try.prog 6 #[.agg #[.int .i64 a.1, .int .i64 a.2, .int .i64 b.1, .int .i64 b.2, .int .i64 c.1, .int .i64 c.2, .int .i64 d.1, .int .i64 d.2], .int .i64 tol] w fun e w' =>
      e = .returned (.bool true) ∧ Ext w w' := by
  have HG := Lib.hid (show ∀ x, Ext (w.alloc (.cells #[.int .i64 a.1, .int .i64 a.2, .int .i64 b.1, .int .i64 b.2, .int .i64 c.1, .int .i64 c.2, .int .i64 d.1, .int .i64 d.2] 24)) x →
      x.cell? ⟨w.heap.size, 0, none⟩ = some (.int .i64 a.1) ∧ x.cell? ⟨w.heap.size, 1, none⟩ = some (.int .i64 a.2) ∧ x.cell? ⟨w.heap.size, 2, none⟩ = some (.int .i64 b.1) ∧ x.cell? ⟨w.heap.size, 3, none⟩ = some (.int .i64 b.2) ∧ x.cell? ⟨w.heap.size, 4, none⟩ = some (.int .i64 c.1) ∧ x.cell? ⟨w.heap.size, 5, none⟩ = some (.int .i64 c.2) ∧ x.cell? ⟨w.heap.size, 6, none⟩ = some (.int .i64 d.1) ∧ x.cell? ⟨w.heap.size, 7, none⟩ = some (.int .i64 d.2) from fun x h =>
    ⟨h.get (by simp), h.get (by simp), h.get (by simp), h.get (by simp), h.get (by simp), h.get (by simp), h.get (by simp), h.get (by simp)⟩)
  have hl1 := quadPts_len a b c tol
  have hl2 := cubicPts_len a b c d tol
  have HS := Lib.hid (And.intro hl1 hl2)
  clear hl1 hl2
  go_enter Try.func6, Try.ntmps6
  go_wp2_with fail
  refine (lawquad_any a b c d _).mono ?_
  rintro e w1 ⟨rfl, h1⟩
  have e1 := h1
  have g1 := HG.out _ e1
  go_wp2_with fail
  refine (quad_any a b c tol _).mono ?_
  rintro e w2 ⟨v1, rfl, o1, h2⟩
  have r1 := Lib.hid o1.read
  clear o1
  have e2 := e1.trans h2
  have g2 := HG.out _ e2
  clear g1
  go_wp2_with fail
  refine (lawquad_any a b c d _).mono ?_
  rintro e w3 ⟨rfl, h3⟩
  have e3 := e2.trans h3
  have g3 := HG.out _ e3
  clear g2
  go_wp2_with fail
  refine (rquad_any a b c tol _).mono ?_
  rintro e w4 ⟨v2, rfl, o2, h4⟩
  have r2 := Lib.hid o2.read
  clear o2
  have e4 := e3.trans h4
  have g4 := HG.out _ e4
  clear g3
  go_wp2_with fail
  refine (cubic_any a b c d tol _).mono ?_
  rintro e w5 ⟨v3, rfl, o3, h5⟩
  have r3 := Lib.hid o3.read
  clear o3
  have e5 := e4.trans h5
  have g5 := HG.out _ e5
  clear g4
  go_wp2_with fail
  refine (rcubic_any a b c d tol _).mono ?_
  rintro e w6 ⟨v4, rfl, o4, h6⟩
  have r4 := Lib.hid o4.read
  clear o4
  have e6 := e5.trans h6
  clear g5
  go_wp2_with fail
  refine (samePts_any v1 v2 _ _ _ (((r1.out.ext h3).ext h4).ext (h5.trans h6)) (r2.out.ext (h5.trans h6)) (by have := HS.out.1; omega) (by have := HS.out.1; omega)).mono ?_
  rintro e w7 ⟨rfl, h7⟩
  have d1 : decide (quadPts a b c tol = quadPts a b c tol) = true := by simp
  go_wp2_with fail
  refine (samePts_any v3 v4 _ _ _ ((r3.out.ext h6).ext h7) (r4.out.ext h7) (by have := HS.out.2; omega) (by have := HS.out.2; omega)).mono ?_
  rintro e w8 ⟨rfl, h8⟩
  have d2 : decide (cubicPts a b c d tol = cubicPts a b c d tol) = true := by simp
  go_wp2_with fail
  refine (example_any _).mono ?_
  rintro e w9 ⟨rfl, h9⟩
  go_wp2_with fail
  go_ret
  exact ⟨rfl, ((((Ext.refl _).alloc _).trans e6).trans h7).trans (h8.trans h9)⟩

set_option maxRecDepth 100000 in
theorem lifted (os : Os) (started : os.Started) (H : Type) (enc : TypeId × Value → H) :
    ReturnsInHanded {} Try.checked os 6 .any (Rows.flattenCurvesSpec.pre6 enc Try.prog Try.f6 Rows.flattenCurvesRow.domain false) (Rows.flattenCurvesSpec.post enc Try.prog Try.f6 false true false false) := by
  refine returnsInHanded_of_change (C := Try.checked) own started (by kernel_rfl) Try.func6
    (ChangeSpec.witness6 (enc := enc) (C := Try.checked) false ⟨#[], #[.agg #[.int .i64 0, .int .i64 0, .int .i64 0, .int .i64 0, .int .i64 0, .int .i64 0, .int .i64 0, .int .i64 0], .int .i64 0], []⟩ 8 (by kernel_rfl) (by kernel_rfl) (by kernel_rfl) (by kernel_rfl)) ?_
  intro W base args ds gs before hval0 hW hcnd _
  have hval : ∀ (j : Nat) t v, Try.f6.params[j]? = some t → args[j]? = some v → Value.okWide Try.prog W .any base t v := hval0
  have hW' := hW
  obtain ⟨p, q, hA0, hV, rfl, hfz, hnd⟩ := hW
  have hA : DataW.TrodAll enc Try.prog W 0 (fun _ => true) true Try.f6.params.toList args.toList ds p := hA0
  rw [Try.params6] at hA hval
  obtain ⟨v0, vs0, d0, ds0, p0, q0, hargs, rfl, rfl, h0, r0⟩ := trodAll_cons hA
  obtain ⟨v1, vs1, d1, ds1, p1, q1, rfl, rfl, rfl, h1, r1⟩ := trodAll_cons r0
  obtain ⟨rfl, rfl, rfl⟩ := trodAll_nil r1
  obtain rfl : args = #[v0, v1] := by cases args; simp_all
  obtain ⟨rfl, rfl⟩ := trodVars_none hV
  have k0 := h0
  have lt0 : ∀ x ∈ p0, x.block < W.heap.size := by obtain ⟨m, hm⟩ := k0; exact DataW.trod_lt m _ _ _ hm
  obtain ⟨⟨l0⟩, rfl, _⟩ := okWide_array Try.underlying24 (hval 0 24 v0 rfl rfl)
  obtain ⟨a, b, c, d, rfl⟩ : ∃ a b c d : Int × Int, l0 = [.int .i64 a.1, .int .i64 a.2, .int .i64 b.1, .int .i64 b.2, .int .i64 c.1, .int .i64 c.2, .int .i64 d.1, .int .i64 d.2] := by
    obtain ⟨m, hm⟩ := h0
    exact pts4_open hm
  obtain ⟨tol, rfl, rfl, rfl, w1⟩ := open_int Try.underlying3 (hval 1 3 v1 rfl rfl) h1
  clear hA0 hval0
  refine (walk a b c d tol W).mono fun e W' ⟨he, hx⟩ => ?_
  subst he
  have bel := hx.below
  exact ⟨_, rfl, _, _, _, [], _, [], hW', trodAll_mk1 (shut_bool Try.underlying4 _), (trodAll_cons_mk (Below.trod laidOut (by kernel_rfl) (of_decide_eq_true (by kernel_rfl)) k0 bel lt0) (trodAll_cons_mk (shut_int Try.underlying3 w1) trodAll_mk0)), rfl, bel.frame _, fun h => by cases h⟩

theorem proved : Rows.FlattenCurvesSaid :=
  OpenClaim.holds_of_wide 6 Try.f6 rfl rfl rfl rfl rfl rfl rfl ⟨rfl, rfl, rfl, rfl, rfl⟩ rfl rfl rfl rfl rfl (by kernel_rfl) Try.func6 (by kernel_rfl)
    (of_decide_eq_true (by kernel_rfl)) (by unfold Func.isWrapper; first | (rw [if_pos (by decide +kernel)]; kernel_rfl) | (rw [if_neg (by decide +kernel)]; exact ⟨rfl, rfl⟩))
    (fun os started H enc _ => lifted os started H enc)
#print axioms proved
end Go.Proofs.Ytkepeihlggkadaa.curves
