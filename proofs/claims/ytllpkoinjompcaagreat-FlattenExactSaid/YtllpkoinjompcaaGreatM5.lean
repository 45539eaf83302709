/- In order: The law's shortCurve; the program's Elevate. · The exact curves' contracts, said of whole values: the cells of a value are one letter. · Moves of a region, one an operation, each by a law with all its terms given: for walks that a program prints. Plain regions: mv_..; regions that draw their order: md_... · The exact part of the reference's flatten: lerp, between, exact. · The reference's New (denominator not zero), FromInts. -/
import Derived.Test.YtllpkoinjompcaaGreatM4
namespace Go.Proofs.YtllpkoinjompcaaGreat
open Go.RowKit
attribute [local go_sem ↓] Go.wp_at_zero Go.wp_at_succ run_max_ii run_min_ii

/-- All fields of a curve are short. -/
def shortC (a0 a1 b0 b1 c0 c1 d0 d1 : RV) : Bool := (a0.short && a1.short) && (b0.short && b1.short) && (c0.short && c1.short) && (d0.short && d1.short)
set_option maxRecDepth 20000 in
set_option maxHeartbeats 4000000 in
theorem shortCurve_any (a0 a1 b0 b1 c0 c1 d0 d1 : RV) (w : World) :
    Calls Tryz.prog 5 #[.agg #[.bool a0.n, .slice a0.p a0.l a0.c, .bool a0.m, .slice a0.p2 a0.l2 a0.c2, .bool a1.n, .slice a1.p a1.l a1.c, .bool a1.m, .slice a1.p2 a1.l2 a1.c2, .bool b0.n, .slice b0.p b0.l b0.c, .bool b0.m, .slice b0.p2 b0.l2 b0.c2, .bool b1.n, .slice b1.p b1.l b1.c, .bool b1.m, .slice b1.p2 b1.l2 b1.c2, .bool c0.n, .slice c0.p c0.l c0.c, .bool c0.m, .slice c0.p2 c0.l2 c0.c2, .bool c1.n, .slice c1.p c1.l c1.c, .bool c1.m, .slice c1.p2 c1.l2 c1.c2, .bool d0.n, .slice d0.p d0.l d0.c, .bool d0.m, .slice d0.p2 d0.l2 d0.c2, .bool d1.n, .slice d1.p d1.l d1.c, .bool d1.m, .slice d1.p2 d1.l2 d1.c2]] w fun e w' => e = .returned (.bool (shortC a0 a1 b0 b1 c0 c1 d0 d1)) ∧ Ext w w' := by
  have HG := Lib.hid (show ∀ x, Ext (w.alloc (.cells #[.bool a0.n, .slice a0.p a0.l a0.c, .bool a0.m, .slice a0.p2 a0.l2 a0.c2, .bool a1.n, .slice a1.p a1.l a1.c, .bool a1.m, .slice a1.p2 a1.l2 a1.c2, .bool b0.n, .slice b0.p b0.l b0.c, .bool b0.m, .slice b0.p2 b0.l2 b0.c2, .bool b1.n, .slice b1.p b1.l b1.c, .bool b1.m, .slice b1.p2 b1.l2 b1.c2, .bool c0.n, .slice c0.p c0.l c0.c, .bool c0.m, .slice c0.p2 c0.l2 c0.c2, .bool c1.n, .slice c1.p c1.l c1.c, .bool c1.m, .slice c1.p2 c1.l2 c1.c2, .bool d0.n, .slice d0.p d0.l d0.c, .bool d0.m, .slice d0.p2 d0.l2 d0.c2, .bool d1.n, .slice d1.p d1.l d1.c, .bool d1.m, .slice d1.p2 d1.l2 d1.c2] 28)) x → x.cell? ⟨w.heap.size, 0, none⟩ = some (.bool a0.n) ∧ x.cell? ⟨w.heap.size, 1, none⟩ = some (.slice a0.p a0.l a0.c) ∧ x.cell? ⟨w.heap.size, 2, none⟩ = some (.bool a0.m) ∧ x.cell? ⟨w.heap.size, 3, none⟩ = some (.slice a0.p2 a0.l2 a0.c2) ∧ x.cell? ⟨w.heap.size, 4, none⟩ = some (.bool a1.n) ∧ x.cell? ⟨w.heap.size, 5, none⟩ = some (.slice a1.p a1.l a1.c) ∧ x.cell? ⟨w.heap.size, 6, none⟩ = some (.bool a1.m) ∧ x.cell? ⟨w.heap.size, 7, none⟩ = some (.slice a1.p2 a1.l2 a1.c2) ∧ x.cell? ⟨w.heap.size, 8, none⟩ = some (.bool b0.n) ∧ x.cell? ⟨w.heap.size, 9, none⟩ = some (.slice b0.p b0.l b0.c) ∧ x.cell? ⟨w.heap.size, 10, none⟩ = some (.bool b0.m) ∧ x.cell? ⟨w.heap.size, 11, none⟩ = some (.slice b0.p2 b0.l2 b0.c2) ∧ x.cell? ⟨w.heap.size, 12, none⟩ = some (.bool b1.n) ∧ x.cell? ⟨w.heap.size, 13, none⟩ = some (.slice b1.p b1.l b1.c) ∧ x.cell? ⟨w.heap.size, 14, none⟩ = some (.bool b1.m) ∧ x.cell? ⟨w.heap.size, 15, none⟩ = some (.slice b1.p2 b1.l2 b1.c2) ∧ x.cell? ⟨w.heap.size, 16, none⟩ = some (.bool c0.n) ∧ x.cell? ⟨w.heap.size, 17, none⟩ = some (.slice c0.p c0.l c0.c) ∧ x.cell? ⟨w.heap.size, 18, none⟩ = some (.bool c0.m) ∧ x.cell? ⟨w.heap.size, 19, none⟩ = some (.slice c0.p2 c0.l2 c0.c2) ∧ x.cell? ⟨w.heap.size, 20, none⟩ = some (.bool c1.n) ∧ x.cell? ⟨w.heap.size, 21, none⟩ = some (.slice c1.p c1.l c1.c) ∧ x.cell? ⟨w.heap.size, 22, none⟩ = some (.bool c1.m) ∧ x.cell? ⟨w.heap.size, 23, none⟩ = some (.slice c1.p2 c1.l2 c1.c2) ∧ x.cell? ⟨w.heap.size, 24, none⟩ = some (.bool d0.n) ∧ x.cell? ⟨w.heap.size, 25, none⟩ = some (.slice d0.p d0.l d0.c) ∧ x.cell? ⟨w.heap.size, 26, none⟩ = some (.bool d0.m) ∧ x.cell? ⟨w.heap.size, 27, none⟩ = some (.slice d0.p2 d0.l2 d0.c2) ∧ x.cell? ⟨w.heap.size, 28, none⟩ = some (.bool d1.n) ∧ x.cell? ⟨w.heap.size, 29, none⟩ = some (.slice d1.p d1.l d1.c) ∧ x.cell? ⟨w.heap.size, 30, none⟩ = some (.bool d1.m) ∧ x.cell? ⟨w.heap.size, 31, none⟩ = some (.slice d1.p2 d1.l2 d1.c2) from fun x h => ⟨h.get (by simp), h.get (by simp), h.get (by simp), h.get (by simp), h.get (by simp), h.get (by simp), h.get (by simp), h.get (by simp), h.get (by simp), h.get (by simp), h.get (by simp), h.get (by simp), h.get (by simp), h.get (by simp), h.get (by simp), h.get (by simp), h.get (by simp), h.get (by simp), h.get (by simp), h.get (by simp), h.get (by simp), h.get (by simp), h.get (by simp), h.get (by simp), h.get (by simp), h.get (by simp), h.get (by simp), h.get (by simp), h.get (by simp), h.get (by simp), h.get (by simp), h.get (by simp)⟩)
  have HW := Lib.hid (show Ext w (w.alloc (.cells #[.bool a0.n, .slice a0.p a0.l a0.c, .bool a0.m, .slice a0.p2 a0.l2 a0.c2, .bool a1.n, .slice a1.p a1.l a1.c, .bool a1.m, .slice a1.p2 a1.l2 a1.c2, .bool b0.n, .slice b0.p b0.l b0.c, .bool b0.m, .slice b0.p2 b0.l2 b0.c2, .bool b1.n, .slice b1.p b1.l b1.c, .bool b1.m, .slice b1.p2 b1.l2 b1.c2, .bool c0.n, .slice c0.p c0.l c0.c, .bool c0.m, .slice c0.p2 c0.l2 c0.c2, .bool c1.n, .slice c1.p c1.l c1.c, .bool c1.m, .slice c1.p2 c1.l2 c1.c2, .bool d0.n, .slice d0.p d0.l d0.c, .bool d0.m, .slice d0.p2 d0.l2 d0.c2, .bool d1.n, .slice d1.p d1.l d1.c, .bool d1.m, .slice d1.p2 d1.l2 d1.c2] 28)) from (Ext.refl _).alloc _)
  have Ha0 := Lib.hid (fun W => xshort_any a0 W)
  have Ha1 := Lib.hid (fun W => xshort_any a1 W)
  have Hb0 := Lib.hid (fun W => xshort_any b0 W)
  have Hb1 := Lib.hid (fun W => xshort_any b1 W)
  have Hc0 := Lib.hid (fun W => xshort_any c0 W)
  have Hc1 := Lib.hid (fun W => xshort_any c1 W)
  have Hd0 := Lib.hid (fun W => xshort_any d0 W)
  have Hd1 := Lib.hid (fun W => xshort_any d1 W)
  obtain ⟨r, hr⟩ : ∃ r, r = shortC a0 a1 b0 b1 c0 c1 d0 d1 := ⟨_, rfl⟩
  rw [← hr]
  have HR := Lib.hid hr
  clear hr
  go_enter Tryz.func5, Tryz.ntmps5
  go_wp2_with fail
  generalize (w.alloc (.cells #[.bool a0.n, .slice a0.p a0.l a0.c, .bool a0.m, .slice a0.p2 a0.l2 a0.c2, .bool a1.n, .slice a1.p a1.l a1.c, .bool a1.m, .slice a1.p2 a1.l2 a1.c2, .bool b0.n, .slice b0.p b0.l b0.c, .bool b0.m, .slice b0.p2 b0.l2 b0.c2, .bool b1.n, .slice b1.p b1.l b1.c, .bool b1.m, .slice b1.p2 b1.l2 b1.c2, .bool c0.n, .slice c0.p c0.l c0.c, .bool c0.m, .slice c0.p2 c0.l2 c0.c2, .bool c1.n, .slice c1.p c1.l c1.c, .bool c1.m, .slice c1.p2 c1.l2 c1.c2, .bool d0.n, .slice d0.p d0.l d0.c, .bool d0.m, .slice d0.p2 d0.l2 d0.c2, .bool d1.n, .slice d1.p d1.l d1.c, .bool d1.m, .slice d1.p2 d1.l2 d1.c2] 28)) = wa at *
  generalize w.heap.size = BA at *
  go_loopw [4] (fun i wr => ∃ k : Nat, k ≤ 4 ∧ i = .int .i64 k ∧ (0 < k → a0.short = true ∧ a1.short = true) ∧ (1 < k → b0.short = true ∧ b1.short = true) ∧ (2 < k → c0.short = true ∧ c1.short = true) ∧ (3 < k → d0.short = true ∧ d1.short = true) ∧ Ext wa wr) (fun i _ => 4 - (intOf i).toNat)
  case atStart => exact ⟨0, by omega, rfl, by omega, by omega, by omega, by omega, Ext.refl _⟩
  case round =>
    obtain ⟨k, hk, rfl, h0, h1, h2, h3, he⟩ := hrel
    have HE := Lib.hid he
    have K0 := Lib.hid h0
    have K1 := Lib.hid h1
    have K2 := Lib.hid h2
    have K3 := Lib.hid h3
    have gl := HG.out _ he
    clear he h0 h1 h2 h3
    match k, hk, HE, K0, K1, K2, K3, gl with
    | 0, _, HE, K0, K1, K2, K3, gl =>
      go_wp2_with fail
      refine (Ha0.out _).mono ?_
      rintro e w1 ⟨rfl, he1⟩
      have HE1 := Lib.hid (HE.out.trans he1)
      clear gl
      have gl := HG.out _ HE1.out
      clear he1
      by_cases q0 : a0.short = true
      · rw [q0]
        go_wp2_with fail
        refine (Ha1.out _).mono ?_
        rintro e w2 ⟨rfl, he2⟩
        have HE2 := Lib.hid (HE1.out.trans he2)
        clear he2 gl
        by_cases q1 : a1.short = true
        · rw [q1]
          have Q := Lib.hid (And.intro q0 q1)
          clear q0 q1
          go_wp2_with fail
          go_roundw
          case rel => exact ⟨1, by omega, by go_num, fun _ => Q.out, by omega, by omega, by omega, HE2.out⟩
          case measure => simp [intOf]
        · rw [Bool.eq_false_iff.2 q1]
          have hr : r = false := by rw [HR.out]; unfold shortC; rw [Bool.eq_false_iff.2 q1]; simp
          clear q0 q1
          go_wp2_with fail
          go_ret
          exact ⟨ret_bool hr.symm, HW.out.trans HE2.out⟩
      · rw [Bool.eq_false_iff.2 q0]
        have hr : r = false := by rw [HR.out]; unfold shortC; rw [Bool.eq_false_iff.2 q0]; simp
        clear q0
        go_wp2_with fail
        go_ret
        exact ⟨ret_bool hr.symm, HW.out.trans HE1.out⟩
    | 1, _, HE, K0, K1, K2, K3, gl =>
      go_wp2_with fail
      refine (Hb0.out _).mono ?_
      rintro e w1 ⟨rfl, he1⟩
      have HE1 := Lib.hid (HE.out.trans he1)
      clear gl
      have gl := HG.out _ HE1.out
      clear he1
      by_cases q0 : b0.short = true
      · rw [q0]
        go_wp2_with fail
        refine (Hb1.out _).mono ?_
        rintro e w2 ⟨rfl, he2⟩
        have HE2 := Lib.hid (HE1.out.trans he2)
        clear he2 gl
        by_cases q1 : b1.short = true
        · rw [q1]
          have Q := Lib.hid (And.intro q0 q1)
          clear q0 q1
          go_wp2_with fail
          go_roundw
          case rel => exact ⟨2, by omega, by go_num, fun _ => K0.out (by omega), fun _ => Q.out, by omega, by omega, HE2.out⟩
          case measure => simp [intOf]
        · rw [Bool.eq_false_iff.2 q1]
          have hr : r = false := by rw [HR.out]; unfold shortC; rw [Bool.eq_false_iff.2 q1]; simp
          clear q0 q1
          go_wp2_with fail
          go_ret
          exact ⟨ret_bool hr.symm, HW.out.trans HE2.out⟩
      · rw [Bool.eq_false_iff.2 q0]
        have hr : r = false := by rw [HR.out]; unfold shortC; rw [Bool.eq_false_iff.2 q0]; simp
        clear q0
        go_wp2_with fail
        go_ret
        exact ⟨ret_bool hr.symm, HW.out.trans HE1.out⟩
    | 2, _, HE, K0, K1, K2, K3, gl =>
      go_wp2_with fail
      refine (Hc0.out _).mono ?_
      rintro e w1 ⟨rfl, he1⟩
      have HE1 := Lib.hid (HE.out.trans he1)
      clear gl
      have gl := HG.out _ HE1.out
      clear he1
      by_cases q0 : c0.short = true
      · rw [q0]
        go_wp2_with fail
        refine (Hc1.out _).mono ?_
        rintro e w2 ⟨rfl, he2⟩
        have HE2 := Lib.hid (HE1.out.trans he2)
        clear he2 gl
        by_cases q1 : c1.short = true
        · rw [q1]
          have Q := Lib.hid (And.intro q0 q1)
          clear q0 q1
          go_wp2_with fail
          go_roundw
          case rel => exact ⟨3, by omega, by go_num, fun _ => K0.out (by omega), fun _ => K1.out (by omega), fun _ => Q.out, by omega, HE2.out⟩
          case measure => simp [intOf]
        · rw [Bool.eq_false_iff.2 q1]
          have hr : r = false := by rw [HR.out]; unfold shortC; rw [Bool.eq_false_iff.2 q1]; simp
          clear q0 q1
          go_wp2_with fail
          go_ret
          exact ⟨ret_bool hr.symm, HW.out.trans HE2.out⟩
      · rw [Bool.eq_false_iff.2 q0]
        have hr : r = false := by rw [HR.out]; unfold shortC; rw [Bool.eq_false_iff.2 q0]; simp
        clear q0
        go_wp2_with fail
        go_ret
        exact ⟨ret_bool hr.symm, HW.out.trans HE1.out⟩
    | 3, _, HE, K0, K1, K2, K3, gl =>
      go_wp2_with fail
      refine (Hd0.out _).mono ?_
      rintro e w1 ⟨rfl, he1⟩
      have HE1 := Lib.hid (HE.out.trans he1)
      clear gl
      have gl := HG.out _ HE1.out
      clear he1
      by_cases q0 : d0.short = true
      · rw [q0]
        go_wp2_with fail
        refine (Hd1.out _).mono ?_
        rintro e w2 ⟨rfl, he2⟩
        have HE2 := Lib.hid (HE1.out.trans he2)
        clear he2 gl
        by_cases q1 : d1.short = true
        · rw [q1]
          have Q := Lib.hid (And.intro q0 q1)
          clear q0 q1
          go_wp2_with fail
          go_roundw
          case rel => exact ⟨4, by omega, by go_num, fun _ => K0.out (by omega), fun _ => K1.out (by omega), fun _ => K2.out (by omega), fun _ => Q.out, HE2.out⟩
          case measure => simp [intOf]
        · rw [Bool.eq_false_iff.2 q1]
          have hr : r = false := by rw [HR.out]; unfold shortC; rw [Bool.eq_false_iff.2 q1]; simp
          clear q0 q1
          go_wp2_with fail
          go_ret
          exact ⟨ret_bool hr.symm, HW.out.trans HE2.out⟩
      · rw [Bool.eq_false_iff.2 q0]
        have hr : r = false := by rw [HR.out]; unfold shortC; rw [Bool.eq_false_iff.2 q0]; simp
        clear q0
        go_wp2_with fail
        go_ret
        exact ⟨ret_bool hr.symm, HW.out.trans HE1.out⟩
    | 4, _, HE, K0, K1, K2, K3, gl =>
      have hr : r = true := by
        rw [HR.out]; unfold shortC
        rw [(K0.out (by omega)).1, (K0.out (by omega)).2, (K1.out (by omega)).1, (K1.out (by omega)).2, (K2.out (by omega)).1, (K2.out (by omega)).2, (K3.out (by omega)).1, (K3.out (by omega)).2]; rfl
      clear gl
      go_wp2_with fail
      go_ret
      exact ⟨ret_bool hr.symm, HW.out.trans HE.out⟩

/-- A cubic curve, normalized. -/
def RetC4 (x1 y1 x2 y2 x3 y3 x4 y4 : Rat) (w : World) (e : Ending) (w' : World) : Prop :=
  ∃ a b c d f g h i : RV, e = .returned (.agg #[.bool a.n, .slice a.p a.l a.c, .bool a.m, .slice a.p2 a.l2 a.c2, .bool b.n, .slice b.p b.l b.c, .bool b.m, .slice b.p2 b.l2 b.c2, .bool c.n, .slice c.p c.l c.c, .bool c.m, .slice c.p2 c.l2 c.c2, .bool d.n, .slice d.p d.l d.c, .bool d.m, .slice d.p2 d.l2 d.c2, .bool f.n, .slice f.p f.l f.c, .bool f.m, .slice f.p2 f.l2 f.c2, .bool g.n, .slice g.p g.l g.c, .bool g.m, .slice g.p2 g.l2 g.c2, .bool h.n, .slice h.p h.l h.c, .bool h.m, .slice h.p2 h.l2 h.c2, .bool i.n, .slice i.p i.l i.c, .bool i.m, .slice i.p2 i.l2 i.c2]) ∧ (a.Is w' x1 ∧ b.Is w' y1 ∧ c.Is w' x2 ∧ d.Is w' y2 ∧ f.Is w' x3 ∧ g.Is w' y3 ∧ h.Is w' x4 ∧ i.Is w' y4) ∧ Ext w w'
theorem divInt23 : Rat.divInt 2 3 = (2 : Rat) / 3 := by decide +kernel
theorem rl23 : Nm.rl ((2 : Rat) / 3) ≤ 1 := by
  have e1 : ((2 : Rat) / 3).num = 2 := by decide +kernel
  have e2 : ((2 : Rat) / 3).den = 3 := by decide +kernel
  unfold Nm.rl
  rw [e1, e2]
  have h1 : Nm.nl (Int.natAbs 2) ≤ 1 := Nm.nl_le (by decide)
  have h2 : Nm.nl 3 ≤ 1 := Nm.nl_le (by decide)
  omega
theorem noU32z : NoU #[.bool false, .slice none 0 0, .bool false, .slice none 0 0, .bool false, .slice none 0 0, .bool false, .slice none 0 0, .bool false, .slice none 0 0, .bool false, .slice none 0 0, .bool false, .slice none 0 0, .bool false, .slice none 0 0, .bool false, .slice none 0 0, .bool false, .slice none 0 0, .bool false, .slice none 0 0, .bool false, .slice none 0 0, .bool false, .slice none 0 0, .bool false, .slice none 0 0, .bool false, .slice none 0 0, .bool false, .slice none 0 0] := noU_of _ (by simp)

theorem RetRE.v {q : Rat} {w w' : World} {e : Ending} (h : RetRE q 0 w e w') : ∃ a : RV, e = .returned (.tuple #[.agg #[.bool a.n, .slice a.p a.l a.c, .bool a.m, .slice a.p2 a.l2 a.c2], .int .i64 0]) ∧ a.Is w' q ∧ Ext w w' := by
  obtain ⟨n, u, m, v, rfl, hc, he⟩ := h
  obtain ⟨p, l, c, p2, l2, c2, rfl, rfl⟩ := hc.form
  exact ⟨⟨n, p, l, c, m, p2, l2, c2⟩, rfl, hc, he⟩
set_option maxRecDepth 20000 in
set_option maxHeartbeats 8000000 in
theorem elevate_any (a0 a1 b0 b1 c0 c1 : RV) (L : Nat) (A0 A1 B0 B1 C0 C1 : Rat) (w : World) (hA0 : a0.In L w A0) (hA1 : a1.In L w A1) (hB0 : b0.In L w B0) (hB1 : b1.In L w B1) (hC0 : c0.In L w C0) (hC1 : c1.In L w C1) (h1 : 1 ≤ L) (hL : L ≤ 10000) :
      Calls Tryz.prog 20 #[.agg #[.bool a0.n, .slice a0.p a0.l a0.c, .bool a0.m, .slice a0.p2 a0.l2 a0.c2, .bool a1.n, .slice a1.p a1.l a1.c, .bool a1.m, .slice a1.p2 a1.l2 a1.c2, .bool b0.n, .slice b0.p b0.l b0.c, .bool b0.m, .slice b0.p2 b0.l2 b0.c2, .bool b1.n, .slice b1.p b1.l b1.c, .bool b1.m, .slice b1.p2 b1.l2 b1.c2, .bool c0.n, .slice c0.p c0.l c0.c, .bool c0.m, .slice c0.p2 c0.l2 c0.c2, .bool c1.n, .slice c1.p c1.l c1.c, .bool c1.m, .slice c1.p2 c1.l2 c1.c2]] w (RetC4 A0 A1 (lerpV A0 B0 ((2 : Rat) / 3)) (lerpV A1 B1 ((2 : Rat) / 3)) (lerpV C0 B0 ((2 : Rat) / 3)) (lerpV C1 B1 ((2 : Rat) / 3)) C0 C1 w) := by
  have HF := Lib.hid (fun W => rfromInts_any 2 3 W (by omega) (by omega) (by omega) (by omega) (by omega))
  have HR1 := Lib.hid (fun W (x : Ext w W) => reduced_any a0 a1 L A0 A1 W (hA0.ext x) (hA1.ext x) (by omega))
  have H1 := Lib.hid (fun W (t : RV) (x : Ext w W) (ht : t.Is W ((2 : Rat) / 3)) => mix_any a0 a1 b0 b1 t L A0 A1 B0 B1 ((2 : Rat) / 3) W (hA0.ext x) (hA1.ext x) (hB0.ext x) (hB1.ext x) (ht.isIn (Nat.le_trans rl23 h1)) h1 (by omega))
  have H2 := Lib.hid (fun W (t : RV) (x : Ext w W) (ht : t.Is W ((2 : Rat) / 3)) => mix_any c0 c1 b0 b1 t L C0 C1 B0 B1 ((2 : Rat) / 3) W (hC0.ext x) (hC1.ext x) (hB0.ext x) (hB1.ext x) (ht.isIn (Nat.le_trans rl23 h1)) h1 (by omega))
  have HR2 := Lib.hid (fun W (x : Ext w W) => reduced_any c0 c1 L C0 C1 W (hC0.ext x) (hC1.ext x) (by omega))
  rw [divInt23] at HF
  clear hA0 hA1 hB0 hB1 hC0 hC1
  generalize ((2 : Rat) / 3) = S at *
  go_enter Tryz.func20, Tryz.ntmps20
  go_wp2_with fail
  have bx0 : Blk ((w.alloc (.cells #[.bool a0.n, .slice a0.p a0.l a0.c, .bool a0.m, .slice a0.p2 a0.l2 a0.c2, .bool a1.n, .slice a1.p a1.l a1.c, .bool a1.m, .slice a1.p2 a1.l2 a1.c2, .bool b0.n, .slice b0.p b0.l b0.c, .bool b0.m, .slice b0.p2 b0.l2 b0.c2, .bool b1.n, .slice b1.p b1.l b1.c, .bool b1.m, .slice b1.p2 b1.l2 b1.c2, .bool c0.n, .slice c0.p c0.l c0.c, .bool c0.m, .slice c0.p2 c0.l2 c0.c2, .bool c1.n, .slice c1.p c1.l c1.c, .bool c1.m, .slice c1.p2 c1.l2 c1.c2] 32)).alloc (.cells #[.bool RV.zero.n, .slice RV.zero.p RV.zero.l RV.zero.c, .bool RV.zero.m, .slice RV.zero.p2 RV.zero.l2 RV.zero.c2, .bool RV.zero.n, .slice RV.zero.p RV.zero.l RV.zero.c, .bool RV.zero.m, .slice RV.zero.p2 RV.zero.l2 RV.zero.c2, .bool RV.zero.n, .slice RV.zero.p RV.zero.l RV.zero.c, .bool RV.zero.m, .slice RV.zero.p2 RV.zero.l2 RV.zero.c2, .bool RV.zero.n, .slice RV.zero.p RV.zero.l RV.zero.c, .bool RV.zero.m, .slice RV.zero.p2 RV.zero.l2 RV.zero.c2, .bool RV.zero.n, .slice RV.zero.p RV.zero.l RV.zero.c, .bool RV.zero.m, .slice RV.zero.p2 RV.zero.l2 RV.zero.c2, .bool RV.zero.n, .slice RV.zero.p RV.zero.l RV.zero.c, .bool RV.zero.m, .slice RV.zero.p2 RV.zero.l2 RV.zero.c2, .bool RV.zero.n, .slice RV.zero.p RV.zero.l RV.zero.c, .bool RV.zero.m, .slice RV.zero.p2 RV.zero.l2 RV.zero.c2, .bool RV.zero.n, .slice RV.zero.p RV.zero.l RV.zero.c, .bool RV.zero.m, .slice RV.zero.p2 RV.zero.l2 RV.zero.c2] 28)) (w.heap.size) 32 #[.bool a0.n, .slice a0.p a0.l a0.c, .bool a0.m, .slice a0.p2 a0.l2 a0.c2, .bool a1.n, .slice a1.p a1.l a1.c, .bool a1.m, .slice a1.p2 a1.l2 a1.c2, .bool b0.n, .slice b0.p b0.l b0.c, .bool b0.m, .slice b0.p2 b0.l2 b0.c2, .bool b1.n, .slice b1.p b1.l b1.c, .bool b1.m, .slice b1.p2 b1.l2 b1.c2, .bool c0.n, .slice c0.p c0.l c0.c, .bool c0.m, .slice c0.p2 c0.l2 c0.c2, .bool c1.n, .slice c1.p c1.l c1.c, .bool c1.m, .slice c1.p2 c1.l2 c1.c2] := Blk.ext (Blk.new_at w _ (by simp) _ _) ((Ext.refl _).alloc _)
  have bx1 : Blk ((w.alloc (.cells #[.bool a0.n, .slice a0.p a0.l a0.c, .bool a0.m, .slice a0.p2 a0.l2 a0.c2, .bool a1.n, .slice a1.p a1.l a1.c, .bool a1.m, .slice a1.p2 a1.l2 a1.c2, .bool b0.n, .slice b0.p b0.l b0.c, .bool b0.m, .slice b0.p2 b0.l2 b0.c2, .bool b1.n, .slice b1.p b1.l b1.c, .bool b1.m, .slice b1.p2 b1.l2 b1.c2, .bool c0.n, .slice c0.p c0.l c0.c, .bool c0.m, .slice c0.p2 c0.l2 c0.c2, .bool c1.n, .slice c1.p c1.l c1.c, .bool c1.m, .slice c1.p2 c1.l2 c1.c2] 32)).alloc (.cells #[.bool RV.zero.n, .slice RV.zero.p RV.zero.l RV.zero.c, .bool RV.zero.m, .slice RV.zero.p2 RV.zero.l2 RV.zero.c2, .bool RV.zero.n, .slice RV.zero.p RV.zero.l RV.zero.c, .bool RV.zero.m, .slice RV.zero.p2 RV.zero.l2 RV.zero.c2, .bool RV.zero.n, .slice RV.zero.p RV.zero.l RV.zero.c, .bool RV.zero.m, .slice RV.zero.p2 RV.zero.l2 RV.zero.c2, .bool RV.zero.n, .slice RV.zero.p RV.zero.l RV.zero.c, .bool RV.zero.m, .slice RV.zero.p2 RV.zero.l2 RV.zero.c2, .bool RV.zero.n, .slice RV.zero.p RV.zero.l RV.zero.c, .bool RV.zero.m, .slice RV.zero.p2 RV.zero.l2 RV.zero.c2, .bool RV.zero.n, .slice RV.zero.p RV.zero.l RV.zero.c, .bool RV.zero.m, .slice RV.zero.p2 RV.zero.l2 RV.zero.c2, .bool RV.zero.n, .slice RV.zero.p RV.zero.l RV.zero.c, .bool RV.zero.m, .slice RV.zero.p2 RV.zero.l2 RV.zero.c2, .bool RV.zero.n, .slice RV.zero.p RV.zero.l RV.zero.c, .bool RV.zero.m, .slice RV.zero.p2 RV.zero.l2 RV.zero.c2] 28)) (w.heap.size + 1) 28 #[.bool RV.zero.n, .slice RV.zero.p RV.zero.l RV.zero.c, .bool RV.zero.m, .slice RV.zero.p2 RV.zero.l2 RV.zero.c2, .bool RV.zero.n, .slice RV.zero.p RV.zero.l RV.zero.c, .bool RV.zero.m, .slice RV.zero.p2 RV.zero.l2 RV.zero.c2, .bool RV.zero.n, .slice RV.zero.p RV.zero.l RV.zero.c, .bool RV.zero.m, .slice RV.zero.p2 RV.zero.l2 RV.zero.c2, .bool RV.zero.n, .slice RV.zero.p RV.zero.l RV.zero.c, .bool RV.zero.m, .slice RV.zero.p2 RV.zero.l2 RV.zero.c2, .bool RV.zero.n, .slice RV.zero.p RV.zero.l RV.zero.c, .bool RV.zero.m, .slice RV.zero.p2 RV.zero.l2 RV.zero.c2, .bool RV.zero.n, .slice RV.zero.p RV.zero.l RV.zero.c, .bool RV.zero.m, .slice RV.zero.p2 RV.zero.l2 RV.zero.c2, .bool RV.zero.n, .slice RV.zero.p RV.zero.l RV.zero.c, .bool RV.zero.m, .slice RV.zero.p2 RV.zero.l2 RV.zero.c2, .bool RV.zero.n, .slice RV.zero.p RV.zero.l RV.zero.c, .bool RV.zero.m, .slice RV.zero.p2 RV.zero.l2 RV.zero.c2] := Blk.ext (Blk.new_at (w.alloc (.cells #[.bool a0.n, .slice a0.p a0.l a0.c, .bool a0.m, .slice a0.p2 a0.l2 a0.c2, .bool a1.n, .slice a1.p a1.l a1.c, .bool a1.m, .slice a1.p2 a1.l2 a1.c2, .bool b0.n, .slice b0.p b0.l b0.c, .bool b0.m, .slice b0.p2 b0.l2 b0.c2, .bool b1.n, .slice b1.p b1.l b1.c, .bool b1.m, .slice b1.p2 b1.l2 b1.c2, .bool c0.n, .slice c0.p c0.l c0.c, .bool c0.m, .slice c0.p2 c0.l2 c0.c2, .bool c1.n, .slice c1.p c1.l c1.c, .bool c1.m, .slice c1.p2 c1.l2 c1.c2] 32)) _ (by simp) _ _) (Ext.refl _)
  have hE : Ext w ((w.alloc (.cells #[.bool a0.n, .slice a0.p a0.l a0.c, .bool a0.m, .slice a0.p2 a0.l2 a0.c2, .bool a1.n, .slice a1.p a1.l a1.c, .bool a1.m, .slice a1.p2 a1.l2 a1.c2, .bool b0.n, .slice b0.p b0.l b0.c, .bool b0.m, .slice b0.p2 b0.l2 b0.c2, .bool b1.n, .slice b1.p b1.l b1.c, .bool b1.m, .slice b1.p2 b1.l2 b1.c2, .bool c0.n, .slice c0.p c0.l c0.c, .bool c0.m, .slice c0.p2 c0.l2 c0.c2, .bool c1.n, .slice c1.p c1.l c1.c, .bool c1.m, .slice c1.p2 c1.l2 c1.c2] 32)).alloc (.cells #[.bool RV.zero.n, .slice RV.zero.p RV.zero.l RV.zero.c, .bool RV.zero.m, .slice RV.zero.p2 RV.zero.l2 RV.zero.c2, .bool RV.zero.n, .slice RV.zero.p RV.zero.l RV.zero.c, .bool RV.zero.m, .slice RV.zero.p2 RV.zero.l2 RV.zero.c2, .bool RV.zero.n, .slice RV.zero.p RV.zero.l RV.zero.c, .bool RV.zero.m, .slice RV.zero.p2 RV.zero.l2 RV.zero.c2, .bool RV.zero.n, .slice RV.zero.p RV.zero.l RV.zero.c, .bool RV.zero.m, .slice RV.zero.p2 RV.zero.l2 RV.zero.c2, .bool RV.zero.n, .slice RV.zero.p RV.zero.l RV.zero.c, .bool RV.zero.m, .slice RV.zero.p2 RV.zero.l2 RV.zero.c2, .bool RV.zero.n, .slice RV.zero.p RV.zero.l RV.zero.c, .bool RV.zero.m, .slice RV.zero.p2 RV.zero.l2 RV.zero.c2, .bool RV.zero.n, .slice RV.zero.p RV.zero.l RV.zero.c, .bool RV.zero.m, .slice RV.zero.p2 RV.zero.l2 RV.zero.c2, .bool RV.zero.n, .slice RV.zero.p RV.zero.l RV.zero.c, .bool RV.zero.m, .slice RV.zero.p2 RV.zero.l2 RV.zero.c2] 28)) := (((Ext.refl _).alloc _).alloc _)
  have hz : ((w.alloc (.cells #[.bool a0.n, .slice a0.p a0.l a0.c, .bool a0.m, .slice a0.p2 a0.l2 a0.c2, .bool a1.n, .slice a1.p a1.l a1.c, .bool a1.m, .slice a1.p2 a1.l2 a1.c2, .bool b0.n, .slice b0.p b0.l b0.c, .bool b0.m, .slice b0.p2 b0.l2 b0.c2, .bool b1.n, .slice b1.p b1.l b1.c, .bool b1.m, .slice b1.p2 b1.l2 b1.c2, .bool c0.n, .slice c0.p c0.l c0.c, .bool c0.m, .slice c0.p2 c0.l2 c0.c2, .bool c1.n, .slice c1.p c1.l c1.c, .bool c1.m, .slice c1.p2 c1.l2 c1.c2] 32)).alloc (.cells #[.bool RV.zero.n, .slice RV.zero.p RV.zero.l RV.zero.c, .bool RV.zero.m, .slice RV.zero.p2 RV.zero.l2 RV.zero.c2, .bool RV.zero.n, .slice RV.zero.p RV.zero.l RV.zero.c, .bool RV.zero.m, .slice RV.zero.p2 RV.zero.l2 RV.zero.c2, .bool RV.zero.n, .slice RV.zero.p RV.zero.l RV.zero.c, .bool RV.zero.m, .slice RV.zero.p2 RV.zero.l2 RV.zero.c2, .bool RV.zero.n, .slice RV.zero.p RV.zero.l RV.zero.c, .bool RV.zero.m, .slice RV.zero.p2 RV.zero.l2 RV.zero.c2, .bool RV.zero.n, .slice RV.zero.p RV.zero.l RV.zero.c, .bool RV.zero.m, .slice RV.zero.p2 RV.zero.l2 RV.zero.c2, .bool RV.zero.n, .slice RV.zero.p RV.zero.l RV.zero.c, .bool RV.zero.m, .slice RV.zero.p2 RV.zero.l2 RV.zero.c2, .bool RV.zero.n, .slice RV.zero.p RV.zero.l RV.zero.c, .bool RV.zero.m, .slice RV.zero.p2 RV.zero.l2 RV.zero.c2, .bool RV.zero.n, .slice RV.zero.p RV.zero.l RV.zero.c, .bool RV.zero.m, .slice RV.zero.p2 RV.zero.l2 RV.zero.c2] 28)).heap.size = w.heap.size + 1 + 1 := by simp
  obtain ⟨wa, hwa⟩ : ∃ wa, wa = ((w.alloc (.cells #[.bool a0.n, .slice a0.p a0.l a0.c, .bool a0.m, .slice a0.p2 a0.l2 a0.c2, .bool a1.n, .slice a1.p a1.l a1.c, .bool a1.m, .slice a1.p2 a1.l2 a1.c2, .bool b0.n, .slice b0.p b0.l b0.c, .bool b0.m, .slice b0.p2 b0.l2 b0.c2, .bool b1.n, .slice b1.p b1.l b1.c, .bool b1.m, .slice b1.p2 b1.l2 b1.c2, .bool c0.n, .slice c0.p c0.l c0.c, .bool c0.m, .slice c0.p2 c0.l2 c0.c2, .bool c1.n, .slice c1.p c1.l c1.c, .bool c1.m, .slice c1.p2 c1.l2 c1.c2] 32)).alloc (.cells #[.bool RV.zero.n, .slice RV.zero.p RV.zero.l RV.zero.c, .bool RV.zero.m, .slice RV.zero.p2 RV.zero.l2 RV.zero.c2, .bool RV.zero.n, .slice RV.zero.p RV.zero.l RV.zero.c, .bool RV.zero.m, .slice RV.zero.p2 RV.zero.l2 RV.zero.c2, .bool RV.zero.n, .slice RV.zero.p RV.zero.l RV.zero.c, .bool RV.zero.m, .slice RV.zero.p2 RV.zero.l2 RV.zero.c2, .bool RV.zero.n, .slice RV.zero.p RV.zero.l RV.zero.c, .bool RV.zero.m, .slice RV.zero.p2 RV.zero.l2 RV.zero.c2, .bool RV.zero.n, .slice RV.zero.p RV.zero.l RV.zero.c, .bool RV.zero.m, .slice RV.zero.p2 RV.zero.l2 RV.zero.c2, .bool RV.zero.n, .slice RV.zero.p RV.zero.l RV.zero.c, .bool RV.zero.m, .slice RV.zero.p2 RV.zero.l2 RV.zero.c2, .bool RV.zero.n, .slice RV.zero.p RV.zero.l RV.zero.c, .bool RV.zero.m, .slice RV.zero.p2 RV.zero.l2 RV.zero.c2, .bool RV.zero.n, .slice RV.zero.p RV.zero.l RV.zero.c, .bool RV.zero.m, .slice RV.zero.p2 RV.zero.l2 RV.zero.c2] 28)) := ⟨_, rfl⟩
  have hwa2 := hwa
  simp only [RV.zero] at hwa2
  rw [← hwa] at hE hz bx0 bx1
  rw [← hwa2]
  have HE := Lib.hid hE
  clear hwa hwa2 hE
  have HB := Lib.hid (And.intro bx0 bx1)
  clear bx0 bx1
  have hlt : w.heap.size < w.heap.size + 1 ∧ w.heap.size + 1 < w.heap.size + 1 + 1 := by omega
  generalize hR : w.heap.size + 1 = R at *
  generalize hA : w.heap.size = BA at *
  have HLT := Lib.hid hlt
  have HZ := Lib.hid hz
  have HAA := Lib.hid hA
  clear hR hA hlt hz
  refine (HF.out _).mono ?_
  rintro e w1 hret
  obtain ⟨t, rfl, ht, he1⟩ := RetRE.v hret
  have HT := Lib.hid ht
  clear ht hret
  go_wp2_with fail
  have ke : Ext wa (w1.alloc (.cells #[.bool t.n, .slice t.p t.l t.c, .bool t.m, .slice t.p2 t.l2 t.c2] 26)) := he1.alloc _
  have j0 := HB.out.1.ext ke
  have jr := HB.out.2.ext ke
  have jt : Blk (w1.alloc (.cells #[.bool t.n, .slice t.p t.l t.c, .bool t.m, .slice t.p2 t.l2 t.c2] 26)) w1.heap.size 26 #[.bool t.n, .slice t.p t.l t.c, .bool t.m, .slice t.p2 t.l2 t.c2] := Blk.new_at w1 _ rfl _ _
  have HTT := Lib.hid (show t.Is (w1.alloc (.cells #[.bool t.n, .slice t.p t.l t.c, .bool t.m, .slice t.p2 t.l2 t.c2] 26)) S from HT.out.ext ((Ext.refl _).alloc _))
  have HEE := Lib.hid (HE.out.trans ke)
  have hne : BA ≠ R ∧ w1.heap.size ≠ R := by
    have h1 := HLT.out
    have h2 := HZ.out
    have h3 := he1.size
    omega
  clear ke he1
  generalize (w1.alloc (.cells #[.bool t.n, .slice t.p t.l t.c, .bool t.m, .slice t.p2 t.l2 t.c2] 26)) = wv at *
  generalize w1.heap.size = X at *
  have HJ := Lib.hid jr
  have gl : ∀ x, Own R wv x → x.cell? ⟨BA, 0, none⟩ = some (.bool a0.n) ∧ x.cell? ⟨BA, 1, none⟩ = some (.slice a0.p a0.l a0.c) ∧ x.cell? ⟨BA, 2, none⟩ = some (.bool a0.m) ∧ x.cell? ⟨BA, 3, none⟩ = some (.slice a0.p2 a0.l2 a0.c2) ∧ x.cell? ⟨BA, 4, none⟩ = some (.bool a1.n) ∧ x.cell? ⟨BA, 5, none⟩ = some (.slice a1.p a1.l a1.c) ∧ x.cell? ⟨BA, 6, none⟩ = some (.bool a1.m) ∧ x.cell? ⟨BA, 7, none⟩ = some (.slice a1.p2 a1.l2 a1.c2) ∧ x.cell? ⟨BA, 8, none⟩ = some (.bool b0.n) ∧ x.cell? ⟨BA, 9, none⟩ = some (.slice b0.p b0.l b0.c) ∧ x.cell? ⟨BA, 10, none⟩ = some (.bool b0.m) ∧ x.cell? ⟨BA, 11, none⟩ = some (.slice b0.p2 b0.l2 b0.c2) ∧ x.cell? ⟨BA, 12, none⟩ = some (.bool b1.n) ∧ x.cell? ⟨BA, 13, none⟩ = some (.slice b1.p b1.l b1.c) ∧ x.cell? ⟨BA, 14, none⟩ = some (.bool b1.m) ∧ x.cell? ⟨BA, 15, none⟩ = some (.slice b1.p2 b1.l2 b1.c2) ∧ x.cell? ⟨BA, 16, none⟩ = some (.bool c0.n) ∧ x.cell? ⟨BA, 17, none⟩ = some (.slice c0.p c0.l c0.c) ∧ x.cell? ⟨BA, 18, none⟩ = some (.bool c0.m) ∧ x.cell? ⟨BA, 19, none⟩ = some (.slice c0.p2 c0.l2 c0.c2) ∧ x.cell? ⟨BA, 20, none⟩ = some (.bool c1.n) ∧ x.cell? ⟨BA, 21, none⟩ = some (.slice c1.p c1.l c1.c) ∧ x.cell? ⟨BA, 22, none⟩ = some (.bool c1.m) ∧ x.cell? ⟨BA, 23, none⟩ = some (.slice c1.p2 c1.l2 c1.c2) ∧ x.cell? ⟨X, 0, none⟩ = some (.bool t.n) ∧ x.cell? ⟨X, 1, none⟩ = some (.slice t.p t.l t.c) ∧ x.cell? ⟨X, 2, none⟩ = some (.bool t.m) ∧ x.cell? ⟨X, 3, none⟩ = some (.slice t.p2 t.l2 t.c2) := fun x h => by
    have k0 := j0.own h hne.1
    have k1 := jt.own h hne.2
    exact ⟨k0.cell 0, k0.cell 1, k0.cell 2, k0.cell 3, k0.cell 4, k0.cell 5, k0.cell 6, k0.cell 7, k0.cell 8, k0.cell 9, k0.cell 10, k0.cell 11, k0.cell 12, k0.cell 13, k0.cell 14, k0.cell 15, k0.cell 16, k0.cell 17, k0.cell 18, k0.cell 19, k0.cell 20, k0.cell 21, k0.cell 22, k0.cell 23, k1.cell 0, k1.cell 1, k1.cell 2, k1.cell 3⟩
  clear j0 jr jt hne
  refine wp_region_held_drew (S := (fun x => Own R wv x)) (by kernel_rfl) (by (try dsimp only); (first | (with_reducible assumption) | (with_reducible exact Own.drew (Own.refl _ _)) | (with_reducible (apply Own.of_ext; assumption)))) (fun hH1_0 => ?_)
  refine wpAnyH_take_l (i := 0) (v := ?v1_0) rfl (by kernel_rfl) (by kernel_rfl) (by kernel_rfl) (fun _ _ _ h => h) (Or.inl ⟨by rfl, ?y1_0⟩) (by assumption) ?r1_0
  case y1_0 => (intro w hSw; (try dsimp only at hSw); go_simp <;> with_reducible rfl)
  (try simp only [Act.put, List.setIfInBounds_toArray, List.set_cons_zero, List.set_cons_succ])
  refine wpAnyH_take_l (i := 1) (v := ?v1_1) rfl (by kernel_rfl) (by kernel_rfl) (by kernel_rfl) (fun _ _ _ h => h) (Or.inl ⟨by rfl, ?y1_1⟩) (by assumption) ?r1_1
  case y1_1 => (intro w hSw; (try dsimp only at hSw); go_simp <;> with_reducible rfl)
  (try simp only [Act.put, List.setIfInBounds_toArray, List.set_cons_zero, List.set_cons_succ])
  refine wpAnyH_take_l (i := 3) (v := ?v1_3) rfl (by kernel_rfl) (by kernel_rfl) (by kernel_rfl) (fun _ _ _ h => h) (Or.inl ⟨by rfl, ?y1_3⟩) (by assumption) ?r1_3
  case y1_3 => (intro w hSw; (try dsimp only at hSw); go_simp <;> with_reducible rfl)
  (try simp only [Act.put, List.setIfInBounds_toArray, List.set_cons_zero, List.set_cons_succ])
  refine wpAnyH_take_l (i := 4) (v := ?v1_4) rfl (by kernel_rfl) (by kernel_rfl) (by kernel_rfl) (fun _ _ _ h => h) (Or.inl ⟨by rfl, ?y1_4⟩) (by assumption) ?r1_4
  case y1_4 => (intro w hSw; (try dsimp only at hSw); go_simp <;> with_reducible rfl)
  (try simp only [Act.put, List.setIfInBounds_toArray, List.set_cons_zero, List.set_cons_succ])
  refine wpAnyH_take_l (i := 5) (v := ?v1_5) rfl (by kernel_rfl) (by kernel_rfl) (by kernel_rfl) (fun _ _ _ h => h) (Or.inl ⟨by rfl, ?y1_5⟩) (by assumption) ?r1_5
  case y1_5 => (intro w hSw; (try dsimp only at hSw); go_simp <;> with_reducible rfl)
  (try simp only [Act.put, List.setIfInBounds_toArray, List.set_cons_zero, List.set_cons_succ])
  refine wpAnyH_take_l (i := 6) (v := ?v1_6) rfl (by kernel_rfl) (by kernel_rfl) (by kernel_rfl) (fun _ _ _ h => h) (Or.inl ⟨by rfl, ?y1_6⟩) (by assumption) ?r1_6
  case y1_6 => (intro w hSw; (try dsimp only at hSw); go_simp <;> with_reducible rfl)
  (try simp only [Act.put, List.setIfInBounds_toArray, List.set_cons_zero, List.set_cons_succ])
  refine wpAnyH_take_l (i := 7) (v := ?v1_7) rfl (by kernel_rfl) (by kernel_rfl) (by kernel_rfl) (fun _ _ _ h => h) (Or.inl ⟨by rfl, ?y1_7⟩) (by assumption) ?r1_7
  case y1_7 => (intro w hSw; (try dsimp only at hSw); go_simp <;> with_reducible rfl)
  (try simp only [Act.put, List.setIfInBounds_toArray, List.set_cons_zero, List.set_cons_succ])
  refine wpAnyH_take_l (i := 9) (v := ?v1_9) rfl (by kernel_rfl) (by kernel_rfl) (by kernel_rfl) (fun _ _ _ h => h) (Or.inl ⟨by rfl, ?y1_9⟩) (by assumption) ?r1_9
  case y1_9 => (intro w hSw; (try dsimp only at hSw); go_simp <;> with_reducible rfl)
  (try simp only [Act.put, List.setIfInBounds_toArray, List.set_cons_zero, List.set_cons_succ])
  refine wpAnyH_take_l (i := 10) (v := ?v1_10) rfl (by kernel_rfl) (by kernel_rfl) (by kernel_rfl) (fun _ _ _ h => h) (Or.inl ⟨by rfl, ?y1_10⟩) (by assumption) ?r1_10
  case y1_10 => (intro w hSw; (try dsimp only at hSw); go_simp <;> with_reducible rfl)
  (try simp only [Act.put, List.setIfInBounds_toArray, List.set_cons_zero, List.set_cons_succ])
  refine wpAnyH_take_l (i := 11) (v := ?v1_11) rfl (by kernel_rfl) (by kernel_rfl) (by kernel_rfl) (fun _ _ _ h => h) (Or.inl ⟨by rfl, ?y1_11⟩) (by assumption) ?r1_11
  case y1_11 => (intro w hSw; (try dsimp only at hSw); go_simp <;> with_reducible rfl)
  (try simp only [Act.put, List.setIfInBounds_toArray, List.set_cons_zero, List.set_cons_succ])
  refine wpAnyH_take_l (i := 12) (v := ?v1_12) rfl (by kernel_rfl) (by kernel_rfl) (by kernel_rfl) (fun _ _ _ h => h) (Or.inl ⟨by rfl, ?y1_12⟩) (by assumption) ?r1_12
  case y1_12 => (intro w hSw; (try dsimp only at hSw); go_simp <;> with_reducible rfl)
  (try simp only [Act.put, List.setIfInBounds_toArray, List.set_cons_zero, List.set_cons_succ])
  refine wpAnyH_take_l (i := 13) (v := ?v1_13) rfl (by kernel_rfl) (by kernel_rfl) (by kernel_rfl) (fun _ _ _ h => h) (Or.inl ⟨by rfl, ?y1_13⟩) (by assumption) ?r1_13
  case y1_13 => (intro w hSw; (try dsimp only at hSw); go_simp <;> with_reducible rfl)
  (try simp only [Act.put, List.setIfInBounds_toArray, List.set_cons_zero, List.set_cons_succ])
  refine wpAnyH_take_l (i := 15) (v := ?v1_15) rfl (by kernel_rfl) (by kernel_rfl) (by kernel_rfl) (fun _ _ _ h => h) (Or.inl ⟨by rfl, ?y1_15⟩) (by assumption) ?r1_15
  case y1_15 => (intro w hSw; (try dsimp only at hSw); go_simp <;> with_reducible rfl)
  (try simp only [Act.put, List.setIfInBounds_toArray, List.set_cons_zero, List.set_cons_succ])
  refine wpAnyH_take_l (i := 16) (v := ?v1_16) rfl (by kernel_rfl) (by kernel_rfl) (by kernel_rfl) (fun _ _ _ h => h) (Or.inl ⟨by rfl, ?y1_16⟩) (by assumption) ?r1_16
  case y1_16 => (intro w hSw; (try dsimp only at hSw); go_simp <;> with_reducible rfl)
  (try simp only [Act.put, List.setIfInBounds_toArray, List.set_cons_zero, List.set_cons_succ])
  refine wpAnyH_one_l (i := 2) rfl (by kernel_rfl) (fun K hK => ?_)
  go_simp
  (first | (go_at_call 31; ((with_reducible refine (HR1.out _ (HEE.out.trans (by first | assumption | exact Ext.drew (Ext.refl _)))).mono ?_)); rintro e wx ⟨u0, u1, rfl, hu0, hu1, hen1⟩; have hx1 : Ext wv wx := Ext.trans (by first | assumption | exact Ext.drew (Ext.refl _)) hen1) | (go_at_call 30; ((with_reducible refine (H1.out _ _ (HEE.out.trans (by first | assumption | exact Ext.drew (Ext.refl _))) (HTT.out.ext (by first | assumption | exact Ext.drew (Ext.refl _)))).mono ?_)); rintro e wy ⟨m0, m1, rfl, hm0, hm1, hen2⟩; have hx2 : Ext wv wy := Ext.trans (by first | assumption | exact Ext.drew (Ext.refl _)) hen2) | (go_at_call 30; ((with_reducible refine (H2.out _ _ (HEE.out.trans (by first | assumption | exact Ext.drew (Ext.refl _))) (HTT.out.ext (by first | assumption | exact Ext.drew (Ext.refl _)))).mono ?_)); rintro e wz ⟨n0, n1, rfl, hn0, hn1, hen3⟩; have hx3 : Ext wv wz := Ext.trans (by first | assumption | exact Ext.drew (Ext.refl _)) hen3) | (go_at_call 31; ((with_reducible refine (HR2.out _ (HEE.out.trans (by first | assumption | exact Ext.drew (Ext.refl _)))).mono ?_)); rintro e wf ⟨v0, v1, rfl, hv0, hv1, hen4⟩; have hx4 : Ext wv wf := Ext.trans (by first | assumption | exact Ext.drew (Ext.refl _)) hen4; clear gl; have XR := Blk.ext HJ.out hx4))
  refine hK.out _ _ (by (try dsimp only); (first | (with_reducible assumption) | (with_reducible exact Own.drew (Own.refl _ _)) | (with_reducible (apply Own.of_ext; assumption)))) (fun hH1_1 => ?_)
  clear hK K hH1_0
  (try simp only [Act.put, List.setIfInBounds_toArray, List.set_cons_zero, List.set_cons_succ])
  refine wpAnyH_one_l (i := 8) rfl (by kernel_rfl) (fun K hK => ?_)
  go_simp
  (first | (go_at_call 31; ((with_reducible refine (HR1.out _ (HEE.out.trans (by first | assumption | exact Ext.drew (Ext.refl _)))).mono ?_)); rintro e wx ⟨u0, u1, rfl, hu0, hu1, hen1⟩; have hx1 : Ext wv wx := Ext.trans (by first | assumption | exact Ext.drew (Ext.refl _)) hen1) | (go_at_call 30; ((with_reducible refine (H1.out _ _ (HEE.out.trans (by first | assumption | exact Ext.drew (Ext.refl _))) (HTT.out.ext (by first | assumption | exact Ext.drew (Ext.refl _)))).mono ?_)); rintro e wy ⟨m0, m1, rfl, hm0, hm1, hen2⟩; have hx2 : Ext wv wy := Ext.trans (by first | assumption | exact Ext.drew (Ext.refl _)) hen2) | (go_at_call 30; ((with_reducible refine (H2.out _ _ (HEE.out.trans (by first | assumption | exact Ext.drew (Ext.refl _))) (HTT.out.ext (by first | assumption | exact Ext.drew (Ext.refl _)))).mono ?_)); rintro e wz ⟨n0, n1, rfl, hn0, hn1, hen3⟩; have hx3 : Ext wv wz := Ext.trans (by first | assumption | exact Ext.drew (Ext.refl _)) hen3) | (go_at_call 31; ((with_reducible refine (HR2.out _ (HEE.out.trans (by first | assumption | exact Ext.drew (Ext.refl _)))).mono ?_)); rintro e wf ⟨v0, v1, rfl, hv0, hv1, hen4⟩; have hx4 : Ext wv wf := Ext.trans (by first | assumption | exact Ext.drew (Ext.refl _)) hen4; clear gl; have XR := Blk.ext HJ.out hx4))
  refine hK.out _ _ (by (try dsimp only); (first | (with_reducible assumption) | (with_reducible exact Own.drew (Own.refl _ _)) | (with_reducible (apply Own.of_ext; assumption)))) (fun hH1_2 => ?_)
  clear hK K hH1_1
  (try simp only [Act.put, List.setIfInBounds_toArray, List.set_cons_zero, List.set_cons_succ])
  refine wpAnyH_one_l (i := 14) rfl (by kernel_rfl) (fun K hK => ?_)
  go_simp
  (first | (go_at_call 31; ((with_reducible refine (HR1.out _ (HEE.out.trans (by first | assumption | exact Ext.drew (Ext.refl _)))).mono ?_)); rintro e wx ⟨u0, u1, rfl, hu0, hu1, hen1⟩; have hx1 : Ext wv wx := Ext.trans (by first | assumption | exact Ext.drew (Ext.refl _)) hen1) | (go_at_call 30; ((with_reducible refine (H1.out _ _ (HEE.out.trans (by first | assumption | exact Ext.drew (Ext.refl _))) (HTT.out.ext (by first | assumption | exact Ext.drew (Ext.refl _)))).mono ?_)); rintro e wy ⟨m0, m1, rfl, hm0, hm1, hen2⟩; have hx2 : Ext wv wy := Ext.trans (by first | assumption | exact Ext.drew (Ext.refl _)) hen2) | (go_at_call 30; ((with_reducible refine (H2.out _ _ (HEE.out.trans (by first | assumption | exact Ext.drew (Ext.refl _))) (HTT.out.ext (by first | assumption | exact Ext.drew (Ext.refl _)))).mono ?_)); rintro e wz ⟨n0, n1, rfl, hn0, hn1, hen3⟩; have hx3 : Ext wv wz := Ext.trans (by first | assumption | exact Ext.drew (Ext.refl _)) hen3) | (go_at_call 31; ((with_reducible refine (HR2.out _ (HEE.out.trans (by first | assumption | exact Ext.drew (Ext.refl _)))).mono ?_)); rintro e wf ⟨v0, v1, rfl, hv0, hv1, hen4⟩; have hx4 : Ext wv wf := Ext.trans (by first | assumption | exact Ext.drew (Ext.refl _)) hen4; clear gl; have XR := Blk.ext HJ.out hx4))
  refine hK.out _ _ (by (try dsimp only); (first | (with_reducible assumption) | (with_reducible exact Own.drew (Own.refl _ _)) | (with_reducible (apply Own.of_ext; assumption)))) (fun hH1_3 => ?_)
  clear hK K hH1_2
  (try simp only [Act.put, List.setIfInBounds_toArray, List.set_cons_zero, List.set_cons_succ])
  refine wpAnyH_one_l (i := 17) rfl (by kernel_rfl) (fun K hK => ?_)
  go_simp
  (first | (go_at_call 31; ((with_reducible refine (HR1.out _ (HEE.out.trans (by first | assumption | exact Ext.drew (Ext.refl _)))).mono ?_)); rintro e wx ⟨u0, u1, rfl, hu0, hu1, hen1⟩; have hx1 : Ext wv wx := Ext.trans (by first | assumption | exact Ext.drew (Ext.refl _)) hen1) | (go_at_call 30; ((with_reducible refine (H1.out _ _ (HEE.out.trans (by first | assumption | exact Ext.drew (Ext.refl _))) (HTT.out.ext (by first | assumption | exact Ext.drew (Ext.refl _)))).mono ?_)); rintro e wy ⟨m0, m1, rfl, hm0, hm1, hen2⟩; have hx2 : Ext wv wy := Ext.trans (by first | assumption | exact Ext.drew (Ext.refl _)) hen2) | (go_at_call 30; ((with_reducible refine (H2.out _ _ (HEE.out.trans (by first | assumption | exact Ext.drew (Ext.refl _))) (HTT.out.ext (by first | assumption | exact Ext.drew (Ext.refl _)))).mono ?_)); rintro e wz ⟨n0, n1, rfl, hn0, hn1, hen3⟩; have hx3 : Ext wv wz := Ext.trans (by first | assumption | exact Ext.drew (Ext.refl _)) hen3) | (go_at_call 31; ((with_reducible refine (HR2.out _ (HEE.out.trans (by first | assumption | exact Ext.drew (Ext.refl _)))).mono ?_)); rintro e wf ⟨v0, v1, rfl, hv0, hv1, hen4⟩; have hx4 : Ext wv wf := Ext.trans (by first | assumption | exact Ext.drew (Ext.refl _)) hen4; clear gl; have XR := Blk.ext HJ.out hx4))
  refine hK.out _ _ (by (try dsimp only); (first | (with_reducible assumption) | (with_reducible exact Own.drew (Own.refl _ _)) | (with_reducible (apply Own.of_ext; assumption)))) (fun hH1_4 => ?_)
  clear hK K hH1_3
  (try simp only [Act.put, List.setIfInBounds_toArray, List.set_cons_zero, List.set_cons_succ])
  refine wpAnyH_take_l (i := 18) (v := ?v1_18) rfl (by kernel_rfl) (by kernel_rfl) (by kernel_rfl) (fun _ _ _ h => h) (Or.inl ⟨by rfl, ?y1_18⟩) (by assumption) ?r1_18
  case y1_18 => (intro w hSw; (try dsimp only at hSw); go_simp <;> with_reducible rfl)
  (try simp only [Act.put, List.setIfInBounds_toArray, List.set_cons_zero, List.set_cons_succ])
  have o1 := Own.setCells wf R #[.bool u0.n, .slice u0.p u0.l u0.c, .bool u0.m, .slice u0.p2 u0.l2 u0.c2, .bool u1.n, .slice u1.p u1.l u1.c, .bool u1.m, .slice u1.p2 u1.l2 u1.c2, .bool m0.n, .slice m0.p m0.l m0.c, .bool m0.m, .slice m0.p2 m0.l2 m0.c2, .bool m1.n, .slice m1.p m1.l m1.c, .bool m1.m, .slice m1.p2 m1.l2 m1.c2, .bool n0.n, .slice n0.p n0.l n0.c, .bool n0.m, .slice n0.p2 n0.l2 n0.c2, .bool n1.n, .slice n1.p n1.l n1.c, .bool n1.m, .slice n1.p2 n1.l2 n1.c2, .bool v0.n, .slice v0.p v0.l v0.c, .bool v0.m, .slice v0.p2 v0.l2 v0.c2, .bool v1.n, .slice v1.p v1.l v1.c, .bool v1.m, .slice v1.p2 v1.l2 v1.c2]
  have BR := XR.setCells #[.bool u0.n, .slice u0.p u0.l u0.c, .bool u0.m, .slice u0.p2 u0.l2 u0.c2, .bool u1.n, .slice u1.p u1.l u1.c, .bool u1.m, .slice u1.p2 u1.l2 u1.c2, .bool m0.n, .slice m0.p m0.l m0.c, .bool m0.m, .slice m0.p2 m0.l2 m0.c2, .bool m1.n, .slice m1.p m1.l m1.c, .bool m1.m, .slice m1.p2 m1.l2 m1.c2, .bool n0.n, .slice n0.p n0.l n0.c, .bool n0.m, .slice n0.p2 n0.l2 n0.c2, .bool n1.n, .slice n1.p n1.l n1.c, .bool n1.m, .slice n1.p2 n1.l2 n1.c2, .bool v0.n, .slice v0.p v0.l v0.c, .bool v0.m, .slice v0.p2 v0.l2 v0.c2, .bool v1.n, .slice v1.p v1.l v1.c, .bool v1.m, .slice v1.p2 v1.l2 v1.c2] rfl
  have HS1 := Lib.hid (show Own R wv (wf.setCells R 0 (#[.bool u0.n, .slice u0.p u0.l u0.c, .bool u0.m, .slice u0.p2 u0.l2 u0.c2, .bool u1.n, .slice u1.p u1.l u1.c, .bool u1.m, .slice u1.p2 u1.l2 u1.c2, .bool m0.n, .slice m0.p m0.l m0.c, .bool m0.m, .slice m0.p2 m0.l2 m0.c2, .bool m1.n, .slice m1.p m1.l m1.c, .bool m1.m, .slice m1.p2 m1.l2 m1.c2, .bool n0.n, .slice n0.p n0.l n0.c, .bool n0.m, .slice n0.p2 n0.l2 n0.c2, .bool n1.n, .slice n1.p n1.l n1.c, .bool n1.m, .slice n1.p2 n1.l2 n1.c2, .bool v0.n, .slice v0.p v0.l v0.c, .bool v0.m, .slice v0.p2 v0.l2 v0.c2, .bool v1.n, .slice v1.p v1.l v1.c, .bool v1.m, .slice v1.p2 v1.l2 v1.c2] : Array Value).toList) from Own.then_ext' hx4 o1)
  refine wpAnyH_store_l (i := 19) (by rfl) (by kernel_rfl) (by rfl) _ _ _ (by rfl) R _ _ #[.bool u0.n, .slice u0.p u0.l u0.c, .bool u0.m, .slice u0.p2 u0.l2 u0.c2, .bool u1.n, .slice u1.p u1.l u1.c, .bool u1.m, .slice u1.p2 u1.l2 u1.c2, .bool m0.n, .slice m0.p m0.l m0.c, .bool m0.m, .slice m0.p2 m0.l2 m0.c2, .bool m1.n, .slice m1.p m1.l m1.c, .bool m1.m, .slice m1.p2 m1.l2 m1.c2, .bool n0.n, .slice n0.p n0.l n0.c, .bool n0.m, .slice n0.p2 n0.l2 n0.c2, .bool n1.n, .slice n1.p n1.l n1.c, .bool n1.m, .slice n1.p2 n1.l2 n1.c2, .bool v0.n, .slice v0.p v0.l v0.c, .bool v0.m, .slice v0.p2 v0.l2 v0.c2, .bool v1.n, .slice v1.p v1.l v1.c, .bool v1.m, .slice v1.p2 v1.l2 v1.c2] (by rfl) (by rfl) XR rfl (by kernel_rfl) (all_oneCell_toArray (by simp [Value.oneCell'])) HS1.out ?_
  (try simp only [Act.put, List.setIfInBounds_toArray, List.set_cons_zero, List.set_cons_succ])
  refine wpAnyH_done (by kernel_rfl) ?_ _
  have fin : ∀ (r : RV) (q : Rat), r.Is wf q → r.Is (wf.setCells R 0 (#[.bool u0.n, .slice u0.p u0.l u0.c, .bool u0.m, .slice u0.p2 u0.l2 u0.c2, .bool u1.n, .slice u1.p u1.l u1.c, .bool u1.m, .slice u1.p2 u1.l2 u1.c2, .bool m0.n, .slice m0.p m0.l m0.c, .bool m0.m, .slice m0.p2 m0.l2 m0.c2, .bool m1.n, .slice m1.p m1.l m1.c, .bool m1.m, .slice m1.p2 m1.l2 m1.c2, .bool n0.n, .slice n0.p n0.l n0.c, .bool n0.m, .slice n0.p2 n0.l2 n0.c2, .bool n1.n, .slice n1.p n1.l n1.c, .bool n1.m, .slice n1.p2 n1.l2 n1.c2, .bool v0.n, .slice v0.p v0.l v0.c, .bool v0.m, .slice v0.p2 v0.l2 v0.c2, .bool v1.n, .slice v1.p v1.l v1.c, .bool v1.m, .slice v1.p2 v1.l2 v1.c2] : Array Value).toList) q := fun r q h => h.own XR noU32z o1
  have ex := o1.ext (HEE.out.trans hx4) (by rw [HAA.out]; have := HLT.out; omega)
  generalize (wf.setCells R 0 (#[.bool u0.n, .slice u0.p u0.l u0.c, .bool u0.m, .slice u0.p2 u0.l2 u0.c2, .bool u1.n, .slice u1.p u1.l u1.c, .bool u1.m, .slice u1.p2 u1.l2 u1.c2, .bool m0.n, .slice m0.p m0.l m0.c, .bool m0.m, .slice m0.p2 m0.l2 m0.c2, .bool m1.n, .slice m1.p m1.l m1.c, .bool m1.m, .slice m1.p2 m1.l2 m1.c2, .bool n0.n, .slice n0.p n0.l n0.c, .bool n0.m, .slice n0.p2 n0.l2 n0.c2, .bool n1.n, .slice n1.p n1.l n1.c, .bool n1.m, .slice n1.p2 n1.l2 n1.c2, .bool v0.n, .slice v0.p v0.l v0.c, .bool v0.m, .slice v0.p2 v0.l2 v0.c2, .bool v1.n, .slice v1.p v1.l v1.c, .bool v1.m, .slice v1.p2 v1.l2 v1.c2] : Array Value).toList) = wg at *
  have HF2 := Lib.hid (And.intro fin ex)
  clear fin ex o1 HS1 XR
  go_wp2_with fail
  refine bodyPost_ret (v := .agg #[.bool u0.n, .slice u0.p u0.l u0.c, .bool u0.m, .slice u0.p2 u0.l2 u0.c2, .bool u1.n, .slice u1.p u1.l u1.c, .bool u1.m, .slice u1.p2 u1.l2 u1.c2, .bool m0.n, .slice m0.p m0.l m0.c, .bool m0.m, .slice m0.p2 m0.l2 m0.c2, .bool m1.n, .slice m1.p m1.l m1.c, .bool m1.m, .slice m1.p2 m1.l2 m1.c2, .bool n0.n, .slice n0.p n0.l n0.c, .bool n0.m, .slice n0.p2 n0.l2 n0.c2, .bool n1.n, .slice n1.p n1.l n1.c, .bool n1.m, .slice n1.p2 n1.l2 n1.c2, .bool v0.n, .slice v0.p v0.l v0.c, .bool v0.m, .slice v0.p2 v0.l2 v0.c2, .bool v1.n, .slice v1.p v1.l v1.c, .bool v1.m, .slice v1.p2 v1.l2 v1.c2]) ?_ rfl ⟨u0, u1, m0, m1, n0, n1, v0, v1, rfl, ⟨HF2.out.1 _ _ (hu0.ext (hen2.trans (hen3.trans hen4))), HF2.out.1 _ _ (hu1.ext (hen2.trans (hen3.trans hen4))), HF2.out.1 _ _ (hm0.ext (hen3.trans hen4)), HF2.out.1 _ _ (hm1.ext (hen3.trans hen4)), HF2.out.1 _ _ (hn0.ext hen4), HF2.out.1 _ _ (hn1.ext hen4), HF2.out.1 _ _ (hv0), HF2.out.1 _ _ (hv1)⟩, HF2.out.2⟩
  exact results_cell1 rfl rfl (BR.loadVar rfl rfl rfl)
end Go.Proofs.YtllpkoinjompcaaGreat

namespace Go.Proofs.YtllpkoinjompcaaGreat
open Go.RowKit

/-- The cells are a rational number, at most L digits each. -/
def NIn (L : Nat) (w : World) (cs : Array Value) (q : Rat) : Prop := ∃ a : RV, cs = #[.bool a.n, .slice a.p a.l a.c, .bool a.m, .slice a.p2 a.l2 a.c2] ∧ a.In L w q
/-- .. normalized. -/
def NIs (w : World) (cs : Array Value) (q : Rat) : Prop := ∃ a : RV, cs = #[.bool a.n, .slice a.p a.l a.c, .bool a.m, .slice a.p2 a.l2 a.c2] ∧ a.Is w q
theorem NIn.ext {L : Nat} {w w' : World} {cs : Array Value} {q : Rat} (h : NIn L w cs q) (e : Ext w w') : NIn L w' cs q := by obtain ⟨a, h1, h2⟩ := h; exact ⟨a, h1, h2.ext e⟩
theorem NIs.ext {w w' : World} {cs : Array Value} {q : Rat} (h : NIs w cs q) (e : Ext w w') : NIs w' cs q := by obtain ⟨a, h1, h2⟩ := h; exact ⟨a, h1, h2.ext e⟩
theorem NIs.isIn {L : Nat} {w : World} {cs : Array Value} {q : Rat} (h : NIs w cs q) (hl : Nm.rl q ≤ L) : NIn L w cs q := by obtain ⟨a, h1, h2⟩ := h; exact ⟨a, h1, h2.isIn hl⟩
theorem NIn.mono {L M : Nat} {w : World} {cs : Array Value} {q : Rat} (h : NIn L w cs q) (hl : L ≤ M) : NIn M w cs q := by obtain ⟨a, h1, h2⟩ := h; exact ⟨a, h1, h2.mono hl⟩
theorem NIn.rl {L : Nat} {w : World} {cs : Array Value} {q : Rat} (h : NIn L w cs q) (h1 : 1 ≤ L) : Nm.rl q ≤ L := by obtain ⟨a, _, h2⟩ := h; have := h2.rl; omega
theorem NIn.size {L : Nat} {w : World} {cs : Array Value} {q : Rat} (h : NIn L w cs q) : cs.size = 4 := by obtain ⟨a, rfl, _⟩ := h; rfl
theorem NIs.size {w : World} {cs : Array Value} {q : Rat} (h : NIs w cs q) : cs.size = 4 := by obtain ⟨a, rfl, _⟩ := h; rfl
theorem NIs.one {w : World} {cs : Array Value} {q : Rat} (h : NIs w cs q) : cs.all (·.oneCell') = true := by obtain ⟨a, rfl, _⟩ := h; exact all_oneCell_toArray (by simp [Value.oneCell'])

def PtIn (L : Nat) (w : World) (cs : Array Value) (A0 A1 : Rat) : Prop := ∃ a0 a1 : RV, cs = #[.bool a0.n, .slice a0.p a0.l a0.c, .bool a0.m, .slice a0.p2 a0.l2 a0.c2, .bool a1.n, .slice a1.p a1.l a1.c, .bool a1.m, .slice a1.p2 a1.l2 a1.c2] ∧ a0.In L w A0 ∧ a1.In L w A1
theorem PtIn.ext {L : Nat} {w : World} {cs : Array Value} {A0 A1 : Rat} {w' : World} (h : PtIn L w cs A0 A1) (x : Ext w w') : PtIn L w' cs A0 A1 := by obtain ⟨a0, a1, e, h0, h1⟩ := h; exact ⟨a0, a1, e, h0.ext x, h1.ext x⟩
theorem PtIn.size {L : Nat} {w : World} {cs : Array Value} {A0 A1 : Rat} (h : PtIn L w cs A0 A1) : cs.size = 8 := by obtain ⟨a0, a1, e, h0, h1⟩ := h; rw [e]; rfl
theorem PtIn.one {L : Nat} {w : World} {cs : Array Value} {A0 A1 : Rat} (h : PtIn L w cs A0 A1) : cs.all (·.oneCell') = true := by obtain ⟨a0, a1, e, h0, h1⟩ := h; rw [e]; exact all_oneCell_toArray (by simp [Value.oneCell'])
theorem PtIn.c0 {L : Nat} {w : World} {cs : Array Value} {A0 A1 : Rat} (h : PtIn L w cs A0 A1) : NIn L w (cs.extract 0 (0 + 4)) A0 := by obtain ⟨a0, a1, e, h0, h1⟩ := h; exact ⟨a0, by rw [e]; rfl, h0⟩
theorem PtIn.c1 {L : Nat} {w : World} {cs : Array Value} {A0 A1 : Rat} (h : PtIn L w cs A0 A1) : NIn L w (cs.extract 4 (4 + 4)) A1 := by obtain ⟨a0, a1, e, h0, h1⟩ := h; exact ⟨a1, by rw [e]; rfl, h1⟩
theorem PtIn.mono {L : Nat} {w : World} {cs : Array Value} {A0 A1 : Rat} {M : Nat} (h : PtIn L w cs A0 A1) (hl : L ≤ M) : PtIn M w cs A0 A1 := by obtain ⟨a0, a1, e, h0, h1⟩ := h; exact ⟨a0, a1, e, h0.mono hl, h1.mono hl⟩
def PtIs (w : World) (cs : Array Value) (A0 A1 : Rat) : Prop := ∃ a0 a1 : RV, cs = #[.bool a0.n, .slice a0.p a0.l a0.c, .bool a0.m, .slice a0.p2 a0.l2 a0.c2, .bool a1.n, .slice a1.p a1.l a1.c, .bool a1.m, .slice a1.p2 a1.l2 a1.c2] ∧ a0.Is w A0 ∧ a1.Is w A1
theorem PtIs.ext {w : World} {cs : Array Value} {A0 A1 : Rat} {w' : World} (h : PtIs w cs A0 A1) (x : Ext w w') : PtIs w' cs A0 A1 := by obtain ⟨a0, a1, e, h0, h1⟩ := h; exact ⟨a0, a1, e, h0.ext x, h1.ext x⟩
theorem PtIs.size {w : World} {cs : Array Value} {A0 A1 : Rat} (h : PtIs w cs A0 A1) : cs.size = 8 := by obtain ⟨a0, a1, e, h0, h1⟩ := h; rw [e]; rfl
theorem PtIs.one {w : World} {cs : Array Value} {A0 A1 : Rat} (h : PtIs w cs A0 A1) : cs.all (·.oneCell') = true := by obtain ⟨a0, a1, e, h0, h1⟩ := h; rw [e]; exact all_oneCell_toArray (by simp [Value.oneCell'])
theorem PtIs.map {w : World} {cs : Array Value} {A0 A1 : Rat} {w' : World} (h : PtIs w cs A0 A1) (x : ∀ (r : RV) (q : Rat), r.Is w q → r.Is w' q) : PtIs w' cs A0 A1 := by obtain ⟨a0, a1, e, h0, h1⟩ := h; exact ⟨a0, a1, e, x _ _ h0, x _ _ h1⟩
theorem PtIs.c0 {w : World} {cs : Array Value} {A0 A1 : Rat} (h : PtIs w cs A0 A1) : NIs w (cs.extract 0 (0 + 4)) A0 := by obtain ⟨a0, a1, e, h0, h1⟩ := h; exact ⟨a0, by rw [e]; rfl, h0⟩
theorem PtIs.c1 {w : World} {cs : Array Value} {A0 A1 : Rat} (h : PtIs w cs A0 A1) : NIs w (cs.extract 4 (4 + 4)) A1 := by obtain ⟨a0, a1, e, h0, h1⟩ := h; exact ⟨a1, by rw [e]; rfl, h1⟩
def Q3In (L : Nat) (w : World) (cs : Array Value) (A0 A1 B0 B1 C0 C1 : Rat) : Prop := ∃ a0 a1 b0 b1 c0 c1 : RV, cs = #[.bool a0.n, .slice a0.p a0.l a0.c, .bool a0.m, .slice a0.p2 a0.l2 a0.c2, .bool a1.n, .slice a1.p a1.l a1.c, .bool a1.m, .slice a1.p2 a1.l2 a1.c2, .bool b0.n, .slice b0.p b0.l b0.c, .bool b0.m, .slice b0.p2 b0.l2 b0.c2, .bool b1.n, .slice b1.p b1.l b1.c, .bool b1.m, .slice b1.p2 b1.l2 b1.c2, .bool c0.n, .slice c0.p c0.l c0.c, .bool c0.m, .slice c0.p2 c0.l2 c0.c2, .bool c1.n, .slice c1.p c1.l c1.c, .bool c1.m, .slice c1.p2 c1.l2 c1.c2] ∧ a0.In L w A0 ∧ a1.In L w A1 ∧ b0.In L w B0 ∧ b1.In L w B1 ∧ c0.In L w C0 ∧ c1.In L w C1
theorem Q3In.ext {L : Nat} {w : World} {cs : Array Value} {A0 A1 B0 B1 C0 C1 : Rat} {w' : World} (h : Q3In L w cs A0 A1 B0 B1 C0 C1) (x : Ext w w') : Q3In L w' cs A0 A1 B0 B1 C0 C1 := by obtain ⟨a0, a1, b0, b1, c0, c1, e, h0, h1, h2, h3, h4, h5⟩ := h; exact ⟨a0, a1, b0, b1, c0, c1, e, h0.ext x, h1.ext x, h2.ext x, h3.ext x, h4.ext x, h5.ext x⟩
theorem Q3In.size {L : Nat} {w : World} {cs : Array Value} {A0 A1 B0 B1 C0 C1 : Rat} (h : Q3In L w cs A0 A1 B0 B1 C0 C1) : cs.size = 24 := by obtain ⟨a0, a1, b0, b1, c0, c1, e, h0, h1, h2, h3, h4, h5⟩ := h; rw [e]; rfl
theorem Q3In.one {L : Nat} {w : World} {cs : Array Value} {A0 A1 B0 B1 C0 C1 : Rat} (h : Q3In L w cs A0 A1 B0 B1 C0 C1) : cs.all (·.oneCell') = true := by obtain ⟨a0, a1, b0, b1, c0, c1, e, h0, h1, h2, h3, h4, h5⟩ := h; rw [e]; exact all_oneCell_toArray (by simp [Value.oneCell'])
theorem Q3In.e0 {L : Nat} {w : World} {cs : Array Value} {A0 A1 B0 B1 C0 C1 : Rat} (h : Q3In L w cs A0 A1 B0 B1 C0 C1) : NIn L w (cs.extract 0 (0 + 4)) A0 := by obtain ⟨a0, a1, b0, b1, c0, c1, e, h0, h1, h2, h3, h4, h5⟩ := h; exact ⟨a0, by rw [e]; rfl, h0⟩
theorem Q3In.e1 {L : Nat} {w : World} {cs : Array Value} {A0 A1 B0 B1 C0 C1 : Rat} (h : Q3In L w cs A0 A1 B0 B1 C0 C1) : NIn L w (cs.extract 4 (4 + 4)) A1 := by obtain ⟨a0, a1, b0, b1, c0, c1, e, h0, h1, h2, h3, h4, h5⟩ := h; exact ⟨a1, by rw [e]; rfl, h1⟩
theorem Q3In.e2 {L : Nat} {w : World} {cs : Array Value} {A0 A1 B0 B1 C0 C1 : Rat} (h : Q3In L w cs A0 A1 B0 B1 C0 C1) : NIn L w (cs.extract 8 (8 + 4)) B0 := by obtain ⟨a0, a1, b0, b1, c0, c1, e, h0, h1, h2, h3, h4, h5⟩ := h; exact ⟨b0, by rw [e]; rfl, h2⟩
theorem Q3In.e3 {L : Nat} {w : World} {cs : Array Value} {A0 A1 B0 B1 C0 C1 : Rat} (h : Q3In L w cs A0 A1 B0 B1 C0 C1) : NIn L w (cs.extract 12 (12 + 4)) B1 := by obtain ⟨a0, a1, b0, b1, c0, c1, e, h0, h1, h2, h3, h4, h5⟩ := h; exact ⟨b1, by rw [e]; rfl, h3⟩
theorem Q3In.e4 {L : Nat} {w : World} {cs : Array Value} {A0 A1 B0 B1 C0 C1 : Rat} (h : Q3In L w cs A0 A1 B0 B1 C0 C1) : NIn L w (cs.extract 16 (16 + 4)) C0 := by obtain ⟨a0, a1, b0, b1, c0, c1, e, h0, h1, h2, h3, h4, h5⟩ := h; exact ⟨c0, by rw [e]; rfl, h4⟩
theorem Q3In.e5 {L : Nat} {w : World} {cs : Array Value} {A0 A1 B0 B1 C0 C1 : Rat} (h : Q3In L w cs A0 A1 B0 B1 C0 C1) : NIn L w (cs.extract 20 (20 + 4)) C1 := by obtain ⟨a0, a1, b0, b1, c0, c1, e, h0, h1, h2, h3, h4, h5⟩ := h; exact ⟨c1, by rw [e]; rfl, h5⟩
theorem Q3In.p0 {L : Nat} {w : World} {cs : Array Value} {A0 A1 B0 B1 C0 C1 : Rat} (h : Q3In L w cs A0 A1 B0 B1 C0 C1) : PtIn L w (cs.extract 0 (0 + 8)) A0 A1 := by obtain ⟨a0, a1, b0, b1, c0, c1, e, h0, h1, h2, h3, h4, h5⟩ := h; exact ⟨a0, a1, by rw [e]; rfl, h0, h1⟩
theorem Q3In.p1 {L : Nat} {w : World} {cs : Array Value} {A0 A1 B0 B1 C0 C1 : Rat} (h : Q3In L w cs A0 A1 B0 B1 C0 C1) : PtIn L w (cs.extract 8 (8 + 8)) B0 B1 := by obtain ⟨a0, a1, b0, b1, c0, c1, e, h0, h1, h2, h3, h4, h5⟩ := h; exact ⟨b0, b1, by rw [e]; rfl, h2, h3⟩
theorem Q3In.p2 {L : Nat} {w : World} {cs : Array Value} {A0 A1 B0 B1 C0 C1 : Rat} (h : Q3In L w cs A0 A1 B0 B1 C0 C1) : PtIn L w (cs.extract 16 (16 + 8)) C0 C1 := by obtain ⟨a0, a1, b0, b1, c0, c1, e, h0, h1, h2, h3, h4, h5⟩ := h; exact ⟨c0, c1, by rw [e]; rfl, h4, h5⟩
theorem Q3In.mono {L : Nat} {w : World} {cs : Array Value} {A0 A1 B0 B1 C0 C1 : Rat} {M : Nat} (h : Q3In L w cs A0 A1 B0 B1 C0 C1) (hl : L ≤ M) : Q3In M w cs A0 A1 B0 B1 C0 C1 := by obtain ⟨a0, a1, b0, b1, c0, c1, e, h0, h1, h2, h3, h4, h5⟩ := h; exact ⟨a0, a1, b0, b1, c0, c1, e, h0.mono hl, h1.mono hl, h2.mono hl, h3.mono hl, h4.mono hl, h5.mono hl⟩
def Q3Is (w : World) (cs : Array Value) (A0 A1 B0 B1 C0 C1 : Rat) : Prop := ∃ a0 a1 b0 b1 c0 c1 : RV, cs = #[.bool a0.n, .slice a0.p a0.l a0.c, .bool a0.m, .slice a0.p2 a0.l2 a0.c2, .bool a1.n, .slice a1.p a1.l a1.c, .bool a1.m, .slice a1.p2 a1.l2 a1.c2, .bool b0.n, .slice b0.p b0.l b0.c, .bool b0.m, .slice b0.p2 b0.l2 b0.c2, .bool b1.n, .slice b1.p b1.l b1.c, .bool b1.m, .slice b1.p2 b1.l2 b1.c2, .bool c0.n, .slice c0.p c0.l c0.c, .bool c0.m, .slice c0.p2 c0.l2 c0.c2, .bool c1.n, .slice c1.p c1.l c1.c, .bool c1.m, .slice c1.p2 c1.l2 c1.c2] ∧ a0.Is w A0 ∧ a1.Is w A1 ∧ b0.Is w B0 ∧ b1.Is w B1 ∧ c0.Is w C0 ∧ c1.Is w C1
theorem Q3Is.ext {w : World} {cs : Array Value} {A0 A1 B0 B1 C0 C1 : Rat} {w' : World} (h : Q3Is w cs A0 A1 B0 B1 C0 C1) (x : Ext w w') : Q3Is w' cs A0 A1 B0 B1 C0 C1 := by obtain ⟨a0, a1, b0, b1, c0, c1, e, h0, h1, h2, h3, h4, h5⟩ := h; exact ⟨a0, a1, b0, b1, c0, c1, e, h0.ext x, h1.ext x, h2.ext x, h3.ext x, h4.ext x, h5.ext x⟩
theorem Q3Is.size {w : World} {cs : Array Value} {A0 A1 B0 B1 C0 C1 : Rat} (h : Q3Is w cs A0 A1 B0 B1 C0 C1) : cs.size = 24 := by obtain ⟨a0, a1, b0, b1, c0, c1, e, h0, h1, h2, h3, h4, h5⟩ := h; rw [e]; rfl
theorem Q3Is.one {w : World} {cs : Array Value} {A0 A1 B0 B1 C0 C1 : Rat} (h : Q3Is w cs A0 A1 B0 B1 C0 C1) : cs.all (·.oneCell') = true := by obtain ⟨a0, a1, b0, b1, c0, c1, e, h0, h1, h2, h3, h4, h5⟩ := h; rw [e]; exact all_oneCell_toArray (by simp [Value.oneCell'])
theorem Q3Is.map {w : World} {cs : Array Value} {A0 A1 B0 B1 C0 C1 : Rat} {w' : World} (h : Q3Is w cs A0 A1 B0 B1 C0 C1) (x : ∀ (r : RV) (q : Rat), r.Is w q → r.Is w' q) : Q3Is w' cs A0 A1 B0 B1 C0 C1 := by obtain ⟨a0, a1, b0, b1, c0, c1, e, h0, h1, h2, h3, h4, h5⟩ := h; exact ⟨a0, a1, b0, b1, c0, c1, e, x _ _ h0, x _ _ h1, x _ _ h2, x _ _ h3, x _ _ h4, x _ _ h5⟩
theorem Q3Is.e0 {w : World} {cs : Array Value} {A0 A1 B0 B1 C0 C1 : Rat} (h : Q3Is w cs A0 A1 B0 B1 C0 C1) : NIs w (cs.extract 0 (0 + 4)) A0 := by obtain ⟨a0, a1, b0, b1, c0, c1, e, h0, h1, h2, h3, h4, h5⟩ := h; exact ⟨a0, by rw [e]; rfl, h0⟩
theorem Q3Is.e1 {w : World} {cs : Array Value} {A0 A1 B0 B1 C0 C1 : Rat} (h : Q3Is w cs A0 A1 B0 B1 C0 C1) : NIs w (cs.extract 4 (4 + 4)) A1 := by obtain ⟨a0, a1, b0, b1, c0, c1, e, h0, h1, h2, h3, h4, h5⟩ := h; exact ⟨a1, by rw [e]; rfl, h1⟩
theorem Q3Is.e2 {w : World} {cs : Array Value} {A0 A1 B0 B1 C0 C1 : Rat} (h : Q3Is w cs A0 A1 B0 B1 C0 C1) : NIs w (cs.extract 8 (8 + 4)) B0 := by obtain ⟨a0, a1, b0, b1, c0, c1, e, h0, h1, h2, h3, h4, h5⟩ := h; exact ⟨b0, by rw [e]; rfl, h2⟩
theorem Q3Is.e3 {w : World} {cs : Array Value} {A0 A1 B0 B1 C0 C1 : Rat} (h : Q3Is w cs A0 A1 B0 B1 C0 C1) : NIs w (cs.extract 12 (12 + 4)) B1 := by obtain ⟨a0, a1, b0, b1, c0, c1, e, h0, h1, h2, h3, h4, h5⟩ := h; exact ⟨b1, by rw [e]; rfl, h3⟩
theorem Q3Is.e4 {w : World} {cs : Array Value} {A0 A1 B0 B1 C0 C1 : Rat} (h : Q3Is w cs A0 A1 B0 B1 C0 C1) : NIs w (cs.extract 16 (16 + 4)) C0 := by obtain ⟨a0, a1, b0, b1, c0, c1, e, h0, h1, h2, h3, h4, h5⟩ := h; exact ⟨c0, by rw [e]; rfl, h4⟩
theorem Q3Is.e5 {w : World} {cs : Array Value} {A0 A1 B0 B1 C0 C1 : Rat} (h : Q3Is w cs A0 A1 B0 B1 C0 C1) : NIs w (cs.extract 20 (20 + 4)) C1 := by obtain ⟨a0, a1, b0, b1, c0, c1, e, h0, h1, h2, h3, h4, h5⟩ := h; exact ⟨c1, by rw [e]; rfl, h5⟩
theorem Q3Is.p0 {w : World} {cs : Array Value} {A0 A1 B0 B1 C0 C1 : Rat} (h : Q3Is w cs A0 A1 B0 B1 C0 C1) : PtIs w (cs.extract 0 (0 + 8)) A0 A1 := by obtain ⟨a0, a1, b0, b1, c0, c1, e, h0, h1, h2, h3, h4, h5⟩ := h; exact ⟨a0, a1, by rw [e]; rfl, h0, h1⟩
theorem Q3Is.p1 {w : World} {cs : Array Value} {A0 A1 B0 B1 C0 C1 : Rat} (h : Q3Is w cs A0 A1 B0 B1 C0 C1) : PtIs w (cs.extract 8 (8 + 8)) B0 B1 := by obtain ⟨a0, a1, b0, b1, c0, c1, e, h0, h1, h2, h3, h4, h5⟩ := h; exact ⟨b0, b1, by rw [e]; rfl, h2, h3⟩
theorem Q3Is.p2 {w : World} {cs : Array Value} {A0 A1 B0 B1 C0 C1 : Rat} (h : Q3Is w cs A0 A1 B0 B1 C0 C1) : PtIs w (cs.extract 16 (16 + 8)) C0 C1 := by obtain ⟨a0, a1, b0, b1, c0, c1, e, h0, h1, h2, h3, h4, h5⟩ := h; exact ⟨c0, c1, by rw [e]; rfl, h4, h5⟩
def C4In (L : Nat) (w : World) (cs : Array Value) (A0 A1 B0 B1 C0 C1 D0 D1 : Rat) : Prop := ∃ a0 a1 b0 b1 c0 c1 d0 d1 : RV, cs = #[.bool a0.n, .slice a0.p a0.l a0.c, .bool a0.m, .slice a0.p2 a0.l2 a0.c2, .bool a1.n, .slice a1.p a1.l a1.c, .bool a1.m, .slice a1.p2 a1.l2 a1.c2, .bool b0.n, .slice b0.p b0.l b0.c, .bool b0.m, .slice b0.p2 b0.l2 b0.c2, .bool b1.n, .slice b1.p b1.l b1.c, .bool b1.m, .slice b1.p2 b1.l2 b1.c2, .bool c0.n, .slice c0.p c0.l c0.c, .bool c0.m, .slice c0.p2 c0.l2 c0.c2, .bool c1.n, .slice c1.p c1.l c1.c, .bool c1.m, .slice c1.p2 c1.l2 c1.c2, .bool d0.n, .slice d0.p d0.l d0.c, .bool d0.m, .slice d0.p2 d0.l2 d0.c2, .bool d1.n, .slice d1.p d1.l d1.c, .bool d1.m, .slice d1.p2 d1.l2 d1.c2] ∧ a0.In L w A0 ∧ a1.In L w A1 ∧ b0.In L w B0 ∧ b1.In L w B1 ∧ c0.In L w C0 ∧ c1.In L w C1 ∧ d0.In L w D0 ∧ d1.In L w D1
theorem C4In.ext {L : Nat} {w : World} {cs : Array Value} {A0 A1 B0 B1 C0 C1 D0 D1 : Rat} {w' : World} (h : C4In L w cs A0 A1 B0 B1 C0 C1 D0 D1) (x : Ext w w') : C4In L w' cs A0 A1 B0 B1 C0 C1 D0 D1 := by obtain ⟨a0, a1, b0, b1, c0, c1, d0, d1, e, h0, h1, h2, h3, h4, h5, h6, h7⟩ := h; exact ⟨a0, a1, b0, b1, c0, c1, d0, d1, e, h0.ext x, h1.ext x, h2.ext x, h3.ext x, h4.ext x, h5.ext x, h6.ext x, h7.ext x⟩
theorem C4In.size {L : Nat} {w : World} {cs : Array Value} {A0 A1 B0 B1 C0 C1 D0 D1 : Rat} (h : C4In L w cs A0 A1 B0 B1 C0 C1 D0 D1) : cs.size = 32 := by obtain ⟨a0, a1, b0, b1, c0, c1, d0, d1, e, h0, h1, h2, h3, h4, h5, h6, h7⟩ := h; rw [e]; rfl
theorem C4In.one {L : Nat} {w : World} {cs : Array Value} {A0 A1 B0 B1 C0 C1 D0 D1 : Rat} (h : C4In L w cs A0 A1 B0 B1 C0 C1 D0 D1) : cs.all (·.oneCell') = true := by obtain ⟨a0, a1, b0, b1, c0, c1, d0, d1, e, h0, h1, h2, h3, h4, h5, h6, h7⟩ := h; rw [e]; exact all_oneCell_toArray (by simp [Value.oneCell'])
theorem C4In.e0 {L : Nat} {w : World} {cs : Array Value} {A0 A1 B0 B1 C0 C1 D0 D1 : Rat} (h : C4In L w cs A0 A1 B0 B1 C0 C1 D0 D1) : NIn L w (cs.extract 0 (0 + 4)) A0 := by obtain ⟨a0, a1, b0, b1, c0, c1, d0, d1, e, h0, h1, h2, h3, h4, h5, h6, h7⟩ := h; exact ⟨a0, by rw [e]; rfl, h0⟩
theorem C4In.e1 {L : Nat} {w : World} {cs : Array Value} {A0 A1 B0 B1 C0 C1 D0 D1 : Rat} (h : C4In L w cs A0 A1 B0 B1 C0 C1 D0 D1) : NIn L w (cs.extract 4 (4 + 4)) A1 := by obtain ⟨a0, a1, b0, b1, c0, c1, d0, d1, e, h0, h1, h2, h3, h4, h5, h6, h7⟩ := h; exact ⟨a1, by rw [e]; rfl, h1⟩
theorem C4In.e2 {L : Nat} {w : World} {cs : Array Value} {A0 A1 B0 B1 C0 C1 D0 D1 : Rat} (h : C4In L w cs A0 A1 B0 B1 C0 C1 D0 D1) : NIn L w (cs.extract 8 (8 + 4)) B0 := by obtain ⟨a0, a1, b0, b1, c0, c1, d0, d1, e, h0, h1, h2, h3, h4, h5, h6, h7⟩ := h; exact ⟨b0, by rw [e]; rfl, h2⟩
theorem C4In.e3 {L : Nat} {w : World} {cs : Array Value} {A0 A1 B0 B1 C0 C1 D0 D1 : Rat} (h : C4In L w cs A0 A1 B0 B1 C0 C1 D0 D1) : NIn L w (cs.extract 12 (12 + 4)) B1 := by obtain ⟨a0, a1, b0, b1, c0, c1, d0, d1, e, h0, h1, h2, h3, h4, h5, h6, h7⟩ := h; exact ⟨b1, by rw [e]; rfl, h3⟩
theorem C4In.e4 {L : Nat} {w : World} {cs : Array Value} {A0 A1 B0 B1 C0 C1 D0 D1 : Rat} (h : C4In L w cs A0 A1 B0 B1 C0 C1 D0 D1) : NIn L w (cs.extract 16 (16 + 4)) C0 := by obtain ⟨a0, a1, b0, b1, c0, c1, d0, d1, e, h0, h1, h2, h3, h4, h5, h6, h7⟩ := h; exact ⟨c0, by rw [e]; rfl, h4⟩
theorem C4In.e5 {L : Nat} {w : World} {cs : Array Value} {A0 A1 B0 B1 C0 C1 D0 D1 : Rat} (h : C4In L w cs A0 A1 B0 B1 C0 C1 D0 D1) : NIn L w (cs.extract 20 (20 + 4)) C1 := by obtain ⟨a0, a1, b0, b1, c0, c1, d0, d1, e, h0, h1, h2, h3, h4, h5, h6, h7⟩ := h; exact ⟨c1, by rw [e]; rfl, h5⟩
theorem C4In.e6 {L : Nat} {w : World} {cs : Array Value} {A0 A1 B0 B1 C0 C1 D0 D1 : Rat} (h : C4In L w cs A0 A1 B0 B1 C0 C1 D0 D1) : NIn L w (cs.extract 24 (24 + 4)) D0 := by obtain ⟨a0, a1, b0, b1, c0, c1, d0, d1, e, h0, h1, h2, h3, h4, h5, h6, h7⟩ := h; exact ⟨d0, by rw [e]; rfl, h6⟩
theorem C4In.e7 {L : Nat} {w : World} {cs : Array Value} {A0 A1 B0 B1 C0 C1 D0 D1 : Rat} (h : C4In L w cs A0 A1 B0 B1 C0 C1 D0 D1) : NIn L w (cs.extract 28 (28 + 4)) D1 := by obtain ⟨a0, a1, b0, b1, c0, c1, d0, d1, e, h0, h1, h2, h3, h4, h5, h6, h7⟩ := h; exact ⟨d1, by rw [e]; rfl, h7⟩
theorem C4In.p0 {L : Nat} {w : World} {cs : Array Value} {A0 A1 B0 B1 C0 C1 D0 D1 : Rat} (h : C4In L w cs A0 A1 B0 B1 C0 C1 D0 D1) : PtIn L w (cs.extract 0 (0 + 8)) A0 A1 := by obtain ⟨a0, a1, b0, b1, c0, c1, d0, d1, e, h0, h1, h2, h3, h4, h5, h6, h7⟩ := h; exact ⟨a0, a1, by rw [e]; rfl, h0, h1⟩
theorem C4In.p1 {L : Nat} {w : World} {cs : Array Value} {A0 A1 B0 B1 C0 C1 D0 D1 : Rat} (h : C4In L w cs A0 A1 B0 B1 C0 C1 D0 D1) : PtIn L w (cs.extract 8 (8 + 8)) B0 B1 := by obtain ⟨a0, a1, b0, b1, c0, c1, d0, d1, e, h0, h1, h2, h3, h4, h5, h6, h7⟩ := h; exact ⟨b0, b1, by rw [e]; rfl, h2, h3⟩
theorem C4In.p2 {L : Nat} {w : World} {cs : Array Value} {A0 A1 B0 B1 C0 C1 D0 D1 : Rat} (h : C4In L w cs A0 A1 B0 B1 C0 C1 D0 D1) : PtIn L w (cs.extract 16 (16 + 8)) C0 C1 := by obtain ⟨a0, a1, b0, b1, c0, c1, d0, d1, e, h0, h1, h2, h3, h4, h5, h6, h7⟩ := h; exact ⟨c0, c1, by rw [e]; rfl, h4, h5⟩
theorem C4In.p3 {L : Nat} {w : World} {cs : Array Value} {A0 A1 B0 B1 C0 C1 D0 D1 : Rat} (h : C4In L w cs A0 A1 B0 B1 C0 C1 D0 D1) : PtIn L w (cs.extract 24 (24 + 8)) D0 D1 := by obtain ⟨a0, a1, b0, b1, c0, c1, d0, d1, e, h0, h1, h2, h3, h4, h5, h6, h7⟩ := h; exact ⟨d0, d1, by rw [e]; rfl, h6, h7⟩
theorem C4In.mono {L : Nat} {w : World} {cs : Array Value} {A0 A1 B0 B1 C0 C1 D0 D1 : Rat} {M : Nat} (h : C4In L w cs A0 A1 B0 B1 C0 C1 D0 D1) (hl : L ≤ M) : C4In M w cs A0 A1 B0 B1 C0 C1 D0 D1 := by obtain ⟨a0, a1, b0, b1, c0, c1, d0, d1, e, h0, h1, h2, h3, h4, h5, h6, h7⟩ := h; exact ⟨a0, a1, b0, b1, c0, c1, d0, d1, e, h0.mono hl, h1.mono hl, h2.mono hl, h3.mono hl, h4.mono hl, h5.mono hl, h6.mono hl, h7.mono hl⟩
def C4Is (w : World) (cs : Array Value) (A0 A1 B0 B1 C0 C1 D0 D1 : Rat) : Prop := ∃ a0 a1 b0 b1 c0 c1 d0 d1 : RV, cs = #[.bool a0.n, .slice a0.p a0.l a0.c, .bool a0.m, .slice a0.p2 a0.l2 a0.c2, .bool a1.n, .slice a1.p a1.l a1.c, .bool a1.m, .slice a1.p2 a1.l2 a1.c2, .bool b0.n, .slice b0.p b0.l b0.c, .bool b0.m, .slice b0.p2 b0.l2 b0.c2, .bool b1.n, .slice b1.p b1.l b1.c, .bool b1.m, .slice b1.p2 b1.l2 b1.c2, .bool c0.n, .slice c0.p c0.l c0.c, .bool c0.m, .slice c0.p2 c0.l2 c0.c2, .bool c1.n, .slice c1.p c1.l c1.c, .bool c1.m, .slice c1.p2 c1.l2 c1.c2, .bool d0.n, .slice d0.p d0.l d0.c, .bool d0.m, .slice d0.p2 d0.l2 d0.c2, .bool d1.n, .slice d1.p d1.l d1.c, .bool d1.m, .slice d1.p2 d1.l2 d1.c2] ∧ a0.Is w A0 ∧ a1.Is w A1 ∧ b0.Is w B0 ∧ b1.Is w B1 ∧ c0.Is w C0 ∧ c1.Is w C1 ∧ d0.Is w D0 ∧ d1.Is w D1
theorem C4Is.ext {w : World} {cs : Array Value} {A0 A1 B0 B1 C0 C1 D0 D1 : Rat} {w' : World} (h : C4Is w cs A0 A1 B0 B1 C0 C1 D0 D1) (x : Ext w w') : C4Is w' cs A0 A1 B0 B1 C0 C1 D0 D1 := by obtain ⟨a0, a1, b0, b1, c0, c1, d0, d1, e, h0, h1, h2, h3, h4, h5, h6, h7⟩ := h; exact ⟨a0, a1, b0, b1, c0, c1, d0, d1, e, h0.ext x, h1.ext x, h2.ext x, h3.ext x, h4.ext x, h5.ext x, h6.ext x, h7.ext x⟩
theorem C4Is.size {w : World} {cs : Array Value} {A0 A1 B0 B1 C0 C1 D0 D1 : Rat} (h : C4Is w cs A0 A1 B0 B1 C0 C1 D0 D1) : cs.size = 32 := by obtain ⟨a0, a1, b0, b1, c0, c1, d0, d1, e, h0, h1, h2, h3, h4, h5, h6, h7⟩ := h; rw [e]; rfl
theorem C4Is.one {w : World} {cs : Array Value} {A0 A1 B0 B1 C0 C1 D0 D1 : Rat} (h : C4Is w cs A0 A1 B0 B1 C0 C1 D0 D1) : cs.all (·.oneCell') = true := by obtain ⟨a0, a1, b0, b1, c0, c1, d0, d1, e, h0, h1, h2, h3, h4, h5, h6, h7⟩ := h; rw [e]; exact all_oneCell_toArray (by simp [Value.oneCell'])
theorem C4Is.map {w : World} {cs : Array Value} {A0 A1 B0 B1 C0 C1 D0 D1 : Rat} {w' : World} (h : C4Is w cs A0 A1 B0 B1 C0 C1 D0 D1) (x : ∀ (r : RV) (q : Rat), r.Is w q → r.Is w' q) : C4Is w' cs A0 A1 B0 B1 C0 C1 D0 D1 := by obtain ⟨a0, a1, b0, b1, c0, c1, d0, d1, e, h0, h1, h2, h3, h4, h5, h6, h7⟩ := h; exact ⟨a0, a1, b0, b1, c0, c1, d0, d1, e, x _ _ h0, x _ _ h1, x _ _ h2, x _ _ h3, x _ _ h4, x _ _ h5, x _ _ h6, x _ _ h7⟩
theorem C4Is.e0 {w : World} {cs : Array Value} {A0 A1 B0 B1 C0 C1 D0 D1 : Rat} (h : C4Is w cs A0 A1 B0 B1 C0 C1 D0 D1) : NIs w (cs.extract 0 (0 + 4)) A0 := by obtain ⟨a0, a1, b0, b1, c0, c1, d0, d1, e, h0, h1, h2, h3, h4, h5, h6, h7⟩ := h; exact ⟨a0, by rw [e]; rfl, h0⟩
theorem C4Is.e1 {w : World} {cs : Array Value} {A0 A1 B0 B1 C0 C1 D0 D1 : Rat} (h : C4Is w cs A0 A1 B0 B1 C0 C1 D0 D1) : NIs w (cs.extract 4 (4 + 4)) A1 := by obtain ⟨a0, a1, b0, b1, c0, c1, d0, d1, e, h0, h1, h2, h3, h4, h5, h6, h7⟩ := h; exact ⟨a1, by rw [e]; rfl, h1⟩
theorem C4Is.e2 {w : World} {cs : Array Value} {A0 A1 B0 B1 C0 C1 D0 D1 : Rat} (h : C4Is w cs A0 A1 B0 B1 C0 C1 D0 D1) : NIs w (cs.extract 8 (8 + 4)) B0 := by obtain ⟨a0, a1, b0, b1, c0, c1, d0, d1, e, h0, h1, h2, h3, h4, h5, h6, h7⟩ := h; exact ⟨b0, by rw [e]; rfl, h2⟩
theorem C4Is.e3 {w : World} {cs : Array Value} {A0 A1 B0 B1 C0 C1 D0 D1 : Rat} (h : C4Is w cs A0 A1 B0 B1 C0 C1 D0 D1) : NIs w (cs.extract 12 (12 + 4)) B1 := by obtain ⟨a0, a1, b0, b1, c0, c1, d0, d1, e, h0, h1, h2, h3, h4, h5, h6, h7⟩ := h; exact ⟨b1, by rw [e]; rfl, h3⟩
theorem C4Is.e4 {w : World} {cs : Array Value} {A0 A1 B0 B1 C0 C1 D0 D1 : Rat} (h : C4Is w cs A0 A1 B0 B1 C0 C1 D0 D1) : NIs w (cs.extract 16 (16 + 4)) C0 := by obtain ⟨a0, a1, b0, b1, c0, c1, d0, d1, e, h0, h1, h2, h3, h4, h5, h6, h7⟩ := h; exact ⟨c0, by rw [e]; rfl, h4⟩
theorem C4Is.e5 {w : World} {cs : Array Value} {A0 A1 B0 B1 C0 C1 D0 D1 : Rat} (h : C4Is w cs A0 A1 B0 B1 C0 C1 D0 D1) : NIs w (cs.extract 20 (20 + 4)) C1 := by obtain ⟨a0, a1, b0, b1, c0, c1, d0, d1, e, h0, h1, h2, h3, h4, h5, h6, h7⟩ := h; exact ⟨c1, by rw [e]; rfl, h5⟩
theorem C4Is.e6 {w : World} {cs : Array Value} {A0 A1 B0 B1 C0 C1 D0 D1 : Rat} (h : C4Is w cs A0 A1 B0 B1 C0 C1 D0 D1) : NIs w (cs.extract 24 (24 + 4)) D0 := by obtain ⟨a0, a1, b0, b1, c0, c1, d0, d1, e, h0, h1, h2, h3, h4, h5, h6, h7⟩ := h; exact ⟨d0, by rw [e]; rfl, h6⟩
theorem C4Is.e7 {w : World} {cs : Array Value} {A0 A1 B0 B1 C0 C1 D0 D1 : Rat} (h : C4Is w cs A0 A1 B0 B1 C0 C1 D0 D1) : NIs w (cs.extract 28 (28 + 4)) D1 := by obtain ⟨a0, a1, b0, b1, c0, c1, d0, d1, e, h0, h1, h2, h3, h4, h5, h6, h7⟩ := h; exact ⟨d1, by rw [e]; rfl, h7⟩
theorem C4Is.p0 {w : World} {cs : Array Value} {A0 A1 B0 B1 C0 C1 D0 D1 : Rat} (h : C4Is w cs A0 A1 B0 B1 C0 C1 D0 D1) : PtIs w (cs.extract 0 (0 + 8)) A0 A1 := by obtain ⟨a0, a1, b0, b1, c0, c1, d0, d1, e, h0, h1, h2, h3, h4, h5, h6, h7⟩ := h; exact ⟨a0, a1, by rw [e]; rfl, h0, h1⟩
theorem C4Is.p1 {w : World} {cs : Array Value} {A0 A1 B0 B1 C0 C1 D0 D1 : Rat} (h : C4Is w cs A0 A1 B0 B1 C0 C1 D0 D1) : PtIs w (cs.extract 8 (8 + 8)) B0 B1 := by obtain ⟨a0, a1, b0, b1, c0, c1, d0, d1, e, h0, h1, h2, h3, h4, h5, h6, h7⟩ := h; exact ⟨b0, b1, by rw [e]; rfl, h2, h3⟩
theorem C4Is.p2 {w : World} {cs : Array Value} {A0 A1 B0 B1 C0 C1 D0 D1 : Rat} (h : C4Is w cs A0 A1 B0 B1 C0 C1 D0 D1) : PtIs w (cs.extract 16 (16 + 8)) C0 C1 := by obtain ⟨a0, a1, b0, b1, c0, c1, d0, d1, e, h0, h1, h2, h3, h4, h5, h6, h7⟩ := h; exact ⟨c0, c1, by rw [e]; rfl, h4, h5⟩
theorem C4Is.p3 {w : World} {cs : Array Value} {A0 A1 B0 B1 C0 C1 D0 D1 : Rat} (h : C4Is w cs A0 A1 B0 B1 C0 C1 D0 D1) : PtIs w (cs.extract 24 (24 + 8)) D0 D1 := by obtain ⟨a0, a1, b0, b1, c0, c1, d0, d1, e, h0, h1, h2, h3, h4, h5, h6, h7⟩ := h; exact ⟨d0, d1, by rw [e]; rfl, h6, h7⟩

section
variable {L : Nat} {w : World} {cs ct : Array Value}

theorem oEvalQuad {A0 A1 B0 B1 C0 C1 S : Rat} (hp : Q3In L w cs A0 A1 B0 B1 C0 C1) (ht : NIn L w ct S) (h1 : 1 ≤ L) (hL : L ≤ 3000) :
    Calls Tryz.prog 14 #[.agg cs, .agg ct] w fun e w' => ∃ c, e = .returned (.agg c) ∧ PtIs w' c (quadV A0 B0 C0 S) (quadV A1 B1 C1 S) ∧ Ext w w' := by
  obtain ⟨a0, a1, b0, b1, c0, c1, rfl, ha0, ha1, hb0, hb1, hc0, hc1⟩ := hp
  obtain ⟨t, rfl, ht⟩ := ht
  refine (evalQuad_any a0 a1 b0 b1 c0 c1 t L A0 A1 B0 B1 C0 C1 S w ha0 ha1 hb0 hb1 hc0 hc1 ht h1 hL).mono ?_
  rintro e w' ⟨u, v, rfl, k1, k2, k3⟩
  exact ⟨_, rfl, ⟨u, v, rfl, k1, k2⟩, k3⟩

theorem oEvalCubic {A0 A1 B0 B1 C0 C1 D0 D1 S : Rat} (hp : C4In L w cs A0 A1 B0 B1 C0 C1 D0 D1) (ht : NIn L w ct S) (h1 : 1 ≤ L) (hL : L ≤ 800) :
    Calls Tryz.prog 16 #[.agg cs, .agg ct] w fun e w' => ∃ c, e = .returned (.agg c) ∧ PtIs w' c (cubicV A0 B0 C0 D0 S) (cubicV A1 B1 C1 D1 S) ∧ Ext w w' := by
  obtain ⟨a0, a1, b0, b1, c0, c1, d0, d1, rfl, ha0, ha1, hb0, hb1, hc0, hc1, hd0, hd1⟩ := hp
  obtain ⟨t, rfl, ht⟩ := ht
  refine (evalCubic_any a0 a1 b0 b1 c0 c1 d0 d1 t L A0 A1 B0 B1 C0 C1 D0 D1 S w ha0 ha1 hb0 hb1 hc0 hc1 hd0 hd1 ht h1 hL).mono ?_
  rintro e w' ⟨u, v, rfl, k1, k2, k3⟩
  exact ⟨_, rfl, ⟨u, v, rfl, k1, k2⟩, k3⟩

theorem iSplitQuad {A0 A1 B0 B1 C0 C1 S : Rat} (hp : Q3In L w cs A0 A1 B0 B1 C0 C1) (ht : NIn L w ct S) (h1 : 1 ≤ L) (hL : L ≤ 800) :
    Calls Tryz.prog 9 #[.agg cs, .agg ct] w fun e w' => ∃ c1 c2, e = .returned (.tuple #[.agg c1, .agg c2]) ∧ Q3Is w' c1 A0 A1 (lerpV A0 B0 S) (lerpV A1 B1 S) (lerpV (lerpV A0 B0 S) (lerpV B0 C0 S) S) (lerpV (lerpV A1 B1 S) (lerpV B1 C1 S) S) ∧ Q3Is w' c2 (lerpV (lerpV A0 B0 S) (lerpV B0 C0 S) S) (lerpV (lerpV A1 B1 S) (lerpV B1 C1 S) S) (lerpV B0 C0 S) (lerpV B1 C1 S) C0 C1 ∧ Ext w w' := by
  obtain ⟨a0, a1, b0, b1, c0, c1, rfl, ha0, ha1, hb0, hb1, hc0, hc1⟩ := hp
  obtain ⟨t, rfl, ht⟩ := ht
  refine (splitQuad_any a0 a1 b0 b1 c0 c1 t L A0 A1 B0 B1 C0 C1 S w ha0 ha1 hb0 hb1 hc0 hc1 ht h1 hL).mono ?_
  rintro e w' ⟨u0, u1, u2, u3, u4, u5, v0, v1, v2, v3, v4, v5, rfl, ⟨xu0, xu1, xu2, xu3, xu4, xu5⟩, ⟨xv0, xv1, xv2, xv3, xv4, xv5⟩, hx⟩
  exact ⟨_, _, rfl, ⟨u0, u1, u2, u3, u4, u5, rfl, xu0, xu1, xu2, xu3, xu4, xu5⟩, ⟨v0, v1, v2, v3, v4, v5, rfl, xv0, xv1, xv2, xv3, xv4, xv5⟩, hx⟩

theorem iSplitCubic {A0 A1 B0 B1 C0 C1 D0 D1 S : Rat} (hp : C4In L w cs A0 A1 B0 B1 C0 C1 D0 D1) (ht : NIn L w ct S) (h1 : 1 ≤ L) (hL : L ≤ 200) :
    Calls Tryz.prog 11 #[.agg cs, .agg ct] w fun e w' => ∃ c1 c2, e = .returned (.tuple #[.agg c1, .agg c2]) ∧ C4Is w' c1 A0 A1 (lerpV A0 B0 S) (lerpV A1 B1 S) (lerpV (lerpV A0 B0 S) (lerpV B0 C0 S) S) (lerpV (lerpV A1 B1 S) (lerpV B1 C1 S) S) (lerpV (lerpV (lerpV A0 B0 S) (lerpV B0 C0 S) S) (lerpV (lerpV B0 C0 S) (lerpV C0 D0 S) S) S) (lerpV (lerpV (lerpV A1 B1 S) (lerpV B1 C1 S) S) (lerpV (lerpV B1 C1 S) (lerpV C1 D1 S) S) S) ∧ C4Is w' c2 (lerpV (lerpV (lerpV A0 B0 S) (lerpV B0 C0 S) S) (lerpV (lerpV B0 C0 S) (lerpV C0 D0 S) S) S) (lerpV (lerpV (lerpV A1 B1 S) (lerpV B1 C1 S) S) (lerpV (lerpV B1 C1 S) (lerpV C1 D1 S) S) S) (lerpV (lerpV B0 C0 S) (lerpV C0 D0 S) S) (lerpV (lerpV B1 C1 S) (lerpV C1 D1 S) S) (lerpV C0 D0 S) (lerpV C1 D1 S) D0 D1 ∧ Ext w w' := by
  obtain ⟨a0, a1, b0, b1, c0, c1, d0, d1, rfl, ha0, ha1, hb0, hb1, hc0, hc1, hd0, hd1⟩ := hp
  obtain ⟨t, rfl, ht⟩ := ht
  refine (splitCubic_any a0 a1 b0 b1 c0 c1 d0 d1 t L A0 A1 B0 B1 C0 C1 D0 D1 S w ha0 ha1 hb0 hb1 hc0 hc1 hd0 hd1 ht h1 hL).mono ?_
  rintro e w' ⟨u0, u1, u2, u3, u4, u5, u6, u7, v0, v1, v2, v3, v4, v5, v6, v7, rfl, ⟨xu0, xu1, xu2, xu3, xu4, xu5, xu6, xu7⟩, ⟨xv0, xv1, xv2, xv3, xv4, xv5, xv6, xv7⟩, hx⟩
  exact ⟨_, _, rfl, ⟨u0, u1, u2, u3, u4, u5, u6, u7, rfl, xu0, xu1, xu2, xu3, xu4, xu5, xu6, xu7⟩, ⟨v0, v1, v2, v3, v4, v5, v6, v7, rfl, xv0, xv1, xv2, xv3, xv4, xv5, xv6, xv7⟩, hx⟩

theorem iElevate {A0 A1 B0 B1 C0 C1 : Rat} (hp : Q3In L w cs A0 A1 B0 B1 C0 C1) (h1 : 1 ≤ L) (hL : L ≤ 10000) :
    Calls Tryz.prog 20 #[.agg cs] w fun e w' => ∃ c1, e = .returned (.agg c1) ∧ C4Is w' c1 A0 A1 (lerpV A0 B0 ((2 : Rat) / 3)) (lerpV A1 B1 ((2 : Rat) / 3)) (lerpV C0 B0 ((2 : Rat) / 3)) (lerpV C1 B1 ((2 : Rat) / 3)) C0 C1 ∧ Ext w w' := by
  obtain ⟨a0, a1, b0, b1, c0, c1, rfl, ha0, ha1, hb0, hb1, hc0, hc1⟩ := hp
  refine (elevate_any a0 a1 b0 b1 c0 c1 L A0 A1 B0 B1 C0 C1 w ha0 ha1 hb0 hb1 hc0 hc1 h1 hL).mono ?_
  rintro e w' ⟨u0, u1, u2, u3, u4, u5, u6, u7, rfl, ⟨xu0, xu1, xu2, xu3, xu4, xu5, xu6, xu7⟩, hx⟩
  exact ⟨_, rfl, ⟨u0, u1, u2, u3, u4, u5, u6, u7, rfl, xu0, xu1, xu2, xu3, xu4, xu5, xu6, xu7⟩, hx⟩

theorem oExactQuad {A0 A1 B0 B1 C0 C1 D0 D1 : Rat} (hp : C4In L w cs A0 A1 B0 B1 C0 C1 D0 D1) :
    Calls Tryz.prog 8 #[.agg cs] w fun e w' => ∃ c1, e = .returned (.agg c1) ∧ Q3In L w' c1 A0 A1 B0 B1 C0 C1 ∧ Ext w w' := by
  obtain ⟨a0, a1, b0, b1, c0, c1, d0, d1, rfl, ha0, ha1, hb0, hb1, hc0, hc1, hd0, hd1⟩ := hp
  refine (exactQuad_any a0 a1 b0 b1 c0 c1 d0 d1 w).mono ?_
  rintro e w' ⟨rfl, hx⟩
  exact ⟨_, rfl, ⟨a0, a1, b0, b1, c0, c1, rfl, ha0.ext hx, ha1.ext hx, hb0.ext hx, hb1.ext hx, hc0.ext hx, hc1.ext hx⟩, hx⟩

theorem oSamePoint {x y : Rat} (hp : PtIs w cs x y) (hq : PtIs w ct x y) (hx : Nm.rl x ≤ L) (hy : Nm.rl y ≤ L) (hL : L ≤ 1000000) :
    Calls Tryz.prog 13 #[.agg cs, .agg ct] w fun e w' => e = .returned (.bool true) ∧ Ext w w' := by
  obtain ⟨a, b, rfl, h1, h2⟩ := hp
  obtain ⟨c, d, rfl, h3, h4⟩ := hq
  exact samePoint_any a b c d x y L w h1 h2 h3 h4 hx hy hL

theorem r03Mul {q r : Rat} (hp : NIn L w cs q) (hq : NIn L w ct r) (hL : L ≤ 3000) :
    Calls Tryz.prog 37 #[.agg cs, .agg ct] w fun e w' => ∃ c, e = .returned (.agg c) ∧ NIs w' c (q * r) ∧ Ext w w' := by
  obtain ⟨a, rfl, h1⟩ := hp
  obtain ⟨b, rfl, h2⟩ := hq
  refine (r3mul_any _ _ _ _ _ _ _ _ L q r w h1 h2 (by omega)).mono ?_
  intro e w' h
  obtain ⟨x, rfl, k1, k2⟩ := RetR.v h
  exact ⟨_, rfl, ⟨x, rfl, k1⟩, k2⟩

theorem r03Add {q r : Rat} (hp : NIn L w cs q) (hq : NIn L w ct r) (hL : L ≤ 3000) :
    Calls Tryz.prog 63 #[.agg cs, .agg ct] w fun e w' => ∃ c, e = .returned (.agg c) ∧ NIs w' c (q + r) ∧ Ext w w' := by
  obtain ⟨a, rfl, h1⟩ := hp
  obtain ⟨b, rfl, h2⟩ := hq
  refine (r3add_any _ _ _ _ _ _ _ _ L q r w h1 h2 (by omega)).mono ?_
  intro e w' h
  obtain ⟨x, rfl, k1, k2⟩ := RetR.v h
  exact ⟨_, rfl, ⟨x, rfl, k1⟩, k2⟩

theorem r03Sub {q r : Rat} (hp : NIn L w cs q) (hq : NIn L w ct r) (hL : L ≤ 3000) :
    Calls Tryz.prog 35 #[.agg cs, .agg ct] w fun e w' => ∃ c, e = .returned (.agg c) ∧ NIs w' c (q - r) ∧ Ext w w' := by
  obtain ⟨a, rfl, h1⟩ := hp
  obtain ⟨b, rfl, h2⟩ := hq
  refine (r3sub_any _ _ _ _ _ _ _ _ L q r w h1 h2 (by omega)).mono ?_
  intro e w' h
  obtain ⟨x, rfl, k1, k2⟩ := RetR.v h
  exact ⟨_, rfl, ⟨x, rfl, k1⟩, k2⟩

end
end Go.Proofs.YtllpkoinjompcaaGreat

namespace Go.Proofs.YtllpkoinjompcaaGreat
open Go.RowKit

theorem wp_call_op {P : Program} {op : Oper} {a : Act} {w : World} {K : Act → World → Prop} {Q : Exit → Act → World → Prop} {f : FuncId} {args : Array Value} {Φ : Ending → World → Prop}
    (hv : (execOp a.eval op).run P w = .ok (.enter f args) w) (hc : Calls P f args w Φ) (h : ∀ e w', Φ e w' → ∃ v, e = .returned v ∧ K (a.put op.dst v) w') : op.wp P a w K Q := by
  unfold Oper.wp
  rw [hv]
  simp only [Oper.upon]
  refine Calls.mono hc fun e w' he => ?_
  obtain ⟨v, rfl, hk⟩ := h e w' he
  exact hk

section
variable {P : Program} {ops : Array Oper} {rest : List Oper} {op : Oper} {a : Act} {w w' : World} {Q : Exit → Act → World → Prop} {v : Value}

theorem wpList_if (hw : Region.wanted op (yielded ops a.tmps) = true) (h : op.wp P a w (wpList P ops Q rest) Q) : wpList P ops Q (op :: rest) a w := by
  rw [wpList, if_pos hw]
  exact .inl h
theorem mv_skip (hw : Region.wanted op (yielded ops a.tmps) = false) (h : wpList P ops Q rest (a.put op.dst undef) w) : wpList P ops Q (op :: rest) a w := by
  rw [wpList, if_neg (by rw [hw]; exact Bool.false_ne_true)]
  exact h
theorem mv_val (hw : Region.wanted op (yielded ops a.tmps) = true) (hv : (execOp a.eval op).run P w = .ok (.value v) w') (h : wpList P ops Q rest (a.put op.dst v) w') : wpList P ops Q (op :: rest) a w :=
  wpList_if hw (by unfold Oper.wp; rw [hv]; exact h)
theorem mv_call {f : FuncId} {args : Array Value} {Φ : Ending → World → Prop} (hw : Region.wanted op (yielded ops a.tmps) = true) (hv : (execOp a.eval op).run P w = .ok (.enter f args) w) (hc : Calls P f args w Φ)
    (h : ∀ e w', Φ e w' → ∃ v, e = .returned v ∧ wpList P ops Q rest (a.put op.dst v) w') : wpList P ops Q (op :: rest) a w := wpList_if hw (wp_call_op hv hc h)
theorem mv_load (hw : Region.wanted op (yielded ops a.tmps) = true) (ty : TypeId) (x : Operand) (ho : op.op = .load ty x) (g : Nat) (t : TypeId) (cs : Array Value) (d : TypeDesc) (hx : a.eval x = .pointer (some ⟨g, 0, none⟩)) (hb : Blk w g t cs)
    (hu : P.underlying ty = some d) (hd : d.isRow = true) (hi : (P.info? ty).map (·.size) = some cs.size) (h : wpList P ops Q rest (a.put op.dst (.agg cs)) w) : wpList P ops Q (op :: rest) a w :=
  wpList_if hw (wp_load_mid ty x ho g 0 hx cs.toList d hb.range hu hd (by simpa using hi) (by simpa using h))
theorem mv_store (hw : Region.wanted op (yielded ops a.tmps) = true) (ty : TypeId) (x y : Operand) (ho : op.op = .store ty x y) (g : Nat) (t : TypeId) (cs0 cs : Array Value) (hx : a.eval x = .pointer (some ⟨g, 0, none⟩)) (hy : a.eval y = .agg cs)
    (hb : Blk w g t cs0) (hl : cs.size = cs0.size) (hi : (P.info? ty).map (·.size) = some cs.size) (h1 : cs.all (·.oneCell') = true)
    (h : wpList P ops Q rest (a.put op.dst undef) (w.setCells g 0 cs.toList)) : wpList P ops Q (op :: rest) a w :=
  wpList_if hw (wp_store_blk ty x y ho g t cs0 cs hx hy hb hl hi h1 h)
theorem Blk.part {w : World} {g : Nat} {t : TypeId} {cs : Array Value} (h : Blk w g t cs) (o n : Nat) : w.rangeAt g o (cs.extract o (o + n)).toList := World.rangeAt_of_block h o n
/-- A part of a block is read. -/
theorem mv_part (hw : Region.wanted op (yielded ops a.tmps) = true) (ty : TypeId) (x : Operand) (ho : op.op = .load ty x) (g o n : Nat) (t : TypeId) (cs : Array Value) (d : TypeDesc) (hx : a.eval x = .pointer (some ⟨g, o, none⟩)) (hb : Blk w g t cs)
    (hu : P.underlying ty = some d) (hd : d.isRow = true) (hi : (P.info? ty).map (·.size) = some n) (hn : o + n ≤ cs.size) (h : wpList P ops Q rest (a.put op.dst (.agg (cs.extract o (o + n)))) w) : wpList P ops Q (op :: rest) a w :=
  wpList_if hw (wp_load_mid ty x ho g o hx (cs.extract o (o + n)).toList d (hb.part o n) hu hd (by rw [hi]; congr 1; simp; omega) (by rw [Array.toArray_toList]; exact h))
end

section
variable {P : Program} {l : List Oper} {Q : Exit → Act → World → Prop} {md : Region.Mode} {S : World → Prop} {i : Nat} {oi : Oper} {fuel : Nat} {listed listed' : Array Bool} {a : Act} {w w' : World} {v : Value}

/-- Two (three) new variables are stored into: what stood before them stands; digits stand everywhere. -/
theorem stored_one {wb w : World} {T : TypeId} {X1 : Nat} {zs c1 : Array Value} (hn : NoU zs) (hx : Ext wb w) (B1 : Blk w X1 T zs) (z1 : wb.heap.size ≤ X1) (h1 : c1.size = zs.size) :
    Ext wb (w.setCells X1 0 c1.toList) ∧ Blk (w.setCells X1 0 c1.toList) X1 T c1 ∧ (∀ (r : RV) (q : Rat), r.Is w q → r.Is (w.setCells X1 0 c1.toList) q) := by
  have o1 := Own.setCells w X1 c1
  exact ⟨o1.ext hx z1, B1.setCells c1 h1, fun r q h => h.own B1 hn o1⟩
theorem stored_two {wb w : World} {T : TypeId} {X1 X2 : Nat} {zs c1 c2 : Array Value} (hn : NoU zs) (hx : Ext wb w) (B1 : Blk w X1 T zs) (B2 : Blk w X2 T zs) (z1 : wb.heap.size ≤ X1) (z2 : wb.heap.size ≤ X2) (n12 : X1 ≠ X2) (h1 : c1.size = zs.size) (h2 : c2.size = zs.size) :
    Blk (w.setCells X1 0 c1.toList) X2 T zs ∧ Ext wb ((w.setCells X1 0 c1.toList).setCells X2 0 c2.toList) ∧ Blk ((w.setCells X1 0 c1.toList).setCells X2 0 c2.toList) X1 T c1 ∧ Blk ((w.setCells X1 0 c1.toList).setCells X2 0 c2.toList) X2 T c2 ∧ Ext wb (w.setCells X1 0 c1.toList) ∧
    (∀ (r : RV) (q : Rat), r.Is w q → r.Is ((w.setCells X1 0 c1.toList).setCells X2 0 c2.toList) q) := by
  obtain ⟨e1, b1, f1⟩ := stored_one hn hx B1 z1 h1
  have B2' := B2.own (Own.setCells w X1 c1) (Ne.symm n12)
  obtain ⟨e2, b2, f2⟩ := stored_one hn e1 B2' z2 h2
  exact ⟨B2', e2, b1.own (Own.setCells _ X2 c2) n12, b2, e1, fun r q h => f2 r q (f1 r q h)⟩
theorem stored_three {wb w : World} {T : TypeId} {X1 X2 X3 : Nat} {zs c1 c2 c3 : Array Value} (hn : NoU zs) (hx : Ext wb w) (B1 : Blk w X1 T zs) (B2 : Blk w X2 T zs) (B3 : Blk w X3 T zs) (z1 : wb.heap.size ≤ X1) (z2 : wb.heap.size ≤ X2) (z3 : wb.heap.size ≤ X3)
    (n12 : X1 ≠ X2) (n13 : X1 ≠ X3) (n23 : X2 ≠ X3) (h1 : c1.size = zs.size) (h2 : c2.size = zs.size) (h3 : c3.size = zs.size) :
    Blk (w.setCells X1 0 c1.toList) X2 T zs ∧ Blk ((w.setCells X1 0 c1.toList).setCells X2 0 c2.toList) X3 T zs ∧ Ext wb (((w.setCells X1 0 c1.toList).setCells X2 0 c2.toList).setCells X3 0 c3.toList) ∧
    Blk (((w.setCells X1 0 c1.toList).setCells X2 0 c2.toList).setCells X3 0 c3.toList) X1 T c1 ∧ Blk (((w.setCells X1 0 c1.toList).setCells X2 0 c2.toList).setCells X3 0 c3.toList) X2 T c2 ∧ Blk (((w.setCells X1 0 c1.toList).setCells X2 0 c2.toList).setCells X3 0 c3.toList) X3 T c3 ∧
    Ext wb (w.setCells X1 0 c1.toList) ∧ Ext wb ((w.setCells X1 0 c1.toList).setCells X2 0 c2.toList) ∧
    (∀ (r : RV) (q : Rat), r.Is w q → r.Is (((w.setCells X1 0 c1.toList).setCells X2 0 c2.toList).setCells X3 0 c3.toList) q) := by
  obtain ⟨k1, e2, b1, b2, e1, f2⟩ := stored_two hn hx B1 B2 z1 z2 n12 h1 h2
  have B3' := (B3.own (Own.setCells w X1 c1) (Ne.symm n13)).own (Own.setCells (w.setCells X1 0 c1.toList) X2 c2) (Ne.symm n23)
  obtain ⟨e3, b3, f3⟩ := stored_one hn e2 B3' z3 h3
  exact ⟨k1, B3', e3, b1.own (Own.setCells _ X3 c3) n13, b2.own (Own.setCells _ X3 c3) n23, b3, e1, e2, fun r q h => f3 r q (f2 r q h)⟩

/-- A variable is made and a row stored into it: all that stood stands. -/
theorem new_var (w : World) (T : TypeId) (zs cs : Array Value) (hl : cs.size = zs.size) : Ext w ((w.alloc (.cells zs T)).setCells w.heap.size 0 cs.toList) ∧ Blk ((w.alloc (.cells zs T)).setCells w.heap.size 0 cs.toList) w.heap.size T cs :=
  ⟨(Own.setCells _ _ cs).ext ((Ext.refl w).alloc _) (Nat.le_refl _), Blk.setCells (Blk.new_at w _ rfl _ _) cs hl⟩

/-- Two variables of one type are made, a row stored into each. -/
theorem new_var2 (w : World) (T : TypeId) (zs c1 c2 : Array Value) (h1 : c1.size = zs.size) (h2 : c2.size = zs.size) :
    Blk ((w.alloc (.cells zs T)).alloc (.cells zs T)) w.heap.size T zs ∧ Blk (((w.alloc (.cells zs T)).alloc (.cells zs T)).setCells w.heap.size 0 c1.toList) (w.alloc (.cells zs T)).heap.size T zs ∧
    Ext w ((((w.alloc (.cells zs T)).alloc (.cells zs T)).setCells w.heap.size 0 c1.toList).setCells (w.alloc (.cells zs T)).heap.size 0 c2.toList) ∧
    Blk ((((w.alloc (.cells zs T)).alloc (.cells zs T)).setCells w.heap.size 0 c1.toList).setCells (w.alloc (.cells zs T)).heap.size 0 c2.toList) w.heap.size T c1 ∧
    Blk ((((w.alloc (.cells zs T)).alloc (.cells zs T)).setCells w.heap.size 0 c1.toList).setCells (w.alloc (.cells zs T)).heap.size 0 c2.toList) (w.alloc (.cells zs T)).heap.size T c2 := by
  have b1 := (Blk.new w T zs).alloc (.cells zs T)
  have b2 := Blk.new (w.alloc (.cells zs T)) T zs
  have o1 := Own.setCells ((w.alloc (.cells zs T)).alloc (.cells zs T)) w.heap.size c1
  have o2 := Own.setCells (((w.alloc (.cells zs T)).alloc (.cells zs T)).setCells w.heap.size 0 c1.toList) (w.alloc (.cells zs T)).heap.size c2
  have ne : (w.alloc (.cells zs T)).heap.size ≠ w.heap.size := by simp
  have b2' := b2.own o1 ne
  exact ⟨b1, b2', o2.ext (o1.ext (((Ext.refl w).alloc _).alloc _) (Nat.le_refl _)) (by simp), (b1.setCells c1 h1).own o2 ne.symm, b2'.setCells c2 h2⟩

/-- Taken first: it yields a value and leaves the world. -/
theorem md_val (hi : l[i]? = some oi) (hs : Region.noSelect l.toArray = true) (hf : Region.free md l.toArray listed i = true) (hr : (Region.ready md l.toArray listed).contains i = true)
    (hQ : ∀ c a w, Q (.panic c) (a.put oi.dst v) w → Q (.panic c) a w) (hw : Region.wanted oi (yielded l.toArray a.tmps) = true) (hv : ∀ w, S w → (execOp a.eval oi).run P w = .ok (.value v) w) (hS : S w)
    (hl : listed.setIfInBounds i true = listed') (h : wpAnyH P md l.toArray Q S fuel listed' (a.put oi.dst v) w) : wpAnyH P md l.toArray Q S (fuel + 1) listed a w :=
  wpAnyH_take_l hi hs hf hr hQ (Or.inl ⟨hw, hv⟩) hS (by rw [hl]; exact h)
/-- Taken first: a variable that is a whole block is read. -/
theorem md_load (hi : l[i]? = some oi) (hs : Region.noSelect l.toArray = true) (hf : Region.free md l.toArray listed i = true) (hr : (Region.ready md l.toArray listed).contains i = true)
    (ty : TypeId) (x : Operand) (ho : oi.op = .load ty x) (g : Nat) (t : TypeId) (cs : Array Value) (d : TypeDesc)
    (hQ : ∀ c a w, Q (.panic c) (a.put oi.dst (.agg cs)) w → Q (.panic c) a w) (hw : Region.wanted oi (yielded l.toArray a.tmps) = true) (hx : a.eval x = .pointer (some ⟨g, 0, none⟩)) (hb : ∀ w, S w → Blk w g t cs)
    (hu : P.underlying ty = some d) (hd : d.isRow = true) (hz : (P.info? ty).map (·.size) = some cs.size) (hS : S w)
    (hl : listed.setIfInBounds i true = listed') (h : wpAnyH P md l.toArray Q S fuel listed' (a.put oi.dst (.agg cs)) w) : wpAnyH P md l.toArray Q S (fuel + 1) listed a w :=
  wpAnyH_take_l (v := .agg cs) hi hs hf hr hQ (by
    have h2 := yieldsIf_load_mid (P := P) (ops := l.toArray) (S := S) hw ty x ho g 0 hx cs.toList d (fun w hw => (hb w hw).range) hu hd (by simpa using hz)
    simpa using h2) hS (by rw [hl]; exact h)
/-- Taken first: a part of a block is read. -/
theorem md_part (hi : l[i]? = some oi) (hs : Region.noSelect l.toArray = true) (hf : Region.free md l.toArray listed i = true) (hr : (Region.ready md l.toArray listed).contains i = true)
    (ty : TypeId) (x : Operand) (ho : oi.op = .load ty x) (g o n : Nat) (t : TypeId) (cs : Array Value) (d : TypeDesc)
    (hQ : ∀ c a w, Q (.panic c) (a.put oi.dst (.agg (cs.extract o (o + n)))) w → Q (.panic c) a w) (hw : Region.wanted oi (yielded l.toArray a.tmps) = true) (hx : a.eval x = .pointer (some ⟨g, o, none⟩)) (hb : ∀ w, S w → Blk w g t cs)
    (hu : P.underlying ty = some d) (hd : d.isRow = true) (hz : (P.info? ty).map (·.size) = some n) (hn : o + n ≤ cs.size) (hS : S w)
    (hl : listed.setIfInBounds i true = listed') (h : wpAnyH P md l.toArray Q S fuel listed' (a.put oi.dst (.agg (cs.extract o (o + n)))) w) : wpAnyH P md l.toArray Q S (fuel + 1) listed a w :=
  wpAnyH_take_l (v := .agg (cs.extract o (o + n))) hi hs hf hr hQ (by
    have h2 := yieldsIf_load_mid (P := P) (ops := l.toArray) (S := S) hw ty x ho g o hx (cs.extract o (o + n)).toList d (fun w hw => (hb w hw).part o n) hu hd (by rw [hz]; congr 1; simp; omega)
    rw [Array.toArray_toList] at h2
    exact h2) hS (by rw [hl]; exact h)
/-- The one operation that may come up is a call. -/
theorem md_call {f : FuncId} {args : Array Value} {Φ : Ending → World → Prop} (hi : l[i]? = some oi) (hr : Region.ready md l.toArray listed = [i]) (hw : Region.wanted oi (yielded l.toArray a.tmps) = true)
    (hv : (execOp a.eval oi).run P w = .ok (.enter f args) w) (hc : Calls P f args w Φ) (hl : listed.setIfInBounds i true = listed')
    (h : ∀ e w', Φ e w' → ∃ v, e = .returned v ∧ S w' ∧ wpAnyH P md l.toArray Q S fuel listed' (a.put oi.dst v) w') : wpAnyH P md l.toArray Q S (fuel + 1) listed a w :=
  wpAnyH_one_l hi hr (fun K hK => by
    rw [if_pos hw]
    refine wp_call_op hv hc fun e w' he => ?_
    obtain ⟨v, hv, hS, hh⟩ := h e w' he
    exact ⟨v, hv, hK.out _ _ hS (fun _ => by rw [hl]; exact hh)⟩)
/-- The one operation that may come up yields a value. -/
theorem md_one (hi : l[i]? = some oi) (hr : Region.ready md l.toArray listed = [i]) (hw : Region.wanted oi (yielded l.toArray a.tmps) = true)
    (hv : (execOp a.eval oi).run P w = .ok (.value v) w') (hS : S w') (hl : listed.setIfInBounds i true = listed')
    (h : wpAnyH P md l.toArray Q S fuel listed' (a.put oi.dst v) w') : wpAnyH P md l.toArray Q S (fuel + 1) listed a w :=
  wpAnyH_one_l hi hr (fun K hK => by
    rw [if_pos hw]
    unfold Oper.wp
    rw [hv]
    exact hK.out _ _ hS (fun _ => by rw [hl]; exact h))
theorem md_store (hi : l[i]? = some oi) (hr : Region.ready md l.toArray listed = [i]) (hg : oi.guard = none) (ty : TypeId) (x y : Operand) (ho : oi.op = .store ty x y)
    (g : Nat) (t : TypeId) (cs0 cs : Array Value) (hx : a.eval x = .pointer (some ⟨g, 0, none⟩)) (hy : a.eval y = .agg cs) (hb : Blk w g t cs0) (hl0 : cs.size = cs0.size)
    (hz : (P.info? ty).map (·.size) = some cs.size) (h1 : cs.all (·.oneCell') = true) (hS : S (w.setCells g 0 cs.toList)) (hl : listed.setIfInBounds i true = listed')
    (h : wpAnyH P md l.toArray Q S fuel listed' (a.put oi.dst undef) (w.setCells g 0 cs.toList)) : wpAnyH P md l.toArray Q S (fuel + 1) listed a w :=
  wpAnyH_store_l hi hr hg ty x y ho g t cs0 cs hx hy hb hl0 hz h1 hS (by rw [hl]; exact h)
/-- Either a call or the making of a variable may come up. -/
theorem md_call_or {f : FuncId} {args : Array Value} {Φ : Ending → World → Prop} {j : Nat} {oj : Oper} {u : Value} {wj : World} {lj : Array Bool} (hi : l[i]? = some oi) (hj : l[j]? = some oj) (hr : Region.ready md l.toArray listed = [i, j])
    (hw : Region.wanted oi (yielded l.toArray a.tmps) = true) (hv : (execOp a.eval oi).run P w = .ok (.enter f args) w) (hc : Calls P f args w Φ) (hl : listed.setIfInBounds i true = listed')
    (hwj : Region.wanted oj (yielded l.toArray a.tmps) = true) (hvj : (execOp a.eval oj).run P w = .ok (.value u) wj) (hSj : S wj) (hlj : listed.setIfInBounds j true = lj)
    (h : ∀ e w', Φ e w' → ∃ v, e = .returned v ∧ S w' ∧ wpAnyH P md l.toArray Q S fuel listed' (a.put oi.dst v) w') (h2 : wpAnyH P md l.toArray Q S fuel lj (a.put oj.dst u) wj) : wpAnyH P md l.toArray Q S (fuel + 1) listed a w :=
  wpAnyH_ready hr (by simp) (AllReadyH.cons (by rw [List.getElem?_toArray]; exact hi) (fun K hK => by
    rw [if_pos hw]
    refine wp_call_op hv hc fun e w' he => ?_
    obtain ⟨v, hv, hS, hh⟩ := h e w' he
    exact ⟨v, hv, hK.out _ _ hS (fun _ => by rw [hl]; exact hh)⟩) (AllReadyH.cons (by rw [List.getElem?_toArray]; exact hj) (fun K hK => by
    rw [if_pos hwj]
    unfold Oper.wp
    rw [hvj]
    exact hK.out _ _ hSj (fun _ => by rw [hlj]; exact h2)) AllReadyH.nil))
/-- Either of two operations that yield values may come up. -/
theorem md_two {j : Nat} {oj : Oper} {u : Value} {wi wj : World} {lj : Array Bool} (hi : l[i]? = some oi) (hj : l[j]? = some oj) (hr : Region.ready md l.toArray listed = [i, j])
    (hw : Region.wanted oi (yielded l.toArray a.tmps) = true) (hv : (execOp a.eval oi).run P w = .ok (.value v) wi) (hS : S wi) (hl : listed.setIfInBounds i true = listed')
    (hwj : Region.wanted oj (yielded l.toArray a.tmps) = true) (hvj : (execOp a.eval oj).run P w = .ok (.value u) wj) (hSj : S wj) (hlj : listed.setIfInBounds j true = lj)
    (h : wpAnyH P md l.toArray Q S fuel listed' (a.put oi.dst v) wi) (h2 : wpAnyH P md l.toArray Q S fuel lj (a.put oj.dst u) wj) : wpAnyH P md l.toArray Q S (fuel + 1) listed a w :=
  wpAnyH_ready hr (by simp) (AllReadyH.cons (by rw [List.getElem?_toArray]; exact hi) (fun K hK => by
    rw [if_pos hw]
    unfold Oper.wp
    rw [hv]
    exact hK.out _ _ hS (fun _ => by rw [hl]; exact h)) (AllReadyH.cons (by rw [List.getElem?_toArray]; exact hj) (fun K hK => by
    rw [if_pos hwj]
    unfold Oper.wp
    rw [hvj]
    exact hK.out _ _ hSj (fun _ => by rw [hlj]; exact h2)) AllReadyH.nil))
end
end Go.Proofs.YtllpkoinjompcaaGreat

namespace Go.Proofs.YtllpkoinjompcaaGreat
open Go.RowKit
attribute [local go_sem ↓] Go.wp_at_zero Go.wp_at_succ run_max_ii run_min_ii

theorem noUn : NoU #[.bool false, .slice none 0 0, .bool false, .slice none 0 0] := noU_of _ (by simp)
theorem NIs.own {w w' : World} {cs : Array Value} {q : Rat} (h : NIs w cs q) {g : Nat} {t : TypeId} {zs : Array Value} (hb : Blk w g t zs) (hn : NoU zs) (o : Own g w w') : NIs w' cs q := by
  obtain ⟨a, h1, h2⟩ := h
  exact ⟨a, h1, h2.own hb hn o⟩
theorem r03Norm {L : Nat} {w : World} {cs : Array Value} {q : Rat} (h : NIn L w cs q) (hL : L ≤ 100000) :
    Calls Tryz.prog 61 #[.agg cs] w fun e w' => ∃ c, e = .returned (.agg c) ∧ NIs w' c q ∧ Ext w w' := by
  obtain ⟨a, rfl, h1⟩ := h
  refine (r3norm_any _ _ _ _ L q w h1 (by omega)).mono ?_
  intro e w' h
  obtain ⟨x, rfl, k1, k2⟩ := RetR.v h
  exact ⟨_, rfl, ⟨x, rfl, k1⟩, k2⟩

set_option maxRecDepth 20000 in
set_option maxHeartbeats 8000000 in
theorem rlerp_any (L : Nat) (ca cb ct : Array Value) (A B S : Rat) (w : World) (hA : NIn L w ca A) (hB : NIn L w cb B) (hS : NIn L w ct S) (h1 : 1 ≤ L) (hL : L ≤ 800) :
    Calls Tryz.prog 60 #[.agg ca, .agg cb, .agg ct] w fun e w' => ∃ c, e = .returned (.agg c) ∧ NIs w' c (lerpV A B S) ∧ Ext w w' := by
  have rA := hA.rl h1
  have rB := hB.rl h1
  have rS := hS.rl h1
  have q1 := Nm.rl_sub B A
  have q2 := Nm.rl_mul S (B - A)
  have ZA := hA.size
  have ZB := hB.size
  have ZS := hS.size
  have FA := Lib.hid hA
  have FB := Lib.hid hB
  have FS := Lib.hid hS
  clear hA hB hS
  go_enter Tryz.func60, Tryz.ntmps60
  go_upto_region 1 with fail
  have hbx0 : Blk ((((w.alloc (.cells ca 26)).alloc (.cells cb 26)).alloc (.cells ct 26)).alloc (.cells #[.bool false, .slice none 0 0, .bool false, .slice none 0 0] 26)) (w.heap.size) 26 ca := Blk.ext (Blk.new_at w _ (by simp) _ _) ((((Ext.refl _).alloc _).alloc _).alloc _)
  have hbx1 : Blk ((((w.alloc (.cells ca 26)).alloc (.cells cb 26)).alloc (.cells ct 26)).alloc (.cells #[.bool false, .slice none 0 0, .bool false, .slice none 0 0] 26)) (w.heap.size + 1) 26 cb := Blk.ext (Blk.new_at (w.alloc (.cells ca 26)) _ (by simp) _ _) (((Ext.refl _).alloc _).alloc _)
  have hbx2 : Blk ((((w.alloc (.cells ca 26)).alloc (.cells cb 26)).alloc (.cells ct 26)).alloc (.cells #[.bool false, .slice none 0 0, .bool false, .slice none 0 0] 26)) (w.heap.size + 1 + 1) 26 ct := Blk.ext (Blk.new_at ((w.alloc (.cells ca 26)).alloc (.cells cb 26)) _ (by simp) _ _) ((Ext.refl _).alloc _)
  have hR0 : Blk ((((w.alloc (.cells ca 26)).alloc (.cells cb 26)).alloc (.cells ct 26)).alloc (.cells #[.bool false, .slice none 0 0, .bool false, .slice none 0 0] 26)) (w.heap.size + 1 + 1 + 1) 26 #[.bool false, .slice none 0 0, .bool false, .slice none 0 0] := Blk.ext (Blk.new_at (((w.alloc (.cells ca 26)).alloc (.cells cb 26)).alloc (.cells ct 26)) _ (by simp) _ _) (Ext.refl _)
  have hE : Ext w ((((w.alloc (.cells ca 26)).alloc (.cells cb 26)).alloc (.cells ct 26)).alloc (.cells #[.bool false, .slice none 0 0, .bool false, .slice none 0 0] 26)) := (((((Ext.refl _).alloc _).alloc _).alloc _).alloc _)
  have gR0 : w.heap.size ≤ w.heap.size + 1 + 1 + 1 := by omega
  have nbx0_R0 : w.heap.size ≠ w.heap.size + 1 + 1 + 1 := by omega
  have nbx1_R0 : w.heap.size + 1 ≠ w.heap.size + 1 + 1 + 1 := by omega
  have nbx2_R0 : w.heap.size + 1 + 1 ≠ w.heap.size + 1 + 1 + 1 := by omega
  generalize ((((w.alloc (.cells ca 26)).alloc (.cells cb 26)).alloc (.cells ct 26)).alloc (.cells #[.bool false, .slice none 0 0, .bool false, .slice none 0 0] 26)) = wa at *
  generalize w.heap.size + 1 + 1 + 1 = R0 at *
  generalize w.heap.size + 1 + 1 = bx2 at *
  generalize w.heap.size + 1 = bx1 at *
  have E1 := Lib.hid (show Ext w wa from hE)
  have Fbx0 := Lib.hid hbx0
  have Fbx1 := Lib.hid hbx1
  have Fbx2 := Lib.hid hbx2
  have FR0 := Lib.hid hR0
  clear hE hbx0 hbx1 hbx2 hR0
  refine wp_region_held_drew (S := fun x => Own R0 wa x) (by kernel_rfl) (Own.of_ext (Ext.refl _).drew) (fun _ => ?_)
  have E2 := Lib.hid (show Ext wa wa.drew from (Ext.refl _).drew)
  refine md_load (i := 0) (listed' := #[true, false, false, false, false, false, false, false]) (by rfl) (by kernel_rfl) (by kernel_rfl) (by kernel_rfl) _ _ (by rfl) w.heap.size _ ca _ (by intro _ _ _ h; exact h) (by rfl) (by rfl) (fun x hx => (Fbx0.out).own hx nbx0_R0) Tryz.underlying26 (by rfl) (by rw [show (ca : Array Value).size = 4 from ZA]; kernel_rfl) (Own.of_ext E2.out) (by kernel_rfl) ?_
  (try simp only [Act.put, List.setIfInBounds_toArray, List.set_cons_zero, List.set_cons_succ])
  refine md_load (i := 1) (listed' := #[true, true, false, false, false, false, false, false]) (by rfl) (by kernel_rfl) (by kernel_rfl) (by kernel_rfl) _ _ (by rfl) bx2 _ ct _ (by intro _ _ _ h; exact h) (by rfl) (by rfl) (fun x hx => (Fbx2.out).own hx nbx2_R0) Tryz.underlying26 (by rfl) (by rw [show (ct : Array Value).size = 4 from ZS]; kernel_rfl) (Own.of_ext E2.out) (by kernel_rfl) ?_
  (try simp only [Act.put, List.setIfInBounds_toArray, List.set_cons_zero, List.set_cons_succ])
  refine md_load (i := 2) (listed' := #[true, true, true, false, false, false, false, false]) (by rfl) (by kernel_rfl) (by kernel_rfl) (by kernel_rfl) _ _ (by rfl) bx1 _ cb _ (by intro _ _ _ h; exact h) (by rfl) (by rfl) (fun x hx => (Fbx1.out).own hx nbx1_R0) Tryz.underlying26 (by rfl) (by rw [show (cb : Array Value).size = 4 from ZB]; kernel_rfl) (Own.of_ext E2.out) (by kernel_rfl) ?_
  (try simp only [Act.put, List.setIfInBounds_toArray, List.set_cons_zero, List.set_cons_succ])
  refine md_load (i := 3) (listed' := #[true, true, true, true, false, false, false, false]) (by rfl) (by kernel_rfl) (by kernel_rfl) (by kernel_rfl) _ _ (by rfl) w.heap.size _ ca _ (by intro _ _ _ h; exact h) (by rfl) (by rfl) (fun x hx => (Fbx0.out).own hx nbx0_R0) Tryz.underlying26 (by rfl) (by rw [show (ca : Array Value).size = 4 from ZA]; kernel_rfl) (Own.of_ext E2.out) (by kernel_rfl) ?_
  (try simp only [Act.put, List.setIfInBounds_toArray, List.set_cons_zero, List.set_cons_succ])
  refine md_call (i := 4) (listed' := #[true, true, true, true, true, false, false, false]) (by rfl) (by kernel_rfl) (by rfl) (by go_simp) (r03Sub (FB.out.ext (E1.out.trans E2.out)) (FA.out.ext (E1.out.trans E2.out)) (by omega)) (by kernel_rfl) ?_
  rintro e w3 ⟨c1, rfl, hc, hx⟩
  have E3 := Lib.hid (show Ext wa.drew w3 from hx)
  have Fd := Lib.hid hc
  clear hc
  clear hx
  refine ⟨_, rfl, (Own.of_ext (E2.out.trans E3.out)), ?_⟩
  (try simp only [Act.put, List.setIfInBounds_toArray, List.set_cons_zero, List.set_cons_succ])
  refine md_call (i := 5) (listed' := #[true, true, true, true, true, true, false, false]) (by rfl) (by kernel_rfl) (by rfl) (by go_simp) (r03Mul (L := 2 * L + 1) ((FS.out.ext (E1.out.trans (E2.out.trans E3.out))).mono (by omega)) (Fd.out.isIn (by omega)) (by omega)) (by kernel_rfl) ?_
  rintro e w4 ⟨c2, rfl, hc, hx⟩
  have E4 := Lib.hid (show Ext w3 w4 from hx)
  have Fm := Lib.hid hc
  clear hc
  clear hx
  refine ⟨_, rfl, (Own.of_ext (E2.out.trans (E3.out.trans E4.out))), ?_⟩
  (try simp only [Act.put, List.setIfInBounds_toArray, List.set_cons_zero, List.set_cons_succ])
  refine md_call (i := 6) (listed' := #[true, true, true, true, true, true, true, false]) (by rfl) (by kernel_rfl) (by rfl) (by go_simp) (r03Add (L := 3 * L + 1) ((FA.out.ext (E1.out.trans (E2.out.trans (E3.out.trans E4.out)))).mono (by omega)) (Fm.out.isIn (by omega)) (by omega)) (by kernel_rfl) ?_
  rintro e w5 ⟨c3, rfl, hc, hx⟩
  have E5 := Lib.hid (show Ext w4 w5 from hx)
  have Fr := Lib.hid hc
  have Z3 := hc.size
  have O3 := hc.one
  clear hc
  clear hx
  refine ⟨_, rfl, (Own.of_ext (E2.out.trans (E3.out.trans (E4.out.trans E5.out)))), ?_⟩
  (try simp only [Act.put, List.setIfInBounds_toArray, List.set_cons_zero, List.set_cons_succ])
  have o1 := Own.setCells w5 R0 c3
  have kb1 := (FR0.out.ext (E2.out.trans (E3.out.trans (E4.out.trans E5.out))))
  have hs1 : Own R0 wa (w5.setCells R0 0 (c3 : Array Value).toList) := (Own.then_ext' (E2.out.trans (E3.out.trans (E4.out.trans E5.out))) o1)
  refine md_store (i := 7) (listed' := #[true, true, true, true, true, true, true, true]) (by rfl) (by kernel_rfl) (by rfl) _ _ _ (by rfl) R0 _ #[.bool false, .slice none 0 0, .bool false, .slice none 0 0] c3 (by rfl) (by rfl) kb1 (by rw [show (c3 : Array Value).size = 4 from Z3]; rfl) (by rw [show (c3 : Array Value).size = 4 from Z3]; kernel_rfl) O3 hs1 (by kernel_rfl) ?_
  (try simp only [Act.put, List.setIfInBounds_toArray, List.set_cons_zero, List.set_cons_succ])
  have kc1 := kb1.setCells c3 (by rw [show (c3 : Array Value).size = 4 from Z3]; rfl)
  refine wpAnyH_done (by kernel_rfl) ?_ _
  go_wp2_with fail
  refine bodyPost_ret (v := .agg c3) ?_ rfl ⟨_, rfl, (Fr.out.own kb1 noUn o1), (o1.ext (E1.out.trans (E2.out.trans (E3.out.trans (E4.out.trans E5.out)))) gR0)⟩
  exact results_cell1 rfl rfl (kc1.loadVar rfl rfl (by rw [Z3]; rfl))

set_option maxRecDepth 20000 in
set_option maxHeartbeats 8000000 in
theorem rbetween_any (L : Nat) (ca cb ct : Array Value) (A0 A1 B0 B1 S : Rat) (w : World) (hA : PtIn L w ca A0 A1) (hB : PtIn L w cb B0 B1) (hS : NIn L w ct S) (h1 : 1 ≤ L) (hL : L ≤ 800) :
    Calls Tryz.prog 32 #[.agg ca, .agg cb, .agg ct] w fun e w' => ∃ c, e = .returned (.agg c) ∧ PtIs w' c (lerpV A0 B0 S) (lerpV A1 B1 S) ∧ Ext w w' := by
  have ZA := hA.size
  have ZB := hB.size
  have ZS := hS.size
  have FA := Lib.hid hA
  have FB := Lib.hid hB
  have FS := Lib.hid hS
  clear hA hB hS
  go_enter Tryz.func32, Tryz.ntmps32
  go_upto_region 1 with fail
  have hbx0 : Blk ((((w.alloc (.cells ca 27)).alloc (.cells cb 27)).alloc (.cells ct 26)).alloc (.cells #[.bool false, .slice none 0 0, .bool false, .slice none 0 0, .bool false, .slice none 0 0, .bool false, .slice none 0 0] 27)) (w.heap.size) 27 ca := Blk.ext (Blk.new_at w _ (by simp) _ _) ((((Ext.refl _).alloc _).alloc _).alloc _)
  have hbx1 : Blk ((((w.alloc (.cells ca 27)).alloc (.cells cb 27)).alloc (.cells ct 26)).alloc (.cells #[.bool false, .slice none 0 0, .bool false, .slice none 0 0, .bool false, .slice none 0 0, .bool false, .slice none 0 0] 27)) (w.heap.size + 1) 27 cb := Blk.ext (Blk.new_at (w.alloc (.cells ca 27)) _ (by simp) _ _) (((Ext.refl _).alloc _).alloc _)
  have hbx2 : Blk ((((w.alloc (.cells ca 27)).alloc (.cells cb 27)).alloc (.cells ct 26)).alloc (.cells #[.bool false, .slice none 0 0, .bool false, .slice none 0 0, .bool false, .slice none 0 0, .bool false, .slice none 0 0] 27)) (w.heap.size + 1 + 1) 26 ct := Blk.ext (Blk.new_at ((w.alloc (.cells ca 27)).alloc (.cells cb 27)) _ (by simp) _ _) ((Ext.refl _).alloc _)
  have hR0 : Blk ((((w.alloc (.cells ca 27)).alloc (.cells cb 27)).alloc (.cells ct 26)).alloc (.cells #[.bool false, .slice none 0 0, .bool false, .slice none 0 0, .bool false, .slice none 0 0, .bool false, .slice none 0 0] 27)) (w.heap.size + 1 + 1 + 1) 27 #[.bool false, .slice none 0 0, .bool false, .slice none 0 0, .bool false, .slice none 0 0, .bool false, .slice none 0 0] := Blk.ext (Blk.new_at (((w.alloc (.cells ca 27)).alloc (.cells cb 27)).alloc (.cells ct 26)) _ (by simp) _ _) (Ext.refl _)
  have hE : Ext w ((((w.alloc (.cells ca 27)).alloc (.cells cb 27)).alloc (.cells ct 26)).alloc (.cells #[.bool false, .slice none 0 0, .bool false, .slice none 0 0, .bool false, .slice none 0 0, .bool false, .slice none 0 0] 27)) := (((((Ext.refl _).alloc _).alloc _).alloc _).alloc _)
  have gR0 : w.heap.size ≤ w.heap.size + 1 + 1 + 1 := by omega
  have nbx0_R0 : w.heap.size ≠ w.heap.size + 1 + 1 + 1 := by omega
  have nbx1_R0 : w.heap.size + 1 ≠ w.heap.size + 1 + 1 + 1 := by omega
  have nbx2_R0 : w.heap.size + 1 + 1 ≠ w.heap.size + 1 + 1 + 1 := by omega
  generalize ((((w.alloc (.cells ca 27)).alloc (.cells cb 27)).alloc (.cells ct 26)).alloc (.cells #[.bool false, .slice none 0 0, .bool false, .slice none 0 0, .bool false, .slice none 0 0, .bool false, .slice none 0 0] 27)) = wa at *
  generalize w.heap.size + 1 + 1 + 1 = R0 at *
  generalize w.heap.size + 1 + 1 = bx2 at *
  generalize w.heap.size + 1 = bx1 at *
  have E1 := Lib.hid (show Ext w wa from hE)
  have Fbx0 := Lib.hid hbx0
  have Fbx1 := Lib.hid hbx1
  have Fbx2 := Lib.hid hbx2
  have FR0 := Lib.hid hR0
  clear hE hbx0 hbx1 hbx2 hR0
  refine wp_region_held_drew (S := fun x => Own R0 wa x) (by kernel_rfl) (Own.of_ext (Ext.refl _).drew) (fun _ => ?_)
  have E2 := Lib.hid (show Ext wa wa.drew from (Ext.refl _).drew)
  refine md_val (i := 0) (v := ?vm1) (listed' := #[true, false, false, false, false, false, false, false, false, false, false, false, false, false]) (by rfl) (by kernel_rfl) (by kernel_rfl) (by kernel_rfl) (by intro _ _ _ h; exact h) (by rfl) ?hm1 (Own.of_ext E2.out) (by kernel_rfl) ?rm1
  case hm1 => (intro w hSw; (try dsimp only at hSw); go_simp <;> with_reducible rfl)
  (try simp only [Act.put, List.setIfInBounds_toArray, List.set_cons_zero, List.set_cons_succ])
  refine md_part (i := 1) (listed' := #[true, true, false, false, false, false, false, false, false, false, false, false, false, false]) (by rfl) (by kernel_rfl) (by kernel_rfl) (by kernel_rfl) _ _ (by rfl) w.heap.size 0 4 _ ca _ (by intro _ _ _ h; exact h) (by rfl) (by rfl) (fun x hx => (Fbx0.out).own hx nbx0_R0) Tryz.underlying26 (by rfl) (by kernel_rfl) (by rw [show (ca : Array Value).size = 8 from ZA]; omega) (Own.of_ext E2.out) (by kernel_rfl) ?_
  (try simp only [Act.put, List.setIfInBounds_toArray, List.set_cons_zero, List.set_cons_succ])
  refine md_val (i := 2) (v := ?vm2) (listed' := #[true, true, true, false, false, false, false, false, false, false, false, false, false, false]) (by rfl) (by kernel_rfl) (by kernel_rfl) (by kernel_rfl) (by intro _ _ _ h; exact h) (by rfl) ?hm2 (Own.of_ext E2.out) (by kernel_rfl) ?rm2
  case hm2 => (intro w hSw; (try dsimp only at hSw); go_simp <;> with_reducible rfl)
  (try simp only [Act.put, List.setIfInBounds_toArray, List.set_cons_zero, List.set_cons_succ])
  refine md_part (i := 3) (listed' := #[true, true, true, true, false, false, false, false, false, false, false, false, false, false]) (by rfl) (by kernel_rfl) (by kernel_rfl) (by kernel_rfl) _ _ (by rfl) bx1 0 4 _ cb _ (by intro _ _ _ h; exact h) (by rfl) (by rfl) (fun x hx => (Fbx1.out).own hx nbx1_R0) Tryz.underlying26 (by rfl) (by kernel_rfl) (by rw [show (cb : Array Value).size = 8 from ZB]; omega) (Own.of_ext E2.out) (by kernel_rfl) ?_
  (try simp only [Act.put, List.setIfInBounds_toArray, List.set_cons_zero, List.set_cons_succ])
  refine md_load (i := 4) (listed' := #[true, true, true, true, true, false, false, false, false, false, false, false, false, false]) (by rfl) (by kernel_rfl) (by kernel_rfl) (by kernel_rfl) _ _ (by rfl) bx2 _ ct _ (by intro _ _ _ h; exact h) (by rfl) (by rfl) (fun x hx => (Fbx2.out).own hx nbx2_R0) Tryz.underlying26 (by rfl) (by rw [show (ct : Array Value).size = 4 from ZS]; kernel_rfl) (Own.of_ext E2.out) (by kernel_rfl) ?_
  (try simp only [Act.put, List.setIfInBounds_toArray, List.set_cons_zero, List.set_cons_succ])
  refine md_val (i := 6) (v := ?vm3) (listed' := #[true, true, true, true, true, false, true, false, false, false, false, false, false, false]) (by rfl) (by kernel_rfl) (by kernel_rfl) (by kernel_rfl) (by intro _ _ _ h; exact h) (by rfl) ?hm3 (Own.of_ext E2.out) (by kernel_rfl) ?rm3
  case hm3 => (intro w hSw; (try dsimp only at hSw); go_simp <;> with_reducible rfl)
  (try simp only [Act.put, List.setIfInBounds_toArray, List.set_cons_zero, List.set_cons_succ])
  refine md_part (i := 7) (listed' := #[true, true, true, true, true, false, true, true, false, false, false, false, false, false]) (by rfl) (by kernel_rfl) (by kernel_rfl) (by kernel_rfl) _ _ (by rfl) w.heap.size 4 4 _ ca _ (by intro _ _ _ h; exact h) (by rfl) (by rfl) (fun x hx => (Fbx0.out).own hx nbx0_R0) Tryz.underlying26 (by rfl) (by kernel_rfl) (by rw [show (ca : Array Value).size = 8 from ZA]; omega) (Own.of_ext E2.out) (by kernel_rfl) ?_
  (try simp only [Act.put, List.setIfInBounds_toArray, List.set_cons_zero, List.set_cons_succ])
  refine md_val (i := 8) (v := ?vm4) (listed' := #[true, true, true, true, true, false, true, true, true, false, false, false, false, false]) (by rfl) (by kernel_rfl) (by kernel_rfl) (by kernel_rfl) (by intro _ _ _ h; exact h) (by rfl) ?hm4 (Own.of_ext E2.out) (by kernel_rfl) ?rm4
  case hm4 => (intro w hSw; (try dsimp only at hSw); go_simp <;> with_reducible rfl)
  (try simp only [Act.put, List.setIfInBounds_toArray, List.set_cons_zero, List.set_cons_succ])
  refine md_part (i := 9) (listed' := #[true, true, true, true, true, false, true, true, true, true, false, false, false, false]) (by rfl) (by kernel_rfl) (by kernel_rfl) (by kernel_rfl) _ _ (by rfl) bx1 4 4 _ cb _ (by intro _ _ _ h; exact h) (by rfl) (by rfl) (fun x hx => (Fbx1.out).own hx nbx1_R0) Tryz.underlying26 (by rfl) (by kernel_rfl) (by rw [show (cb : Array Value).size = 8 from ZB]; omega) (Own.of_ext E2.out) (by kernel_rfl) ?_
  (try simp only [Act.put, List.setIfInBounds_toArray, List.set_cons_zero, List.set_cons_succ])
  refine md_load (i := 10) (listed' := #[true, true, true, true, true, false, true, true, true, true, true, false, false, false]) (by rfl) (by kernel_rfl) (by kernel_rfl) (by kernel_rfl) _ _ (by rfl) bx2 _ ct _ (by intro _ _ _ h; exact h) (by rfl) (by rfl) (fun x hx => (Fbx2.out).own hx nbx2_R0) Tryz.underlying26 (by rfl) (by rw [show (ct : Array Value).size = 4 from ZS]; kernel_rfl) (Own.of_ext E2.out) (by kernel_rfl) ?_
  (try simp only [Act.put, List.setIfInBounds_toArray, List.set_cons_zero, List.set_cons_succ])
  refine md_call (i := 5) (listed' := #[true, true, true, true, true, true, true, true, true, true, true, false, false, false]) (by rfl) (by kernel_rfl) (by rfl) (by go_simp) (rlerp_any L _ _ _ _ _ _ _ (FA.out.ext (E1.out.trans E2.out)).c0 (FB.out.ext (E1.out.trans E2.out)).c0 (FS.out.ext (E1.out.trans E2.out)) h1 hL) (by kernel_rfl) ?_
  rintro e w3 ⟨_, rfl, ⟨u0, rfl, hc⟩, hx⟩
  have E3 := Lib.hid (show Ext wa.drew w3 from hx)
  have Fu0 := Lib.hid hc
  clear hc
  clear hx
  refine ⟨_, rfl, (Own.of_ext (E2.out.trans E3.out)), ?_⟩
  (try simp only [Act.put, List.setIfInBounds_toArray, List.set_cons_zero, List.set_cons_succ])
  refine md_call (i := 11) (listed' := #[true, true, true, true, true, true, true, true, true, true, true, true, false, false]) (by rfl) (by kernel_rfl) (by rfl) (by go_simp) (rlerp_any L _ _ _ _ _ _ _ (FA.out.ext (E1.out.trans (E2.out.trans E3.out))).c1 (FB.out.ext (E1.out.trans (E2.out.trans E3.out))).c1 (FS.out.ext (E1.out.trans (E2.out.trans E3.out))) h1 hL) (by kernel_rfl) ?_
  rintro e w4 ⟨_, rfl, ⟨u1, rfl, hc⟩, hx⟩
  have E4 := Lib.hid (show Ext w3 w4 from hx)
  have Fu1 := Lib.hid hc
  clear hc
  clear hx
  refine ⟨_, rfl, (Own.of_ext (E2.out.trans (E3.out.trans E4.out))), ?_⟩
  (try simp only [Act.put, List.setIfInBounds_toArray, List.set_cons_zero, List.set_cons_succ])
  refine md_val (i := 12) (v := ?vm5) (listed' := #[true, true, true, true, true, true, true, true, true, true, true, true, true, false]) (by rfl) (by kernel_rfl) (by kernel_rfl) (by kernel_rfl) (by intro _ _ _ h; exact h) (by rfl) ?hm5 (Own.of_ext (E2.out.trans (E3.out.trans E4.out))) (by kernel_rfl) ?rm5
  case hm5 => (intro w hSw; (try dsimp only at hSw); go_simp <;> with_reducible rfl)
  (try simp only [Act.put, List.setIfInBounds_toArray, List.set_cons_zero, List.set_cons_succ])
  have o1 := Own.setCells w4 R0 #[.bool u0.n, .slice u0.p u0.l u0.c, .bool u0.m, .slice u0.p2 u0.l2 u0.c2, .bool u1.n, .slice u1.p u1.l u1.c, .bool u1.m, .slice u1.p2 u1.l2 u1.c2]
  have kb1 := (FR0.out.ext (E2.out.trans (E3.out.trans E4.out)))
  have hs1 : Own R0 wa (w4.setCells R0 0 (#[.bool u0.n, .slice u0.p u0.l u0.c, .bool u0.m, .slice u0.p2 u0.l2 u0.c2, .bool u1.n, .slice u1.p u1.l u1.c, .bool u1.m, .slice u1.p2 u1.l2 u1.c2] : Array Value).toList) := (Own.then_ext' (E2.out.trans (E3.out.trans E4.out)) o1)
  refine md_store (i := 13) (listed' := #[true, true, true, true, true, true, true, true, true, true, true, true, true, true]) (by rfl) (by kernel_rfl) (by rfl) _ _ _ (by rfl) R0 _ #[.bool false, .slice none 0 0, .bool false, .slice none 0 0, .bool false, .slice none 0 0, .bool false, .slice none 0 0] #[.bool u0.n, .slice u0.p u0.l u0.c, .bool u0.m, .slice u0.p2 u0.l2 u0.c2, .bool u1.n, .slice u1.p u1.l u1.c, .bool u1.m, .slice u1.p2 u1.l2 u1.c2] (by rfl) (by rfl) kb1 (by rw [show (#[.bool u0.n, .slice u0.p u0.l u0.c, .bool u0.m, .slice u0.p2 u0.l2 u0.c2, .bool u1.n, .slice u1.p u1.l u1.c, .bool u1.m, .slice u1.p2 u1.l2 u1.c2] : Array Value).size = 8 from rfl]; rfl) (by rw [show (#[.bool u0.n, .slice u0.p u0.l u0.c, .bool u0.m, .slice u0.p2 u0.l2 u0.c2, .bool u1.n, .slice u1.p u1.l u1.c, .bool u1.m, .slice u1.p2 u1.l2 u1.c2] : Array Value).size = 8 from rfl]; kernel_rfl) (all_oneCell_toArray (by simp [Value.oneCell'])) hs1 (by kernel_rfl) ?_
  (try simp only [Act.put, List.setIfInBounds_toArray, List.set_cons_zero, List.set_cons_succ])
  have kc1 := kb1.setCells #[.bool u0.n, .slice u0.p u0.l u0.c, .bool u0.m, .slice u0.p2 u0.l2 u0.c2, .bool u1.n, .slice u1.p u1.l u1.c, .bool u1.m, .slice u1.p2 u1.l2 u1.c2] (by rw [show (#[.bool u0.n, .slice u0.p u0.l u0.c, .bool u0.m, .slice u0.p2 u0.l2 u0.c2, .bool u1.n, .slice u1.p u1.l u1.c, .bool u1.m, .slice u1.p2 u1.l2 u1.c2] : Array Value).size = 8 from rfl]; rfl)
  refine wpAnyH_done (by kernel_rfl) ?_ _
  go_wp2_with fail
  refine bodyPost_ret (v := .agg #[.bool u0.n, .slice u0.p u0.l u0.c, .bool u0.m, .slice u0.p2 u0.l2 u0.c2, .bool u1.n, .slice u1.p u1.l u1.c, .bool u1.m, .slice u1.p2 u1.l2 u1.c2]) ?_ rfl ⟨_, rfl, ⟨u0, u1, rfl, ((Fu0.out.ext E4.out).own kb1 (noU_of _ (by simp)) o1), (Fu1.out.own kb1 (noU_of _ (by simp)) o1)⟩, (o1.ext (E1.out.trans (E2.out.trans (E3.out.trans E4.out))) gR0)⟩
  exact results_cell1 rfl rfl (kc1.loadVar rfl rfl (by rfl))

set_option maxRecDepth 20000 in
set_option maxHeartbeats 8000000 in
theorem rexact_any (L : Nat) (ca : Array Value) (A0 A1 : Rat) (w : World) (hA : PtIn L w ca A0 A1) (hL : L ≤ 100000) :
    Calls Tryz.prog 33 #[.agg ca] w fun e w' => ∃ c, e = .returned (.agg c) ∧ PtIs w' c A0 A1 ∧ Ext w w' := by
  have ZA := hA.size
  have FA := Lib.hid hA
  clear hA
  go_enter Tryz.func33, Tryz.ntmps33
  go_upto_region 1 with fail
  have hbx0 : Blk ((w.alloc (.cells ca 27)).alloc (.cells #[.bool false, .slice none 0 0, .bool false, .slice none 0 0, .bool false, .slice none 0 0, .bool false, .slice none 0 0] 27)) (w.heap.size) 27 ca := Blk.ext (Blk.new_at w _ (by simp) _ _) ((Ext.refl _).alloc _)
  have hR0 : Blk ((w.alloc (.cells ca 27)).alloc (.cells #[.bool false, .slice none 0 0, .bool false, .slice none 0 0, .bool false, .slice none 0 0, .bool false, .slice none 0 0] 27)) (w.heap.size + 1) 27 #[.bool false, .slice none 0 0, .bool false, .slice none 0 0, .bool false, .slice none 0 0, .bool false, .slice none 0 0] := Blk.ext (Blk.new_at (w.alloc (.cells ca 27)) _ (by simp) _ _) (Ext.refl _)
  have hE : Ext w ((w.alloc (.cells ca 27)).alloc (.cells #[.bool false, .slice none 0 0, .bool false, .slice none 0 0, .bool false, .slice none 0 0, .bool false, .slice none 0 0] 27)) := (((Ext.refl _).alloc _).alloc _)
  have gR0 : w.heap.size ≤ w.heap.size + 1 := by omega
  have nbx0_R0 : w.heap.size ≠ w.heap.size + 1 := by omega
  generalize ((w.alloc (.cells ca 27)).alloc (.cells #[.bool false, .slice none 0 0, .bool false, .slice none 0 0, .bool false, .slice none 0 0, .bool false, .slice none 0 0] 27)) = wa at *
  generalize w.heap.size + 1 = R0 at *
  have E1 := Lib.hid (show Ext w wa from hE)
  have Fbx0 := Lib.hid hbx0
  have FR0 := Lib.hid hR0
  clear hE hbx0 hR0
  refine wp_region_held_drew (S := fun x => Own R0 wa x) (by kernel_rfl) (Own.of_ext (Ext.refl _).drew) (fun _ => ?_)
  have E2 := Lib.hid (show Ext wa wa.drew from (Ext.refl _).drew)
  refine md_val (i := 0) (v := ?vm1) (listed' := #[true, false, false, false, false, false, false, false]) (by rfl) (by kernel_rfl) (by kernel_rfl) (by kernel_rfl) (by intro _ _ _ h; exact h) (by rfl) ?hm1 (Own.of_ext E2.out) (by kernel_rfl) ?rm1
  case hm1 => (intro w hSw; (try dsimp only at hSw); go_simp <;> with_reducible rfl)
  (try simp only [Act.put, List.setIfInBounds_toArray, List.set_cons_zero, List.set_cons_succ])
  refine md_part (i := 1) (listed' := #[true, true, false, false, false, false, false, false]) (by rfl) (by kernel_rfl) (by kernel_rfl) (by kernel_rfl) _ _ (by rfl) w.heap.size 0 4 _ ca _ (by intro _ _ _ h; exact h) (by rfl) (by rfl) (fun x hx => (Fbx0.out).own hx nbx0_R0) Tryz.underlying26 (by rfl) (by kernel_rfl) (by rw [show (ca : Array Value).size = 8 from ZA]; omega) (Own.of_ext E2.out) (by kernel_rfl) ?_
  (try simp only [Act.put, List.setIfInBounds_toArray, List.set_cons_zero, List.set_cons_succ])
  refine md_val (i := 3) (v := ?vm2) (listed' := #[true, true, false, true, false, false, false, false]) (by rfl) (by kernel_rfl) (by kernel_rfl) (by kernel_rfl) (by intro _ _ _ h; exact h) (by rfl) ?hm2 (Own.of_ext E2.out) (by kernel_rfl) ?rm2
  case hm2 => (intro w hSw; (try dsimp only at hSw); go_simp <;> with_reducible rfl)
  (try simp only [Act.put, List.setIfInBounds_toArray, List.set_cons_zero, List.set_cons_succ])
  refine md_part (i := 4) (listed' := #[true, true, false, true, true, false, false, false]) (by rfl) (by kernel_rfl) (by kernel_rfl) (by kernel_rfl) _ _ (by rfl) w.heap.size 4 4 _ ca _ (by intro _ _ _ h; exact h) (by rfl) (by rfl) (fun x hx => (Fbx0.out).own hx nbx0_R0) Tryz.underlying26 (by rfl) (by kernel_rfl) (by rw [show (ca : Array Value).size = 8 from ZA]; omega) (Own.of_ext E2.out) (by kernel_rfl) ?_
  (try simp only [Act.put, List.setIfInBounds_toArray, List.set_cons_zero, List.set_cons_succ])
  refine md_call (i := 2) (listed' := #[true, true, true, true, true, false, false, false]) (by rfl) (by kernel_rfl) (by rfl) (by go_simp) (r03Norm (FA.out.ext (E1.out.trans E2.out)).c0 hL) (by kernel_rfl) ?_
  rintro e w3 ⟨_, rfl, ⟨u0, rfl, hc⟩, hx⟩
  have E3 := Lib.hid (show Ext wa.drew w3 from hx)
  have Fu0 := Lib.hid hc
  clear hc
  clear hx
  refine ⟨_, rfl, (Own.of_ext (E2.out.trans E3.out)), ?_⟩
  (try simp only [Act.put, List.setIfInBounds_toArray, List.set_cons_zero, List.set_cons_succ])
  refine md_call (i := 5) (listed' := #[true, true, true, true, true, true, false, false]) (by rfl) (by kernel_rfl) (by rfl) (by go_simp) (r03Norm (FA.out.ext (E1.out.trans (E2.out.trans E3.out))).c1 hL) (by kernel_rfl) ?_
  rintro e w4 ⟨_, rfl, ⟨u1, rfl, hc⟩, hx⟩
  have E4 := Lib.hid (show Ext w3 w4 from hx)
  have Fu1 := Lib.hid hc
  clear hc
  clear hx
  refine ⟨_, rfl, (Own.of_ext (E2.out.trans (E3.out.trans E4.out))), ?_⟩
  (try simp only [Act.put, List.setIfInBounds_toArray, List.set_cons_zero, List.set_cons_succ])
  refine md_val (i := 6) (v := ?vm3) (listed' := #[true, true, true, true, true, true, true, false]) (by rfl) (by kernel_rfl) (by kernel_rfl) (by kernel_rfl) (by intro _ _ _ h; exact h) (by rfl) ?hm3 (Own.of_ext (E2.out.trans (E3.out.trans E4.out))) (by kernel_rfl) ?rm3
  case hm3 => (intro w hSw; (try dsimp only at hSw); go_simp <;> with_reducible rfl)
  (try simp only [Act.put, List.setIfInBounds_toArray, List.set_cons_zero, List.set_cons_succ])
  have o1 := Own.setCells w4 R0 #[.bool u0.n, .slice u0.p u0.l u0.c, .bool u0.m, .slice u0.p2 u0.l2 u0.c2, .bool u1.n, .slice u1.p u1.l u1.c, .bool u1.m, .slice u1.p2 u1.l2 u1.c2]
  have kb1 := (FR0.out.ext (E2.out.trans (E3.out.trans E4.out)))
  have hs1 : Own R0 wa (w4.setCells R0 0 (#[.bool u0.n, .slice u0.p u0.l u0.c, .bool u0.m, .slice u0.p2 u0.l2 u0.c2, .bool u1.n, .slice u1.p u1.l u1.c, .bool u1.m, .slice u1.p2 u1.l2 u1.c2] : Array Value).toList) := (Own.then_ext' (E2.out.trans (E3.out.trans E4.out)) o1)
  refine md_store (i := 7) (listed' := #[true, true, true, true, true, true, true, true]) (by rfl) (by kernel_rfl) (by rfl) _ _ _ (by rfl) R0 _ #[.bool false, .slice none 0 0, .bool false, .slice none 0 0, .bool false, .slice none 0 0, .bool false, .slice none 0 0] #[.bool u0.n, .slice u0.p u0.l u0.c, .bool u0.m, .slice u0.p2 u0.l2 u0.c2, .bool u1.n, .slice u1.p u1.l u1.c, .bool u1.m, .slice u1.p2 u1.l2 u1.c2] (by rfl) (by rfl) kb1 (by rw [show (#[.bool u0.n, .slice u0.p u0.l u0.c, .bool u0.m, .slice u0.p2 u0.l2 u0.c2, .bool u1.n, .slice u1.p u1.l u1.c, .bool u1.m, .slice u1.p2 u1.l2 u1.c2] : Array Value).size = 8 from rfl]; rfl) (by rw [show (#[.bool u0.n, .slice u0.p u0.l u0.c, .bool u0.m, .slice u0.p2 u0.l2 u0.c2, .bool u1.n, .slice u1.p u1.l u1.c, .bool u1.m, .slice u1.p2 u1.l2 u1.c2] : Array Value).size = 8 from rfl]; kernel_rfl) (all_oneCell_toArray (by simp [Value.oneCell'])) hs1 (by kernel_rfl) ?_
  (try simp only [Act.put, List.setIfInBounds_toArray, List.set_cons_zero, List.set_cons_succ])
  have kc1 := kb1.setCells #[.bool u0.n, .slice u0.p u0.l u0.c, .bool u0.m, .slice u0.p2 u0.l2 u0.c2, .bool u1.n, .slice u1.p u1.l u1.c, .bool u1.m, .slice u1.p2 u1.l2 u1.c2] (by rw [show (#[.bool u0.n, .slice u0.p u0.l u0.c, .bool u0.m, .slice u0.p2 u0.l2 u0.c2, .bool u1.n, .slice u1.p u1.l u1.c, .bool u1.m, .slice u1.p2 u1.l2 u1.c2] : Array Value).size = 8 from rfl]; rfl)
  refine wpAnyH_done (by kernel_rfl) ?_ _
  go_wp2_with fail
  refine bodyPost_ret (v := .agg #[.bool u0.n, .slice u0.p u0.l u0.c, .bool u0.m, .slice u0.p2 u0.l2 u0.c2, .bool u1.n, .slice u1.p u1.l u1.c, .bool u1.m, .slice u1.p2 u1.l2 u1.c2]) ?_ rfl ⟨_, rfl, ⟨u0, u1, rfl, ((Fu0.out.ext E4.out).own kb1 (noU_of _ (by simp)) o1), (Fu1.out.own kb1 (noU_of _ (by simp)) o1)⟩, (o1.ext (E1.out.trans (E2.out.trans (E3.out.trans E4.out))) gR0)⟩
  exact results_cell1 rfl rfl (kc1.loadVar rfl rfl (by rfl))

set_option maxRecDepth 20000 in
set_option maxHeartbeats 8000000 in
theorem rsplitQuad_any (L : Nat) (cp ct : Array Value) (A0 A1 B0 B1 C0 C1 S : Rat) (w : World) (hP : Q3In L w cp A0 A1 B0 B1 C0 C1) (hS : NIn L w ct S) (h1 : 1 ≤ L) (hL : L ≤ 190) :
    Calls Tryz.prog 10 #[.agg cp, .agg ct] w fun e w' => ∃ c1 c2, e = .returned (.tuple #[.agg c1, .agg c2]) ∧ Q3Is w' c1 A0 A1 (lerpV A0 B0 S) (lerpV A1 B1 S) (lerpV (lerpV A0 B0 S) (lerpV B0 C0 S) S) (lerpV (lerpV A1 B1 S) (lerpV B1 C1 S) S) ∧ Q3Is w' c2 (lerpV (lerpV A0 B0 S) (lerpV B0 C0 S) S) (lerpV (lerpV A1 B1 S) (lerpV B1 C1 S) S) (lerpV B0 C0 S) (lerpV B1 C1 S) C0 C1 ∧ Ext w w' := by
  have ZP := hP.size
  have ZS := hS.size
  have rS := hS.rl h1
  have ra0 : Nm.rl A0 ≤ L := by obtain ⟨_, _, _, _, _, _, _, h, _, _, _, _, _⟩ := hP; have := h.rl; omega
  have ra1 : Nm.rl A1 ≤ L := by obtain ⟨_, _, _, _, _, _, _, _, h, _, _, _, _⟩ := hP; have := h.rl; omega
  have rb0 : Nm.rl B0 ≤ L := by obtain ⟨_, _, _, _, _, _, _, _, _, h, _, _, _⟩ := hP; have := h.rl; omega
  have rb1 : Nm.rl B1 ≤ L := by obtain ⟨_, _, _, _, _, _, _, _, _, _, h, _, _⟩ := hP; have := h.rl; omega
  have rc0 : Nm.rl C0 ≤ L := by obtain ⟨_, _, _, _, _, _, _, _, _, _, _, h, _⟩ := hP; have := h.rl; omega
  have rc1 : Nm.rl C1 ≤ L := by obtain ⟨_, _, _, _, _, _, _, _, _, _, _, _, h⟩ := hP; have := h.rl; omega
  have l00 := rl_lerpV (a := A0) (b := B0) (t := S) (L := L) ra0 rb0 rS
  have l10 := rl_lerpV (a := B0) (b := C0) (t := S) (L := L) rb0 rc0 rS
  have m00 := rl_lerpV (a := (lerpV A0 B0 S)) (b := (lerpV B0 C0 S)) (t := S) (L := 4 * L + 2) l00 l10 (by omega)
  have l01 := rl_lerpV (a := A1) (b := B1) (t := S) (L := L) ra1 rb1 rS
  have l11 := rl_lerpV (a := B1) (b := C1) (t := S) (L := L) rb1 rc1 rS
  have m01 := rl_lerpV (a := (lerpV A1 B1 S)) (b := (lerpV B1 C1 S)) (t := S) (L := 4 * L + 2) l01 l11 (by omega)
  have FP := Lib.hid hP
  have FS := Lib.hid hS
  clear hP hS
  go_enter Tryz.func10, Tryz.ntmps10
  go_upto_region 1 with fail
  have hbx0 : Blk ((((w.alloc (.cells cp 32)).alloc (.cells ct 26)).alloc (.cells #[.bool false, .slice none 0 0, .bool false, .slice none 0 0, .bool false, .slice none 0 0, .bool false, .slice none 0 0, .bool false, .slice none 0 0, .bool false, .slice none 0 0, .bool false, .slice none 0 0, .bool false, .slice none 0 0, .bool false, .slice none 0 0, .bool false, .slice none 0 0, .bool false, .slice none 0 0, .bool false, .slice none 0 0] 32)).alloc (.cells #[.bool false, .slice none 0 0, .bool false, .slice none 0 0, .bool false, .slice none 0 0, .bool false, .slice none 0 0, .bool false, .slice none 0 0, .bool false, .slice none 0 0, .bool false, .slice none 0 0, .bool false, .slice none 0 0, .bool false, .slice none 0 0, .bool false, .slice none 0 0, .bool false, .slice none 0 0, .bool false, .slice none 0 0] 32)) (w.heap.size) 32 cp := Blk.ext (Blk.new_at w _ (by simp) _ _) ((((Ext.refl _).alloc _).alloc _).alloc _)
  have hbx1 : Blk ((((w.alloc (.cells cp 32)).alloc (.cells ct 26)).alloc (.cells #[.bool false, .slice none 0 0, .bool false, .slice none 0 0, .bool false, .slice none 0 0, .bool false, .slice none 0 0, .bool false, .slice none 0 0, .bool false, .slice none 0 0, .bool false, .slice none 0 0, .bool false, .slice none 0 0, .bool false, .slice none 0 0, .bool false, .slice none 0 0, .bool false, .slice none 0 0, .bool false, .slice none 0 0] 32)).alloc (.cells #[.bool false, .slice none 0 0, .bool false, .slice none 0 0, .bool false, .slice none 0 0, .bool false, .slice none 0 0, .bool false, .slice none 0 0, .bool false, .slice none 0 0, .bool false, .slice none 0 0, .bool false, .slice none 0 0, .bool false, .slice none 0 0, .bool false, .slice none 0 0, .bool false, .slice none 0 0, .bool false, .slice none 0 0] 32)) (w.heap.size + 1) 26 ct := Blk.ext (Blk.new_at (w.alloc (.cells cp 32)) _ (by simp) _ _) (((Ext.refl _).alloc _).alloc _)
  have hR0 : Blk ((((w.alloc (.cells cp 32)).alloc (.cells ct 26)).alloc (.cells #[.bool false, .slice none 0 0, .bool false, .slice none 0 0, .bool false, .slice none 0 0, .bool false, .slice none 0 0, .bool false, .slice none 0 0, .bool false, .slice none 0 0, .bool false, .slice none 0 0, .bool false, .slice none 0 0, .bool false, .slice none 0 0, .bool false, .slice none 0 0, .bool false, .slice none 0 0, .bool false, .slice none 0 0] 32)).alloc (.cells #[.bool false, .slice none 0 0, .bool false, .slice none 0 0, .bool false, .slice none 0 0, .bool false, .slice none 0 0, .bool false, .slice none 0 0, .bool false, .slice none 0 0, .bool false, .slice none 0 0, .bool false, .slice none 0 0, .bool false, .slice none 0 0, .bool false, .slice none 0 0, .bool false, .slice none 0 0, .bool false, .slice none 0 0] 32)) (w.heap.size + 1 + 1) 32 #[.bool false, .slice none 0 0, .bool false, .slice none 0 0, .bool false, .slice none 0 0, .bool false, .slice none 0 0, .bool false, .slice none 0 0, .bool false, .slice none 0 0, .bool false, .slice none 0 0, .bool false, .slice none 0 0, .bool false, .slice none 0 0, .bool false, .slice none 0 0, .bool false, .slice none 0 0, .bool false, .slice none 0 0] := Blk.ext (Blk.new_at ((w.alloc (.cells cp 32)).alloc (.cells ct 26)) _ (by simp) _ _) ((Ext.refl _).alloc _)
  have hR1 : Blk ((((w.alloc (.cells cp 32)).alloc (.cells ct 26)).alloc (.cells #[.bool false, .slice none 0 0, .bool false, .slice none 0 0, .bool false, .slice none 0 0, .bool false, .slice none 0 0, .bool false, .slice none 0 0, .bool false, .slice none 0 0, .bool false, .slice none 0 0, .bool false, .slice none 0 0, .bool false, .slice none 0 0, .bool false, .slice none 0 0, .bool false, .slice none 0 0, .bool false, .slice none 0 0] 32)).alloc (.cells #[.bool false, .slice none 0 0, .bool false, .slice none 0 0, .bool false, .slice none 0 0, .bool false, .slice none 0 0, .bool false, .slice none 0 0, .bool false, .slice none 0 0, .bool false, .slice none 0 0, .bool false, .slice none 0 0, .bool false, .slice none 0 0, .bool false, .slice none 0 0, .bool false, .slice none 0 0, .bool false, .slice none 0 0] 32)) (w.heap.size + 1 + 1 + 1) 32 #[.bool false, .slice none 0 0, .bool false, .slice none 0 0, .bool false, .slice none 0 0, .bool false, .slice none 0 0, .bool false, .slice none 0 0, .bool false, .slice none 0 0, .bool false, .slice none 0 0, .bool false, .slice none 0 0, .bool false, .slice none 0 0, .bool false, .slice none 0 0, .bool false, .slice none 0 0, .bool false, .slice none 0 0] := Blk.ext (Blk.new_at (((w.alloc (.cells cp 32)).alloc (.cells ct 26)).alloc (.cells #[.bool false, .slice none 0 0, .bool false, .slice none 0 0, .bool false, .slice none 0 0, .bool false, .slice none 0 0, .bool false, .slice none 0 0, .bool false, .slice none 0 0, .bool false, .slice none 0 0, .bool false, .slice none 0 0, .bool false, .slice none 0 0, .bool false, .slice none 0 0, .bool false, .slice none 0 0, .bool false, .slice none 0 0] 32)) _ (by simp) _ _) (Ext.refl _)
  have hE : Ext w ((((w.alloc (.cells cp 32)).alloc (.cells ct 26)).alloc (.cells #[.bool false, .slice none 0 0, .bool false, .slice none 0 0, .bool false, .slice none 0 0, .bool false, .slice none 0 0, .bool false, .slice none 0 0, .bool false, .slice none 0 0, .bool false, .slice none 0 0, .bool false, .slice none 0 0, .bool false, .slice none 0 0, .bool false, .slice none 0 0, .bool false, .slice none 0 0, .bool false, .slice none 0 0] 32)).alloc (.cells #[.bool false, .slice none 0 0, .bool false, .slice none 0 0, .bool false, .slice none 0 0, .bool false, .slice none 0 0, .bool false, .slice none 0 0, .bool false, .slice none 0 0, .bool false, .slice none 0 0, .bool false, .slice none 0 0, .bool false, .slice none 0 0, .bool false, .slice none 0 0, .bool false, .slice none 0 0, .bool false, .slice none 0 0] 32)) := (((((Ext.refl _).alloc _).alloc _).alloc _).alloc _)
  have gR0 : w.heap.size ≤ w.heap.size + 1 + 1 := by omega
  have nbx0_R0 : w.heap.size ≠ w.heap.size + 1 + 1 := by omega
  have nbx1_R0 : w.heap.size + 1 ≠ w.heap.size + 1 + 1 := by omega
  have nR1_R0 : w.heap.size + 1 + 1 + 1 ≠ w.heap.size + 1 + 1 := by omega
  have gR1 : w.heap.size ≤ w.heap.size + 1 + 1 + 1 := by omega
  have nbx0_R1 : w.heap.size ≠ w.heap.size + 1 + 1 + 1 := by omega
  have nbx1_R1 : w.heap.size + 1 ≠ w.heap.size + 1 + 1 + 1 := by omega
  have nR0_R1 : w.heap.size + 1 + 1 ≠ w.heap.size + 1 + 1 + 1 := by omega
  generalize ((((w.alloc (.cells cp 32)).alloc (.cells ct 26)).alloc (.cells #[.bool false, .slice none 0 0, .bool false, .slice none 0 0, .bool false, .slice none 0 0, .bool false, .slice none 0 0, .bool false, .slice none 0 0, .bool false, .slice none 0 0, .bool false, .slice none 0 0, .bool false, .slice none 0 0, .bool false, .slice none 0 0, .bool false, .slice none 0 0, .bool false, .slice none 0 0, .bool false, .slice none 0 0] 32)).alloc (.cells #[.bool false, .slice none 0 0, .bool false, .slice none 0 0, .bool false, .slice none 0 0, .bool false, .slice none 0 0, .bool false, .slice none 0 0, .bool false, .slice none 0 0, .bool false, .slice none 0 0, .bool false, .slice none 0 0, .bool false, .slice none 0 0, .bool false, .slice none 0 0, .bool false, .slice none 0 0, .bool false, .slice none 0 0] 32)) = wa at *
  generalize w.heap.size + 1 + 1 + 1 = R1 at *
  generalize w.heap.size + 1 + 1 = R0 at *
  generalize w.heap.size + 1 = bx1 at *
  have E1 := Lib.hid (show Ext w wa from hE)
  have Fbx0 := Lib.hid hbx0
  have Fbx1 := Lib.hid hbx1
  have FR0 := Lib.hid hR0
  have FR1 := Lib.hid hR1
  clear hE hbx0 hbx1 hR0 hR1
  refine wp_region_held_drew (S := fun x => Ext wa x) (by kernel_rfl) (Ext.refl _).drew (fun _ => ?_)
  have E2 := Lib.hid (show Ext wa wa.drew from (Ext.refl _).drew)
  refine md_val (i := 0) (v := ?vm1) (listed' := #[true, false, false, false, false, false, false, false, false, false, false, false, false, false, false, false]) (by rfl) (by kernel_rfl) (by kernel_rfl) (by kernel_rfl) (by intro _ _ _ h; exact h) (by rfl) ?hm1 E2.out (by kernel_rfl) ?rm1
  case hm1 => (intro w hSw; (try dsimp only at hSw); go_simp <;> with_reducible rfl)
  (try simp only [Act.put, List.setIfInBounds_toArray, List.set_cons_zero, List.set_cons_succ])
  refine md_part (i := 1) (listed' := #[true, true, false, false, false, false, false, false, false, false, false, false, false, false, false, false]) (by rfl) (by kernel_rfl) (by kernel_rfl) (by kernel_rfl) _ _ (by rfl) w.heap.size 0 8 _ cp _ (by intro _ _ _ h; exact h) (by rfl) (by rfl) (fun x hx => (Fbx0.out).ext hx) Tryz.underlying27 (by rfl) (by kernel_rfl) (by rw [show (cp : Array Value).size = 24 from ZP]; omega) E2.out (by kernel_rfl) ?_
  (try simp only [Act.put, List.setIfInBounds_toArray, List.set_cons_zero, List.set_cons_succ])
  refine md_val (i := 2) (v := ?vm2) (listed' := #[true, true, true, false, false, false, false, false, false, false, false, false, false, false, false, false]) (by rfl) (by kernel_rfl) (by kernel_rfl) (by kernel_rfl) (by intro _ _ _ h; exact h) (by rfl) ?hm2 E2.out (by kernel_rfl) ?rm2
  case hm2 => (intro w hSw; (try dsimp only at hSw); go_simp <;> with_reducible rfl)
  (try simp only [Act.put, List.setIfInBounds_toArray, List.set_cons_zero, List.set_cons_succ])
  refine md_part (i := 3) (listed' := #[true, true, true, true, false, false, false, false, false, false, false, false, false, false, false, false]) (by rfl) (by kernel_rfl) (by kernel_rfl) (by kernel_rfl) _ _ (by rfl) w.heap.size 8 8 _ cp _ (by intro _ _ _ h; exact h) (by rfl) (by rfl) (fun x hx => (Fbx0.out).ext hx) Tryz.underlying27 (by rfl) (by kernel_rfl) (by rw [show (cp : Array Value).size = 24 from ZP]; omega) E2.out (by kernel_rfl) ?_
  (try simp only [Act.put, List.setIfInBounds_toArray, List.set_cons_zero, List.set_cons_succ])
  refine md_load (i := 4) (listed' := #[true, true, true, true, true, false, false, false, false, false, false, false, false, false, false, false]) (by rfl) (by kernel_rfl) (by kernel_rfl) (by kernel_rfl) _ _ (by rfl) bx1 _ ct _ (by intro _ _ _ h; exact h) (by rfl) (by rfl) (fun x hx => (Fbx1.out).ext hx) Tryz.underlying26 (by rfl) (by rw [show (ct : Array Value).size = 4 from ZS]; kernel_rfl) E2.out (by kernel_rfl) ?_
  (try simp only [Act.put, List.setIfInBounds_toArray, List.set_cons_zero, List.set_cons_succ])
  refine md_val (i := 6) (v := ?vm3) (listed' := #[true, true, true, true, true, false, true, false, false, false, false, false, false, false, false, false]) (by rfl) (by kernel_rfl) (by kernel_rfl) (by kernel_rfl) (by intro _ _ _ h; exact h) (by rfl) ?hm3 E2.out (by kernel_rfl) ?rm3
  case hm3 => (intro w hSw; (try dsimp only at hSw); go_simp <;> with_reducible rfl)
  (try simp only [Act.put, List.setIfInBounds_toArray, List.set_cons_zero, List.set_cons_succ])
  refine md_part (i := 7) (listed' := #[true, true, true, true, true, false, true, true, false, false, false, false, false, false, false, false]) (by rfl) (by kernel_rfl) (by kernel_rfl) (by kernel_rfl) _ _ (by rfl) w.heap.size 8 8 _ cp _ (by intro _ _ _ h; exact h) (by rfl) (by rfl) (fun x hx => (Fbx0.out).ext hx) Tryz.underlying27 (by rfl) (by kernel_rfl) (by rw [show (cp : Array Value).size = 24 from ZP]; omega) E2.out (by kernel_rfl) ?_
  (try simp only [Act.put, List.setIfInBounds_toArray, List.set_cons_zero, List.set_cons_succ])
  refine md_val (i := 8) (v := ?vm4) (listed' := #[true, true, true, true, true, false, true, true, true, false, false, false, false, false, false, false]) (by rfl) (by kernel_rfl) (by kernel_rfl) (by kernel_rfl) (by intro _ _ _ h; exact h) (by rfl) ?hm4 E2.out (by kernel_rfl) ?rm4
  case hm4 => (intro w hSw; (try dsimp only at hSw); go_simp <;> with_reducible rfl)
  (try simp only [Act.put, List.setIfInBounds_toArray, List.set_cons_zero, List.set_cons_succ])
  refine md_part (i := 9) (listed' := #[true, true, true, true, true, false, true, true, true, true, false, false, false, false, false, false]) (by rfl) (by kernel_rfl) (by kernel_rfl) (by kernel_rfl) _ _ (by rfl) w.heap.size 16 8 _ cp _ (by intro _ _ _ h; exact h) (by rfl) (by rfl) (fun x hx => (Fbx0.out).ext hx) Tryz.underlying27 (by rfl) (by kernel_rfl) (by rw [show (cp : Array Value).size = 24 from ZP]; omega) E2.out (by kernel_rfl) ?_
  (try simp only [Act.put, List.setIfInBounds_toArray, List.set_cons_zero, List.set_cons_succ])
  refine md_load (i := 10) (listed' := #[true, true, true, true, true, false, true, true, true, true, true, false, false, false, false, false]) (by rfl) (by kernel_rfl) (by kernel_rfl) (by kernel_rfl) _ _ (by rfl) bx1 _ ct _ (by intro _ _ _ h; exact h) (by rfl) (by rfl) (fun x hx => (Fbx1.out).ext hx) Tryz.underlying26 (by rfl) (by rw [show (ct : Array Value).size = 4 from ZS]; kernel_rfl) E2.out (by kernel_rfl) ?_
  (try simp only [Act.put, List.setIfInBounds_toArray, List.set_cons_zero, List.set_cons_succ])
  refine tuple2 (f := 2) 5 11 12 13 14 20 6 7 27 #[.bool false, .slice none 0 0, .bool false, .slice none 0 0, .bool false, .slice none 0 0, .bool false, .slice none 0 0] (fun v w => ∃ c, v = .agg c ∧ PtIs w c (lerpV A0 B0 S) (lerpV A1 B1 S)) (fun v w => ∃ c, v = .agg c ∧ PtIs w c (lerpV B0 C0 S) (lerpV B1 C1 S)) rfl rfl rfl rfl (by decide) (by decide) (by kernel_rfl) (fun _ hx => E2.out.trans hx) (fun _ _ _ h e => by obtain ⟨c, h1, h2⟩ := h; exact ⟨c, h1, h2.ext e⟩) (fun _ _ _ h e => by obtain ⟨c, h1, h2⟩ := h; exact ⟨c, h1, h2.ext e⟩) ?hm5c1 ?hm5c2 ?hm5c3 ?hm5c4 ?hm5e undef undef undef undef (by kernel_rfl) rfl
  case hm5c1 =>
    intro v1 v2 v3 v4 w1 K hx hSw hK
    (try simp only [Act.put, List.setIfInBounds_toArray, List.set_cons_zero, List.set_cons_succ])
    rw [if_pos (by rfl)]
    refine wp_call_op (by go_simp) (rbetween_any L _ _ _ _ _ _ _ _ _ ((FP.out.ext E1.out).ext hSw).p0 ((FP.out.ext E1.out).ext hSw).p1 ((FS.out.ext E1.out).ext hSw) h1 (by omega)) ?_
    rintro e w' ⟨c, rfl, hc, he⟩
    refine ⟨_, rfl, ?_⟩
    have hk := hK.out _ _ ⟨_, rfl, hc⟩ he
    (try simp only [Act.put, List.setIfInBounds_toArray, List.set_cons_zero, List.set_cons_succ])
    simp only [Act.put, List.setIfInBounds_toArray, List.set_cons_zero, List.set_cons_succ] at hk
    exact hk
  case hm5c2 =>
    intro v1 v2 v3 v4 w1 K hx hSw hK
    (try simp only [Act.put, List.setIfInBounds_toArray, List.set_cons_zero, List.set_cons_succ])
    rw [if_pos (by rfl)]
    refine wp_call_op (by go_simp) (rbetween_any L _ _ _ _ _ _ _ _ _ ((FP.out.ext E1.out).ext hSw).p1 ((FP.out.ext E1.out).ext hSw).p2 ((FS.out.ext E1.out).ext hSw) h1 (by omega)) ?_
    rintro e w' ⟨c, rfl, hc, he⟩
    refine ⟨_, rfl, ?_⟩
    have hk := hK.out _ _ ⟨_, rfl, hc⟩ he
    (try simp only [Act.put, List.setIfInBounds_toArray, List.set_cons_zero, List.set_cons_succ])
    simp only [Act.put, List.setIfInBounds_toArray, List.set_cons_zero, List.set_cons_succ] at hk
    exact hk
  case hm5c3 =>
    intro v1 v2 v3 v4 w1 K hx hSw hK
    (try simp only [Act.put, List.setIfInBounds_toArray, List.set_cons_zero, List.set_cons_succ])
    go_simp
    have hk := hK.out
    simp only [Act.put, List.setIfInBounds_toArray, List.set_cons_zero, List.set_cons_succ] at hk
    exact hk
  case hm5c4 =>
    intro v1 v2 v3 v4 w1 K hx hSw hK
    (try simp only [Act.put, List.setIfInBounds_toArray, List.set_cons_zero, List.set_cons_succ])
    go_simp
    have hk := hK.out
    simp only [Act.put, List.setIfInBounds_toArray, List.set_cons_zero, List.set_cons_succ] at hk
    exact hk
  case hm5e =>
    intro v1 v2 Xm51 Xm52 wqm5 hx hSw xp1 xp2 xb1 xb2 xz1 xz2 n12
    obtain ⟨_, rfl, e0, e1, rfl, ie0, ie1⟩ := xp1
    obtain ⟨_, rfl, f0, f1, rfl, if0, if1⟩ := xp2
    (try simp only [Act.put, List.setIfInBounds_toArray, List.set_cons_zero, List.set_cons_succ])
    have hy : Ext wa wqm5 := hSw
    obtain ⟨xk2, xex, xr1, xr2, xe1, xfm⟩ := stored_two (zs := #[.bool false, .slice none 0 0, .bool false, .slice none 0 0, .bool false, .slice none 0 0, .bool false, .slice none 0 0]) (c1 := #[.bool e0.n, .slice e0.p e0.l e0.c, .bool e0.m, .slice e0.p2 e0.l2 e0.c2, .bool e1.n, .slice e1.p e1.l e1.c, .bool e1.m, .slice e1.p2 e1.l2 e1.c2]) (c2 := #[.bool f0.n, .slice f0.p f0.l f0.c, .bool f0.m, .slice f0.p2 f0.l2 f0.c2, .bool f1.n, .slice f1.p f1.l f1.c, .bool f1.m, .slice f1.p2 f1.l2 f1.c2]) (noU_of _ (by simp)) hy xb1 xb2 xz1 xz2 n12 rfl rfl
    refine md_store (i := 14) (listed' := #[true, true, true, true, true, true, true, true, true, true, true, true, true, true, true, false]) (by rfl) (by kernel_rfl) (by rfl) _ _ _ (by rfl) Xm51 _ #[.bool false, .slice none 0 0, .bool false, .slice none 0 0, .bool false, .slice none 0 0, .bool false, .slice none 0 0] #[.bool e0.n, .slice e0.p e0.l e0.c, .bool e0.m, .slice e0.p2 e0.l2 e0.c2, .bool e1.n, .slice e1.p e1.l e1.c, .bool e1.m, .slice e1.p2 e1.l2 e1.c2] (by rfl) (by rfl) xb1 rfl (by kernel_rfl) (all_oneCell_toArray (by simp [Value.oneCell'])) xe1 (by kernel_rfl) ?_
    (try simp only [Act.put, List.setIfInBounds_toArray, List.set_cons_zero, List.set_cons_succ])
    refine md_store (i := 15) (listed' := #[true, true, true, true, true, true, true, true, true, true, true, true, true, true, true, true]) (by rfl) (by kernel_rfl) (by rfl) _ _ _ (by rfl) Xm52 _ #[.bool false, .slice none 0 0, .bool false, .slice none 0 0, .bool false, .slice none 0 0, .bool false, .slice none 0 0] #[.bool f0.n, .slice f0.p f0.l f0.c, .bool f0.m, .slice f0.p2 f0.l2 f0.c2, .bool f1.n, .slice f1.p f1.l f1.c, .bool f1.m, .slice f1.p2 f1.l2 f1.c2] (by rfl) (by rfl) xk2 rfl (by kernel_rfl) (all_oneCell_toArray (by simp [Value.oneCell'])) xex (by kernel_rfl) ?_
    (try simp only [Act.put, List.setIfInBounds_toArray, List.set_cons_zero, List.set_cons_succ])
    refine wpAnyH_done (by kernel_rfl) ?_ _
    have je0 := xfm _ _ ie0
    have je1 := xfm _ _ ie1
    have nbA_R0 : Xm51 ≠ R0 := by have h9 := Blk.lt FR0.out; have h8 : wa.heap.size ≤ Xm51 := xz1; omega
    have nbA_R1 : Xm51 ≠ R1 := by have h9 := Blk.lt FR1.out; have h8 : wa.heap.size ≤ Xm51 := xz1; omega
    have jf0 := xfm _ _ if0
    have jf1 := xfm _ _ if1
    have nbB_R0 : Xm52 ≠ R0 := by have h9 := Blk.lt FR0.out; have h8 : wa.heap.size ≤ Xm52 := xz2; omega
    have nbB_R1 : Xm52 ≠ R1 := by have h9 := Blk.lt FR1.out; have h8 : wa.heap.size ≤ Xm52 := xz2; omega
    clear xb1 xb2 xfm hx hy hSw xk2 xe1 ie0 ie1 if0 if1
    generalize ((wqm5.setCells Xm51 0 (#[.bool e0.n, .slice e0.p e0.l e0.c, .bool e0.m, .slice e0.p2 e0.l2 e0.c2, .bool e1.n, .slice e1.p e1.l e1.c, .bool e1.m, .slice e1.p2 e1.l2 e1.c2] : Array Value).toList).setCells Xm52 0 (#[.bool f0.n, .slice f0.p f0.l f0.c, .bool f0.m, .slice f0.p2 f0.l2 f0.c2, .bool f1.n, .slice f1.p f1.l f1.c, .bool f1.m, .slice f1.p2 f1.l2 f1.c2] : Array Value).toList) = wsm5 at *
    have E2 := Lib.hid (show Ext wa wsm5 from xex)
    have FbA := Lib.hid xr1
    have Fe0 := Lib.hid je0
    have Fe1 := Lib.hid je1
    have FbB := Lib.hid xr2
    have Ff0 := Lib.hid jf0
    have Ff1 := Lib.hid jf1
    clear xex xr1 je0 je1 xr2 jf0 jf1
    go_upto_region 2 with fail
    refine wp_region_lit ?_
    refine mv_load (by rfl) _ _ (by rfl) Xm51 _ #[.bool e0.n, .slice e0.p e0.l e0.c, .bool e0.m, .slice e0.p2 e0.l2 e0.c2, .bool e1.n, .slice e1.p e1.l e1.c, .bool e1.m, .slice e1.p2 e1.l2 e1.c2] _ (by rfl) FbA.out Tryz.underlying27 (by rfl) (by rw [show (#[.bool e0.n, .slice e0.p e0.l e0.c, .bool e0.m, .slice e0.p2 e0.l2 e0.c2, .bool e1.n, .slice e1.p e1.l e1.c, .bool e1.m, .slice e1.p2 e1.l2 e1.c2] : Array Value).size = 8 from rfl]; kernel_rfl) ?_
    (try simp only [Act.put, List.setIfInBounds_toArray, List.set_cons_zero, List.set_cons_succ])
    refine mv_load (by rfl) _ _ (by rfl) Xm52 _ #[.bool f0.n, .slice f0.p f0.l f0.c, .bool f0.m, .slice f0.p2 f0.l2 f0.c2, .bool f1.n, .slice f1.p f1.l f1.c, .bool f1.m, .slice f1.p2 f1.l2 f1.c2] _ (by rfl) FbB.out Tryz.underlying27 (by rfl) (by rw [show (#[.bool f0.n, .slice f0.p f0.l f0.c, .bool f0.m, .slice f0.p2 f0.l2 f0.c2, .bool f1.n, .slice f1.p f1.l f1.c, .bool f1.m, .slice f1.p2 f1.l2 f1.c2] : Array Value).size = 8 from rfl]; kernel_rfl) ?_
    (try simp only [Act.put, List.setIfInBounds_toArray, List.set_cons_zero, List.set_cons_succ])
    refine mv_load (by rfl) _ _ (by rfl) bx1 _ ct _ (by rfl) (Fbx1.out.ext E2.out) Tryz.underlying26 (by rfl) (by rw [show (ct : Array Value).size = 4 from ZS]; kernel_rfl) ?_
    (try simp only [Act.put, List.setIfInBounds_toArray, List.set_cons_zero, List.set_cons_succ])
    refine mv_call (by rfl) (by go_simp) (rbetween_any (4 * L + 2) _ _ _ _ _ _ _ _ _ (⟨e0, e1, rfl, Fe0.out.isIn l00, Fe1.out.isIn l01⟩ : PtIn (4 * L + 2) _ _ _ _) (⟨f0, f1, rfl, Ff0.out.isIn l10, Ff1.out.isIn l11⟩ : PtIn (4 * L + 2) _ _ _ _) ((FS.out.ext (E1.out.trans E2.out)).mono (by omega)) (by omega) (by omega)) ?_
    rintro e w3 ⟨_, rfl, ⟨g0, g1, rfl, hc, hd⟩, hx⟩
    have E3 := Lib.hid (show Ext wsm5 w3 from hx)
    have Fg0 := Lib.hid hc
    have Fg1 := Lib.hid hd
    clear hc hd
    clear hx
    refine ⟨_, rfl, ?_⟩
    (try simp only [Act.put, List.setIfInBounds_toArray, List.set_cons_zero, List.set_cons_succ])
    refine mv_val (v := .pointer (some ⟨w3.heap.size, 0, none⟩)) (w' := w3.alloc (.cells #[.bool false, .slice none 0 0, .bool false, .slice none 0 0, .bool false, .slice none 0 0, .bool false, .slice none 0 0] 27)) (by rfl) (by go_simp) ?_
    (try simp only [Act.put, List.setIfInBounds_toArray, List.set_cons_zero, List.set_cons_succ])
    refine mv_store (by rfl) _ _ _ (by rfl) w3.heap.size 27 #[.bool false, .slice none 0 0, .bool false, .slice none 0 0, .bool false, .slice none 0 0, .bool false, .slice none 0 0] #[.bool g0.n, .slice g0.p g0.l g0.c, .bool g0.m, .slice g0.p2 g0.l2 g0.c2, .bool g1.n, .slice g1.p g1.l g1.c, .bool g1.m, .slice g1.p2 g1.l2 g1.c2] (by rfl) (by rfl) (Blk.new w3 _ _) (by rw [show (#[.bool g0.n, .slice g0.p g0.l g0.c, .bool g0.m, .slice g0.p2 g0.l2 g0.c2, .bool g1.n, .slice g1.p g1.l g1.c, .bool g1.m, .slice g1.p2 g1.l2 g1.c2] : Array Value).size = 8 from rfl]; rfl) (by rw [show (#[.bool g0.n, .slice g0.p g0.l g0.c, .bool g0.m, .slice g0.p2 g0.l2 g0.c2, .bool g1.n, .slice g1.p g1.l g1.c, .bool g1.m, .slice g1.p2 g1.l2 g1.c2] : Array Value).size = 8 from rfl]; kernel_rfl) (all_oneCell_toArray (by simp [Value.oneCell'])) ?_
    (try simp only [Act.put, List.setIfInBounds_toArray, List.set_cons_zero, List.set_cons_succ])
    have nV8_R0 : w3.heap.size ≠ R0 := Nat.ne_of_gt (Blk.lt (FR0.out.ext (E2.out.trans E3.out)))
    have nV8_R1 : w3.heap.size ≠ R1 := Nat.ne_of_gt (Blk.lt (FR1.out.ext (E2.out.trans E3.out)))
    obtain ⟨xq1, xq2⟩ := new_var w3 27 #[.bool false, .slice none 0 0, .bool false, .slice none 0 0, .bool false, .slice none 0 0, .bool false, .slice none 0 0] #[.bool g0.n, .slice g0.p g0.l g0.c, .bool g0.m, .slice g0.p2 g0.l2 g0.c2, .bool g1.n, .slice g1.p g1.l g1.c, .bool g1.m, .slice g1.p2 g1.l2 g1.c2] (by rw [show (#[.bool g0.n, .slice g0.p g0.l g0.c, .bool g0.m, .slice g0.p2 g0.l2 g0.c2, .bool g1.n, .slice g1.p g1.l g1.c, .bool g1.m, .slice g1.p2 g1.l2 g1.c2] : Array Value).size = 8 from rfl]; rfl)
    generalize (w3.alloc (.cells #[.bool false, .slice none 0 0, .bool false, .slice none 0 0, .bool false, .slice none 0 0, .bool false, .slice none 0 0] 27)).setCells w3.heap.size 0 (#[.bool g0.n, .slice g0.p g0.l g0.c, .bool g0.m, .slice g0.p2 g0.l2 g0.c2, .bool g1.n, .slice g1.p g1.l g1.c, .bool g1.m, .slice g1.p2 g1.l2 g1.c2] : Array Value).toList = w4 at *
    generalize w3.heap.size = X4 at *
    have E4 := Lib.hid (show Ext w3 w4 from xq1)
    have FV8 := Lib.hid xq2
    clear xq1 xq2
    go_upto_region 3 with fail
    refine wp_region_held_drew (S := fun x => Own2 R0 R1 w4 x) (by kernel_rfl) (Own2.of_ext (Ext.refl _).drew) (fun _ => ?_)
    have E5 := Lib.hid (show Ext w4 w4.drew from (Ext.refl _).drew)
    refine md_val (i := 0) (v := ?vm6) (listed' := #[true, false, false, false, false, false, false, false, false, false, false, false, false, false]) (by rfl) (by kernel_rfl) (by kernel_rfl) (by kernel_rfl) (by intro _ _ _ h; exact h) (by rfl) ?hm6 (Own2.of_ext E5.out) (by kernel_rfl) ?rm6
    case hm6 => (intro w hSw; (try dsimp only at hSw); go_simp <;> with_reducible rfl)
    (try simp only [Act.put, List.setIfInBounds_toArray, List.set_cons_zero, List.set_cons_succ])
    refine md_part (i := 1) (listed' := #[true, true, false, false, false, false, false, false, false, false, false, false, false, false]) (by rfl) (by kernel_rfl) (by kernel_rfl) (by kernel_rfl) _ _ (by rfl) w.heap.size 0 8 _ cp _ (by intro _ _ _ h; exact h) (by rfl) (by rfl) (fun x hx => ((Fbx0.out.ext (E2.out.trans (E3.out.trans E4.out)))).own2 hx nbx0_R0 nbx0_R1) Tryz.underlying27 (by rfl) (by kernel_rfl) (by rw [show (cp : Array Value).size = 24 from ZP]; omega) (Own2.of_ext E5.out) (by kernel_rfl) ?_
    (try simp only [Act.put, List.setIfInBounds_toArray, List.set_cons_zero, List.set_cons_succ])
    refine md_load (i := 3) (listed' := #[true, true, false, true, false, false, false, false, false, false, false, false, false, false]) (by rfl) (by kernel_rfl) (by kernel_rfl) (by kernel_rfl) _ _ (by rfl) Xm51 _ #[.bool e0.n, .slice e0.p e0.l e0.c, .bool e0.m, .slice e0.p2 e0.l2 e0.c2, .bool e1.n, .slice e1.p e1.l e1.c, .bool e1.m, .slice e1.p2 e1.l2 e1.c2] _ (by intro _ _ _ h; exact h) (by rfl) (by rfl) (fun x hx => ((FbA.out.ext (E3.out.trans E4.out))).own2 hx nbA_R0 nbA_R1) Tryz.underlying27 (by rfl) (by rw [show (#[.bool e0.n, .slice e0.p e0.l e0.c, .bool e0.m, .slice e0.p2 e0.l2 e0.c2, .bool e1.n, .slice e1.p e1.l e1.c, .bool e1.m, .slice e1.p2 e1.l2 e1.c2] : Array Value).size = 8 from rfl]; kernel_rfl) (Own2.of_ext E5.out) (by kernel_rfl) ?_
    (try simp only [Act.put, List.setIfInBounds_toArray, List.set_cons_zero, List.set_cons_succ])
    refine md_load (i := 4) (listed' := #[true, true, false, true, true, false, false, false, false, false, false, false, false, false]) (by rfl) (by kernel_rfl) (by kernel_rfl) (by kernel_rfl) _ _ (by rfl) X4 _ #[.bool g0.n, .slice g0.p g0.l g0.c, .bool g0.m, .slice g0.p2 g0.l2 g0.c2, .bool g1.n, .slice g1.p g1.l g1.c, .bool g1.m, .slice g1.p2 g1.l2 g1.c2] _ (by intro _ _ _ h; exact h) (by rfl) (by rfl) (fun x hx => (FV8.out).own2 hx nV8_R0 nV8_R1) Tryz.underlying27 (by rfl) (by rw [show (#[.bool g0.n, .slice g0.p g0.l g0.c, .bool g0.m, .slice g0.p2 g0.l2 g0.c2, .bool g1.n, .slice g1.p g1.l g1.c, .bool g1.m, .slice g1.p2 g1.l2 g1.c2] : Array Value).size = 8 from rfl]; kernel_rfl) (Own2.of_ext E5.out) (by kernel_rfl) ?_
    (try simp only [Act.put, List.setIfInBounds_toArray, List.set_cons_zero, List.set_cons_succ])
    refine md_load (i := 6) (listed' := #[true, true, false, true, true, false, true, false, false, false, false, false, false, false]) (by rfl) (by kernel_rfl) (by kernel_rfl) (by kernel_rfl) _ _ (by rfl) X4 _ #[.bool g0.n, .slice g0.p g0.l g0.c, .bool g0.m, .slice g0.p2 g0.l2 g0.c2, .bool g1.n, .slice g1.p g1.l g1.c, .bool g1.m, .slice g1.p2 g1.l2 g1.c2] _ (by intro _ _ _ h; exact h) (by rfl) (by rfl) (fun x hx => (FV8.out).own2 hx nV8_R0 nV8_R1) Tryz.underlying27 (by rfl) (by rw [show (#[.bool g0.n, .slice g0.p g0.l g0.c, .bool g0.m, .slice g0.p2 g0.l2 g0.c2, .bool g1.n, .slice g1.p g1.l g1.c, .bool g1.m, .slice g1.p2 g1.l2 g1.c2] : Array Value).size = 8 from rfl]; kernel_rfl) (Own2.of_ext E5.out) (by kernel_rfl) ?_
    (try simp only [Act.put, List.setIfInBounds_toArray, List.set_cons_zero, List.set_cons_succ])
    refine md_load (i := 7) (listed' := #[true, true, false, true, true, false, true, true, false, false, false, false, false, false]) (by rfl) (by kernel_rfl) (by kernel_rfl) (by kernel_rfl) _ _ (by rfl) Xm52 _ #[.bool f0.n, .slice f0.p f0.l f0.c, .bool f0.m, .slice f0.p2 f0.l2 f0.c2, .bool f1.n, .slice f1.p f1.l f1.c, .bool f1.m, .slice f1.p2 f1.l2 f1.c2] _ (by intro _ _ _ h; exact h) (by rfl) (by rfl) (fun x hx => ((FbB.out.ext (E3.out.trans E4.out))).own2 hx nbB_R0 nbB_R1) Tryz.underlying27 (by rfl) (by rw [show (#[.bool f0.n, .slice f0.p f0.l f0.c, .bool f0.m, .slice f0.p2 f0.l2 f0.c2, .bool f1.n, .slice f1.p f1.l f1.c, .bool f1.m, .slice f1.p2 f1.l2 f1.c2] : Array Value).size = 8 from rfl]; kernel_rfl) (Own2.of_ext E5.out) (by kernel_rfl) ?_
    (try simp only [Act.put, List.setIfInBounds_toArray, List.set_cons_zero, List.set_cons_succ])
    refine md_val (i := 8) (v := ?vm7) (listed' := #[true, true, false, true, true, false, true, true, true, false, false, false, false, false]) (by rfl) (by kernel_rfl) (by kernel_rfl) (by kernel_rfl) (by intro _ _ _ h; exact h) (by rfl) ?hm7 (Own2.of_ext E5.out) (by kernel_rfl) ?rm7
    case hm7 => (intro w hSw; (try dsimp only at hSw); go_simp <;> with_reducible rfl)
    (try simp only [Act.put, List.setIfInBounds_toArray, List.set_cons_zero, List.set_cons_succ])
    refine md_part (i := 9) (listed' := #[true, true, false, true, true, false, true, true, true, true, false, false, false, false]) (by rfl) (by kernel_rfl) (by kernel_rfl) (by kernel_rfl) _ _ (by rfl) w.heap.size 16 8 _ cp _ (by intro _ _ _ h; exact h) (by rfl) (by rfl) (fun x hx => ((Fbx0.out.ext (E2.out.trans (E3.out.trans E4.out)))).own2 hx nbx0_R0 nbx0_R1) Tryz.underlying27 (by rfl) (by kernel_rfl) (by rw [show (cp : Array Value).size = 24 from ZP]; omega) (Own2.of_ext E5.out) (by kernel_rfl) ?_
    (try simp only [Act.put, List.setIfInBounds_toArray, List.set_cons_zero, List.set_cons_succ])
    refine md_call (i := 2) (listed' := #[true, true, true, true, true, false, true, true, true, true, false, false, false, false]) (by rfl) (by kernel_rfl) (by rfl) (by go_simp) (rexact_any L _ _ _ _ (FP.out.ext (E1.out.trans (E2.out.trans (E3.out.trans (E4.out.trans E5.out))))).p0 (by omega)) (by kernel_rfl) ?_
    rintro e w6 ⟨_, rfl, ⟨u0, u1, rfl, hc, hd⟩, hx⟩
    have E6 := Lib.hid (show Ext w4.drew w6 from hx)
    have Fu0 := Lib.hid hc
    have Fu1 := Lib.hid hd
    clear hc hd
    clear hx
    refine ⟨_, rfl, (Own2.of_ext (E5.out.trans E6.out)), ?_⟩
    (try simp only [Act.put, List.setIfInBounds_toArray, List.set_cons_zero, List.set_cons_succ])
    refine md_val (i := 5) (v := ?vm8) (listed' := #[true, true, true, true, true, true, true, true, true, true, false, false, false, false]) (by rfl) (by kernel_rfl) (by kernel_rfl) (by kernel_rfl) (by intro _ _ _ h; exact h) (by rfl) ?hm8 (Own2.of_ext (E5.out.trans E6.out)) (by kernel_rfl) ?rm8
    case hm8 => (intro w hSw; (try dsimp only at hSw); go_simp <;> with_reducible rfl)
    (try simp only [Act.put, List.setIfInBounds_toArray, List.set_cons_zero, List.set_cons_succ])
    refine md_call (i := 10) (listed' := #[true, true, true, true, true, true, true, true, true, true, true, false, false, false]) (by rfl) (by kernel_rfl) (by rfl) (by go_simp) (rexact_any L _ _ _ _ (FP.out.ext (E1.out.trans (E2.out.trans (E3.out.trans (E4.out.trans (E5.out.trans E6.out)))))).p2 (by omega)) (by kernel_rfl) ?_
    rintro e w7 ⟨_, rfl, ⟨v0, v1, rfl, hc, hd⟩, hx⟩
    have E7 := Lib.hid (show Ext w6 w7 from hx)
    have Fv0 := Lib.hid hc
    have Fv1 := Lib.hid hd
    clear hc hd
    clear hx
    refine ⟨_, rfl, (Own2.of_ext (E5.out.trans (E6.out.trans E7.out))), ?_⟩
    (try simp only [Act.put, List.setIfInBounds_toArray, List.set_cons_zero, List.set_cons_succ])
    refine md_val (i := 11) (v := ?vm9) (listed' := #[true, true, true, true, true, true, true, true, true, true, true, true, false, false]) (by rfl) (by kernel_rfl) (by kernel_rfl) (by kernel_rfl) (by intro _ _ _ h; exact h) (by rfl) ?hm9 (Own2.of_ext (E5.out.trans (E6.out.trans E7.out))) (by kernel_rfl) ?rm9
    case hm9 => (intro w hSw; (try dsimp only at hSw); go_simp <;> with_reducible rfl)
    (try simp only [Act.put, List.setIfInBounds_toArray, List.set_cons_zero, List.set_cons_succ])
    have o1 := Own.setCells w7 R0 #[.bool u0.n, .slice u0.p u0.l u0.c, .bool u0.m, .slice u0.p2 u0.l2 u0.c2, .bool u1.n, .slice u1.p u1.l u1.c, .bool u1.m, .slice u1.p2 u1.l2 u1.c2, .bool e0.n, .slice e0.p e0.l e0.c, .bool e0.m, .slice e0.p2 e0.l2 e0.c2, .bool e1.n, .slice e1.p e1.l e1.c, .bool e1.m, .slice e1.p2 e1.l2 e1.c2, .bool g0.n, .slice g0.p g0.l g0.c, .bool g0.m, .slice g0.p2 g0.l2 g0.c2, .bool g1.n, .slice g1.p g1.l g1.c, .bool g1.m, .slice g1.p2 g1.l2 g1.c2]
    have kb1 := (FR0.out.ext (E2.out.trans (E3.out.trans (E4.out.trans (E5.out.trans (E6.out.trans E7.out))))))
    have hs1 : Own2 R0 R1 w4 (w7.setCells R0 0 (#[.bool u0.n, .slice u0.p u0.l u0.c, .bool u0.m, .slice u0.p2 u0.l2 u0.c2, .bool u1.n, .slice u1.p u1.l u1.c, .bool u1.m, .slice u1.p2 u1.l2 u1.c2, .bool e0.n, .slice e0.p e0.l e0.c, .bool e0.m, .slice e0.p2 e0.l2 e0.c2, .bool e1.n, .slice e1.p e1.l e1.c, .bool e1.m, .slice e1.p2 e1.l2 e1.c2, .bool g0.n, .slice g0.p g0.l g0.c, .bool g0.m, .slice g0.p2 g0.l2 g0.c2, .bool g1.n, .slice g1.p g1.l g1.c, .bool g1.m, .slice g1.p2 g1.l2 g1.c2] : Array Value).toList) := (Own2.one (Own.then_ext' (E5.out.trans (E6.out.trans E7.out)) o1))
    refine md_store (i := 12) (listed' := #[true, true, true, true, true, true, true, true, true, true, true, true, true, false]) (by rfl) (by kernel_rfl) (by rfl) _ _ _ (by rfl) R0 _ #[.bool false, .slice none 0 0, .bool false, .slice none 0 0, .bool false, .slice none 0 0, .bool false, .slice none 0 0, .bool false, .slice none 0 0, .bool false, .slice none 0 0, .bool false, .slice none 0 0, .bool false, .slice none 0 0, .bool false, .slice none 0 0, .bool false, .slice none 0 0, .bool false, .slice none 0 0, .bool false, .slice none 0 0] #[.bool u0.n, .slice u0.p u0.l u0.c, .bool u0.m, .slice u0.p2 u0.l2 u0.c2, .bool u1.n, .slice u1.p u1.l u1.c, .bool u1.m, .slice u1.p2 u1.l2 u1.c2, .bool e0.n, .slice e0.p e0.l e0.c, .bool e0.m, .slice e0.p2 e0.l2 e0.c2, .bool e1.n, .slice e1.p e1.l e1.c, .bool e1.m, .slice e1.p2 e1.l2 e1.c2, .bool g0.n, .slice g0.p g0.l g0.c, .bool g0.m, .slice g0.p2 g0.l2 g0.c2, .bool g1.n, .slice g1.p g1.l g1.c, .bool g1.m, .slice g1.p2 g1.l2 g1.c2] (by rfl) (by rfl) kb1 (by rw [show (#[.bool u0.n, .slice u0.p u0.l u0.c, .bool u0.m, .slice u0.p2 u0.l2 u0.c2, .bool u1.n, .slice u1.p u1.l u1.c, .bool u1.m, .slice u1.p2 u1.l2 u1.c2, .bool e0.n, .slice e0.p e0.l e0.c, .bool e0.m, .slice e0.p2 e0.l2 e0.c2, .bool e1.n, .slice e1.p e1.l e1.c, .bool e1.m, .slice e1.p2 e1.l2 e1.c2, .bool g0.n, .slice g0.p g0.l g0.c, .bool g0.m, .slice g0.p2 g0.l2 g0.c2, .bool g1.n, .slice g1.p g1.l g1.c, .bool g1.m, .slice g1.p2 g1.l2 g1.c2] : Array Value).size = 24 from rfl]; rfl) (by rw [show (#[.bool u0.n, .slice u0.p u0.l u0.c, .bool u0.m, .slice u0.p2 u0.l2 u0.c2, .bool u1.n, .slice u1.p u1.l u1.c, .bool u1.m, .slice u1.p2 u1.l2 u1.c2, .bool e0.n, .slice e0.p e0.l e0.c, .bool e0.m, .slice e0.p2 e0.l2 e0.c2, .bool e1.n, .slice e1.p e1.l e1.c, .bool e1.m, .slice e1.p2 e1.l2 e1.c2, .bool g0.n, .slice g0.p g0.l g0.c, .bool g0.m, .slice g0.p2 g0.l2 g0.c2, .bool g1.n, .slice g1.p g1.l g1.c, .bool g1.m, .slice g1.p2 g1.l2 g1.c2] : Array Value).size = 24 from rfl]; kernel_rfl) (all_oneCell_toArray (by simp [Value.oneCell'])) hs1 (by kernel_rfl) ?_
    (try simp only [Act.put, List.setIfInBounds_toArray, List.set_cons_zero, List.set_cons_succ])
    have kc1 := kb1.setCells #[.bool u0.n, .slice u0.p u0.l u0.c, .bool u0.m, .slice u0.p2 u0.l2 u0.c2, .bool u1.n, .slice u1.p u1.l u1.c, .bool u1.m, .slice u1.p2 u1.l2 u1.c2, .bool e0.n, .slice e0.p e0.l e0.c, .bool e0.m, .slice e0.p2 e0.l2 e0.c2, .bool e1.n, .slice e1.p e1.l e1.c, .bool e1.m, .slice e1.p2 e1.l2 e1.c2, .bool g0.n, .slice g0.p g0.l g0.c, .bool g0.m, .slice g0.p2 g0.l2 g0.c2, .bool g1.n, .slice g1.p g1.l g1.c, .bool g1.m, .slice g1.p2 g1.l2 g1.c2] (by rw [show (#[.bool u0.n, .slice u0.p u0.l u0.c, .bool u0.m, .slice u0.p2 u0.l2 u0.c2, .bool u1.n, .slice u1.p u1.l u1.c, .bool u1.m, .slice u1.p2 u1.l2 u1.c2, .bool e0.n, .slice e0.p e0.l e0.c, .bool e0.m, .slice e0.p2 e0.l2 e0.c2, .bool e1.n, .slice e1.p e1.l e1.c, .bool e1.m, .slice e1.p2 e1.l2 e1.c2, .bool g0.n, .slice g0.p g0.l g0.c, .bool g0.m, .slice g0.p2 g0.l2 g0.c2, .bool g1.n, .slice g1.p g1.l g1.c, .bool g1.m, .slice g1.p2 g1.l2 g1.c2] : Array Value).size = 24 from rfl]; rfl)
    have o2 := Own.setCells (w7.setCells R0 0 (#[.bool u0.n, .slice u0.p u0.l u0.c, .bool u0.m, .slice u0.p2 u0.l2 u0.c2, .bool u1.n, .slice u1.p u1.l u1.c, .bool u1.m, .slice u1.p2 u1.l2 u1.c2, .bool e0.n, .slice e0.p e0.l e0.c, .bool e0.m, .slice e0.p2 e0.l2 e0.c2, .bool e1.n, .slice e1.p e1.l e1.c, .bool e1.m, .slice e1.p2 e1.l2 e1.c2, .bool g0.n, .slice g0.p g0.l g0.c, .bool g0.m, .slice g0.p2 g0.l2 g0.c2, .bool g1.n, .slice g1.p g1.l g1.c, .bool g1.m, .slice g1.p2 g1.l2 g1.c2] : Array Value).toList) R1 #[.bool g0.n, .slice g0.p g0.l g0.c, .bool g0.m, .slice g0.p2 g0.l2 g0.c2, .bool g1.n, .slice g1.p g1.l g1.c, .bool g1.m, .slice g1.p2 g1.l2 g1.c2, .bool f0.n, .slice f0.p f0.l f0.c, .bool f0.m, .slice f0.p2 f0.l2 f0.c2, .bool f1.n, .slice f1.p f1.l f1.c, .bool f1.m, .slice f1.p2 f1.l2 f1.c2, .bool v0.n, .slice v0.p v0.l v0.c, .bool v0.m, .slice v0.p2 v0.l2 v0.c2, .bool v1.n, .slice v1.p v1.l v1.c, .bool v1.m, .slice v1.p2 v1.l2 v1.c2]
    have kb2 := ((FR1.out.ext (E2.out.trans (E3.out.trans (E4.out.trans (E5.out.trans (E6.out.trans E7.out))))))).own o1 nR1_R0
    have hs2 : Own2 R0 R1 w4 ((w7.setCells R0 0 (#[.bool u0.n, .slice u0.p u0.l u0.c, .bool u0.m, .slice u0.p2 u0.l2 u0.c2, .bool u1.n, .slice u1.p u1.l u1.c, .bool u1.m, .slice u1.p2 u1.l2 u1.c2, .bool e0.n, .slice e0.p e0.l e0.c, .bool e0.m, .slice e0.p2 e0.l2 e0.c2, .bool e1.n, .slice e1.p e1.l e1.c, .bool e1.m, .slice e1.p2 e1.l2 e1.c2, .bool g0.n, .slice g0.p g0.l g0.c, .bool g0.m, .slice g0.p2 g0.l2 g0.c2, .bool g1.n, .slice g1.p g1.l g1.c, .bool g1.m, .slice g1.p2 g1.l2 g1.c2] : Array Value).toList).setCells R1 0 (#[.bool g0.n, .slice g0.p g0.l g0.c, .bool g0.m, .slice g0.p2 g0.l2 g0.c2, .bool g1.n, .slice g1.p g1.l g1.c, .bool g1.m, .slice g1.p2 g1.l2 g1.c2, .bool f0.n, .slice f0.p f0.l f0.c, .bool f0.m, .slice f0.p2 f0.l2 f0.c2, .bool f1.n, .slice f1.p f1.l f1.c, .bool f1.m, .slice f1.p2 f1.l2 f1.c2, .bool v0.n, .slice v0.p v0.l v0.c, .bool v0.m, .slice v0.p2 v0.l2 v0.c2, .bool v1.n, .slice v1.p v1.l v1.c, .bool v1.m, .slice v1.p2 v1.l2 v1.c2] : Array Value).toList) := ⟨_, Own.then_ext' (E5.out.trans (E6.out.trans E7.out)) o1, o2⟩
    refine md_store (i := 13) (listed' := #[true, true, true, true, true, true, true, true, true, true, true, true, true, true]) (by rfl) (by kernel_rfl) (by rfl) _ _ _ (by rfl) R1 _ #[.bool false, .slice none 0 0, .bool false, .slice none 0 0, .bool false, .slice none 0 0, .bool false, .slice none 0 0, .bool false, .slice none 0 0, .bool false, .slice none 0 0, .bool false, .slice none 0 0, .bool false, .slice none 0 0, .bool false, .slice none 0 0, .bool false, .slice none 0 0, .bool false, .slice none 0 0, .bool false, .slice none 0 0] #[.bool g0.n, .slice g0.p g0.l g0.c, .bool g0.m, .slice g0.p2 g0.l2 g0.c2, .bool g1.n, .slice g1.p g1.l g1.c, .bool g1.m, .slice g1.p2 g1.l2 g1.c2, .bool f0.n, .slice f0.p f0.l f0.c, .bool f0.m, .slice f0.p2 f0.l2 f0.c2, .bool f1.n, .slice f1.p f1.l f1.c, .bool f1.m, .slice f1.p2 f1.l2 f1.c2, .bool v0.n, .slice v0.p v0.l v0.c, .bool v0.m, .slice v0.p2 v0.l2 v0.c2, .bool v1.n, .slice v1.p v1.l v1.c, .bool v1.m, .slice v1.p2 v1.l2 v1.c2] (by rfl) (by rfl) kb2 (by rw [show (#[.bool g0.n, .slice g0.p g0.l g0.c, .bool g0.m, .slice g0.p2 g0.l2 g0.c2, .bool g1.n, .slice g1.p g1.l g1.c, .bool g1.m, .slice g1.p2 g1.l2 g1.c2, .bool f0.n, .slice f0.p f0.l f0.c, .bool f0.m, .slice f0.p2 f0.l2 f0.c2, .bool f1.n, .slice f1.p f1.l f1.c, .bool f1.m, .slice f1.p2 f1.l2 f1.c2, .bool v0.n, .slice v0.p v0.l v0.c, .bool v0.m, .slice v0.p2 v0.l2 v0.c2, .bool v1.n, .slice v1.p v1.l v1.c, .bool v1.m, .slice v1.p2 v1.l2 v1.c2] : Array Value).size = 24 from rfl]; rfl) (by rw [show (#[.bool g0.n, .slice g0.p g0.l g0.c, .bool g0.m, .slice g0.p2 g0.l2 g0.c2, .bool g1.n, .slice g1.p g1.l g1.c, .bool g1.m, .slice g1.p2 g1.l2 g1.c2, .bool f0.n, .slice f0.p f0.l f0.c, .bool f0.m, .slice f0.p2 f0.l2 f0.c2, .bool f1.n, .slice f1.p f1.l f1.c, .bool f1.m, .slice f1.p2 f1.l2 f1.c2, .bool v0.n, .slice v0.p v0.l v0.c, .bool v0.m, .slice v0.p2 v0.l2 v0.c2, .bool v1.n, .slice v1.p v1.l v1.c, .bool v1.m, .slice v1.p2 v1.l2 v1.c2] : Array Value).size = 24 from rfl]; kernel_rfl) (all_oneCell_toArray (by simp [Value.oneCell'])) hs2 (by kernel_rfl) ?_
    (try simp only [Act.put, List.setIfInBounds_toArray, List.set_cons_zero, List.set_cons_succ])
    have kc2 := kb2.setCells #[.bool g0.n, .slice g0.p g0.l g0.c, .bool g0.m, .slice g0.p2 g0.l2 g0.c2, .bool g1.n, .slice g1.p g1.l g1.c, .bool g1.m, .slice g1.p2 g1.l2 g1.c2, .bool f0.n, .slice f0.p f0.l f0.c, .bool f0.m, .slice f0.p2 f0.l2 f0.c2, .bool f1.n, .slice f1.p f1.l f1.c, .bool f1.m, .slice f1.p2 f1.l2 f1.c2, .bool v0.n, .slice v0.p v0.l v0.c, .bool v0.m, .slice v0.p2 v0.l2 v0.c2, .bool v1.n, .slice v1.p v1.l v1.c, .bool v1.m, .slice v1.p2 v1.l2 v1.c2] (by rw [show (#[.bool g0.n, .slice g0.p g0.l g0.c, .bool g0.m, .slice g0.p2 g0.l2 g0.c2, .bool g1.n, .slice g1.p g1.l g1.c, .bool g1.m, .slice g1.p2 g1.l2 g1.c2, .bool f0.n, .slice f0.p f0.l f0.c, .bool f0.m, .slice f0.p2 f0.l2 f0.c2, .bool f1.n, .slice f1.p f1.l f1.c, .bool f1.m, .slice f1.p2 f1.l2 f1.c2, .bool v0.n, .slice v0.p v0.l v0.c, .bool v0.m, .slice v0.p2 v0.l2 v0.c2, .bool v1.n, .slice v1.p v1.l v1.c, .bool v1.m, .slice v1.p2 v1.l2 v1.c2] : Array Value).size = 24 from rfl]; rfl)
    refine wpAnyH_done (by kernel_rfl) ?_ _
    go_wp2_with fail
    have kd1 := kc1.own o2 nR0_R1
    refine bodyPost_ret (v := .tuple #[.agg #[.bool u0.n, .slice u0.p u0.l u0.c, .bool u0.m, .slice u0.p2 u0.l2 u0.c2, .bool u1.n, .slice u1.p u1.l u1.c, .bool u1.m, .slice u1.p2 u1.l2 u1.c2, .bool e0.n, .slice e0.p e0.l e0.c, .bool e0.m, .slice e0.p2 e0.l2 e0.c2, .bool e1.n, .slice e1.p e1.l e1.c, .bool e1.m, .slice e1.p2 e1.l2 e1.c2, .bool g0.n, .slice g0.p g0.l g0.c, .bool g0.m, .slice g0.p2 g0.l2 g0.c2, .bool g1.n, .slice g1.p g1.l g1.c, .bool g1.m, .slice g1.p2 g1.l2 g1.c2], .agg #[.bool g0.n, .slice g0.p g0.l g0.c, .bool g0.m, .slice g0.p2 g0.l2 g0.c2, .bool g1.n, .slice g1.p g1.l g1.c, .bool g1.m, .slice g1.p2 g1.l2 g1.c2, .bool f0.n, .slice f0.p f0.l f0.c, .bool f0.m, .slice f0.p2 f0.l2 f0.c2, .bool f1.n, .slice f1.p f1.l f1.c, .bool f1.m, .slice f1.p2 f1.l2 f1.c2, .bool v0.n, .slice v0.p v0.l v0.c, .bool v0.m, .slice v0.p2 v0.l2 v0.c2, .bool v1.n, .slice v1.p v1.l v1.c, .bool v1.m, .slice v1.p2 v1.l2 v1.c2]]) ?_ rfl ⟨_, _, rfl, ⟨u0, u1, e0, e1, g0, g1, rfl, (((Fu0.out.ext E7.out).own kb1 (noU_of _ (by simp)) o1).own kb2 (noU_of _ (by simp)) o2), (((Fu1.out.ext E7.out).own kb1 (noU_of _ (by simp)) o1).own kb2 (noU_of _ (by simp)) o2), (((Fe0.out.ext (E3.out.trans (E4.out.trans (E5.out.trans (E6.out.trans E7.out))))).own kb1 (noU_of _ (by simp)) o1).own kb2 (noU_of _ (by simp)) o2), (((Fe1.out.ext (E3.out.trans (E4.out.trans (E5.out.trans (E6.out.trans E7.out))))).own kb1 (noU_of _ (by simp)) o1).own kb2 (noU_of _ (by simp)) o2), (((Fg0.out.ext (E4.out.trans (E5.out.trans (E6.out.trans E7.out)))).own kb1 (noU_of _ (by simp)) o1).own kb2 (noU_of _ (by simp)) o2), (((Fg1.out.ext (E4.out.trans (E5.out.trans (E6.out.trans E7.out)))).own kb1 (noU_of _ (by simp)) o1).own kb2 (noU_of _ (by simp)) o2)⟩, ⟨g0, g1, f0, f1, v0, v1, rfl, (((Fg0.out.ext (E4.out.trans (E5.out.trans (E6.out.trans E7.out)))).own kb1 (noU_of _ (by simp)) o1).own kb2 (noU_of _ (by simp)) o2), (((Fg1.out.ext (E4.out.trans (E5.out.trans (E6.out.trans E7.out)))).own kb1 (noU_of _ (by simp)) o1).own kb2 (noU_of _ (by simp)) o2), (((Ff0.out.ext (E3.out.trans (E4.out.trans (E5.out.trans (E6.out.trans E7.out))))).own kb1 (noU_of _ (by simp)) o1).own kb2 (noU_of _ (by simp)) o2), (((Ff1.out.ext (E3.out.trans (E4.out.trans (E5.out.trans (E6.out.trans E7.out))))).own kb1 (noU_of _ (by simp)) o1).own kb2 (noU_of _ (by simp)) o2), ((Fv0.out.own kb1 (noU_of _ (by simp)) o1).own kb2 (noU_of _ (by simp)) o2), ((Fv1.out.own kb1 (noU_of _ (by simp)) o1).own kb2 (noU_of _ (by simp)) o2)⟩, (o2.ext (o1.ext (E1.out.trans (E2.out.trans (E3.out.trans (E4.out.trans (E5.out.trans (E6.out.trans E7.out)))))) gR0) gR1)⟩
    exact results_cell2 rfl rfl rfl (kd1.loadVar rfl rfl rfl) (kc2.loadVar rfl rfl rfl)

end Go.Proofs.YtllpkoinjompcaaGreat

namespace Go.Proofs.YtllpkoinjompcaaGreat
open Go.RowKit
attribute [local go_sem ↓] Go.wp_at_zero Go.wp_at_succ run_max_ii run_min_ii

set_option maxHeartbeats 1000000 in
theorem r3new_any (n m : Bool) (u v : Value) (L : Nat) (y z : Int) (w : World) (hu : IntIn L w n u y) (hv : IntIn L w m v z) (hL : L ≤ 150000) (hz : z ≠ 0) :
    Calls Tryz.prog 71 #[.agg #[.bool n, u], .agg #[.bool m, v]] w (RetRE (Rat.divInt y z) 0 w) := by
  obtain ⟨p, l, cp, rfl⟩ := hu.form
  obtain ⟨q, k, cq, rfl⟩ := hv.form
  have hE1 : Ext w ((((w.alloc (.cells #[.bool n, .slice p l cp] 24)).alloc (.cells #[.bool m, .slice q k cq] 24)).alloc (.cells #[.bool false, .slice none 0 0, .bool false, .slice none 0 0] 26))) := (((Ext.refl _).alloc _).alloc _).alloc _
  have HS := Lib.hid (r2sign_any m (.slice q k cq) L z _ (hv.ext hE1) (by omega))
  have hsz : z.sign ≠ 0 := by rw [Ne, Int.sign_eq_zero_iff_zero]; exact hz
  generalize z.sign = s at HS hsz
  have g0 : (s == 0) = false := beq_eq_false_iff_ne.2 hsz
  have HLW := Lib.hid (fun W (h : Ext w W) => r3reduce_any n m (.slice p l cp) (.slice q k cq) L y z W (hu.ext h) (hv.ext h) hL hz)
  have HG := Lib.hid (newRat ((w.alloc (.cells #[.bool n, .slice p l cp] 24)).alloc (.cells #[.bool m, .slice q k cq] 24)))
  have HST := Lib.hid (fun w1 n1 t1 n2 t2 u0 u1 u2 u3 => stored_rat (w := ((w.alloc (.cells #[.bool n, .slice p l cp] 24)).alloc (.cells #[.bool m, .slice q k cq] 24))) (w1 := w1) (n := n1) (u := t1) (m := n2) (v := t2) (q := Rat.divInt y z) (u0 := u0) (u1 := u1) (u2 := u2) (u3 := u3))
  have HE1 := Lib.hid hE1
  clear hE1 hu hv hz hsz
  have gb : ∀ w', Ext ((w.alloc (.cells #[.bool n, .slice p l cp] 24)).alloc (.cells #[.bool m, .slice q k cq] 24)) w' →
      w'.cell? ⟨w.heap.size, 0, none⟩ = some (.bool n) ∧ w'.cell? ⟨w.heap.size, 1, none⟩ = some (.slice p l cp) ∧ w'.cell? ⟨w.heap.size + 1, 0, none⟩ = some (.bool m) ∧ w'.cell? ⟨w.heap.size + 1, 1, none⟩ = some (.slice q k cq) := fun w' h =>
    ⟨h.get (by simp), h.get (by simp), h.get (by simp), h.get (by simp)⟩
  have HGB := Lib.hid gb
  clear gb
  go_enter Tryz.func71, Tryz.ntmps71
  go_wp2_with fail
  refine HS.out.mono ?_
  rintro e w1 ⟨rfl, he⟩
  have g1 := HGB.out _ (((Ext.refl _).alloc _).trans he)
  go_wp2_with fail
  refine (HLW.out _ (HE1.out.trans he)).mono ?_
  rintro e w2 ⟨b1, t1, b2, t2, rfl, hc, he2⟩
  have HC := Lib.hid hc
  obtain ⟨p1, l1, k1, p2, l2, k2, rfl, rfl⟩ := hc.form
  have gk := HG.out _ (he.trans he2)
  simp only [World.size_alloc] at gk
  clear hc g1
  go_wp2_with fail
  have st := HST.out _ _ _ _ _ (.bool b1) (.slice p1 l1 k1) (.bool b2) (.slice p2 l2 k2) (he.trans he2) HC.out
  simp only [World.size_alloc] at st
  refine bodyPost_ret (v := .tuple #[.agg #[.bool b1, .slice p1 l1 k1, .bool b2, .slice p2 l2 k2], .int .i64 0]) ?_ rfl ⟨_, _, _, _, rfl, st.1, (((Ext.refl _).alloc _).alloc _).trans st.2⟩
  simp [results, Tryz.results71, go_sem, *]

set_option maxHeartbeats 1000000 in
theorem r3fromInts_any (a b : Int) (w : World) (h1 : -9223372036854775808 ≤ a) (h2 : a ≤ 9223372036854775807) (h3 : -9223372036854775808 ≤ b) (h4 : b ≤ 9223372036854775807) (hb : b ≠ 0) :
    Calls Tryz.prog 40 #[.int .i64 a, .int .i64 b] w (RetRE (Rat.divInt a b) 0 w) := by
  have HF := Lib.hid (fun W => r2fromInt_any a W h1 h2)
  have HF1 := Lib.hid (fun W => r2fromInt_any b W h3 h4)
  have hla := nl_i64 a h1 h2
  have hlb := nl_i64 b h3 h4
  have HN := Lib.hid (fun W n u m v (x : IntC W n u a) (z : IntC W m v b) => r3new_any n m u v 2 a b W (x.isIn hla) (z.isIn hlb) (by omega) hb)
  have HG := Lib.hid (newRat w)
  have HST := Lib.hid (fun w1 n1 t1 n2 t2 u0 u1 u2 u3 => stored_rat (w := w) (w1 := w1) (n := n1) (u := t1) (m := n2) (v := t2) (q := Rat.divInt a b) (u0 := u0) (u1 := u1) (u2 := u2) (u3 := u3))
  clear h1 h2 h3 h4 hla hlb hb
  go_enter Tryz.func40, Tryz.ntmps40
  go_wp2_with fail
  refine (HF.out _).mono ?_
  rintro e w1 ⟨b1, t1, rfl, hc1, he1⟩
  have HC1 := Lib.hid hc1
  clear hc1
  go_wp2_with fail
  refine (HF1.out _).mono ?_
  rintro e w2 ⟨b2, t2, rfl, hc2, he2⟩
  have HC2 := Lib.hid hc2
  clear hc2
  go_wp2_with fail
  refine (HN.out _ _ _ _ _ (HC1.out.ext he2) HC2.out).mono ?_
  rintro e w3 ⟨n1, u1, n2, u2, rfl, hc, he3⟩
  have HC := Lib.hid hc
  obtain ⟨p1, l1, k1, p2, l2, k2, rfl, rfl⟩ := hc.form
  have gk := HG.out _ ((he1.trans he2).trans he3)
  clear hc
  go_wp2_with fail
  have st := HST.out _ _ _ _ _ (.bool n1) (.slice p1 l1 k1) (.bool n2) (.slice p2 l2 k2) ((he1.trans he2).trans he3) HC.out
  refine bodyPost_ret (v := .tuple #[.agg #[.bool n1, .slice p1 l1 k1, .bool n2, .slice p2 l2 k2], .int .i64 0]) ?_ rfl ⟨_, _, _, _, rfl, st.1, st.2⟩
  simp [results, Tryz.results40, go_sem, *]

end Go.Proofs.YtllpkoinjompcaaGreat
