/- FlattenBounds: QuadBounds and CubicBounds of the program return what those of the reference return. -/
import Derived.Test.YtllpkoinjompcaaGreatM9
namespace Go.Proofs.YtllpkoinjompcaaGreat.bounds
open Go.ChangeShapes Go.WideShapes Go.ChangeAt Go.RowKit
attribute [local go_sem ↓] Go.wp_at_zero Go.wp_at_succ run_eql_point run_neq_point run_max_ii run_min_ii

theorem rl_top {a b c : Rat} {L : Nat} (ha : Nm.rl a ≤ L) (hb : Nm.rl b ≤ L) (hc : Nm.rl c ≤ L) : Nm.rl (quadV a b c (qTop a b c)) ≤ 16 * (6 * L + 8) + 10 := by
  have h1 := Nm.rl_sub a b
  have h2 := Nm.rl_sub c b
  have h3 := Nm.rl_add (a - b) (c - b)
  have h4 := Nm.rl_div (a - b) ((a - b) + (c - b))
  have h5 : Nm.rl (qTop a b c) ≤ 6 * L + 8 := by unfold qTop; omega
  exact rl_quadV3 (L := 6 * L + 8) (by omega) (by omega) (by omega) h5
theorem rl_qlo {a b c : Rat} {L : Nat} (ha : Nm.rl a ≤ L) (hb : Nm.rl b ≤ L) (hc : Nm.rl c ≤ L) : Nm.rl (quadLo a b c) ≤ 16 * (6 * L + 8) + 10 := by
  have h1 := rl_top ha hb hc
  unfold quadLo
  split
  · exact rl_lower h1 (rl_lower (by omega) (by omega))
  · exact rl_lower (by omega) (by omega)
theorem rl_qhi {a b c : Rat} {L : Nat} (ha : Nm.rl a ≤ L) (hb : Nm.rl b ≤ L) (hc : Nm.rl c ≤ L) : Nm.rl (quadHi a b c) ≤ 16 * (6 * L + 8) + 10 := by
  have h1 := rl_top ha hb hc
  unfold quadHi
  split
  · exact rl_upper h1 (rl_upper (by omega) (by omega))
  · exact rl_upper (by omega) (by omega)
theorem rl_foldLo {L : Nat} (xs : List Rat) : ∀ a, Nm.rl a ≤ L → (∀ x ∈ xs, Nm.rl x ≤ L) → Nm.rl (xs.foldl (fun l q => lower q l) a) ≤ L := by
  induction xs with
  | nil => intro a h _; exact h
  | cons y ys ih => intro a h hx; exact ih _ (rl_lower (hx y (List.mem_cons_self ..)) h) (fun x k => hx x (List.mem_cons_of_mem _ k))
theorem rl_foldHi {L : Nat} (xs : List Rat) : ∀ a, Nm.rl a ≤ L → (∀ x ∈ xs, Nm.rl x ≤ L) → Nm.rl (xs.foldl (fun l q => upper q l) a) ≤ L := by
  induction xs with
  | nil => intro a h _; exact h
  | cons y ys ih => intro a h hx; exact ih _ (rl_upper (hx y (List.mem_cons_self ..)) h) (fun x k => hx x (List.mem_cons_of_mem _ k))
theorem rl_clo {a b c d : Rat} (ha : Nm.rl a ≤ 6) (hb : Nm.rl b ≤ 6) (hc : Nm.rl c ≤ 6) (hd : Nm.rl d ≤ 6) : Nm.rl (boxLo (cubXs a b c d)) ≤ 426 := by
  have h := rl_cubXs ha hb hc hd
  exact rl_foldLo _ _ (h _ (by simp [cubXs])) (fun x hx => h x (List.mem_cons_of_mem _ hx))
theorem rl_chi {a b c d : Rat} (ha : Nm.rl a ≤ 6) (hb : Nm.rl b ≤ 6) (hc : Nm.rl c ≤ 6) (hd : Nm.rl d ≤ 6) : Nm.rl (boxHi (cubXs a b c d)) ≤ 426 := by
  have h := rl_cubXs ha hb hc hd
  exact rl_foldHi _ _ (h _ (by simp [cubXs])) (fun x hx => h x (List.mem_cons_of_mem _ hx))
theorem cubicB {w : World} {cp : Array Value} {A0 A1 B0 B1 C0 C1 D0 D1 : Rat} (hP : C4In 6 w cp A0 A1 B0 B1 C0 C1 D0 D1) :
    Calls Tryz.prog 24 #[.agg cp] w fun e w' => ∃ c1 c2, e = .returned (.tuple #[.agg c1, .agg c2]) ∧ PtIs w' c1 (boxLo (cubXs A0 B0 C0 D0)) (boxLo (cubXs A1 B1 C1 D1)) ∧ PtIs w' c2 (boxHi (cubXs A0 B0 C0 D0)) (boxHi (cubXs A1 B1 C1 D1)) ∧ Ext w w' :=
  cubicBounds_any 6 cp A0 A1 B0 B1 C0 C1 D0 D1 w hP (by omega) (by omega)
theorem short_spec {a : RV} (h : a.short = true) : a.l ≤ 6 ∧ a.l2 ≤ 6 := by
  unfold RV.short at h
  simpa using h
theorem shortC_spec {a0 a1 b0 b1 c0 c1 d0 d1 : RV} (h : shortC a0 a1 b0 b1 c0 c1 d0 d1 = true) : (a0.l ≤ 6 ∧ a0.l2 ≤ 6) ∧ (a1.l ≤ 6 ∧ a1.l2 ≤ 6) ∧ (b0.l ≤ 6 ∧ b0.l2 ≤ 6) ∧ (b1.l ≤ 6 ∧ b1.l2 ≤ 6) ∧ (c0.l ≤ 6 ∧ c0.l2 ≤ 6) ∧ (c1.l ≤ 6 ∧ c1.l2 ≤ 6) ∧ (d0.l ≤ 6 ∧ d0.l2 ≤ 6) ∧ (d1.l ≤ 6 ∧ d1.l2 ≤ 6) := by
  unfold shortC at h
  simp only [Bool.and_eq_true] at h
  obtain ⟨⟨⟨⟨h0, h1⟩, h2, h3⟩, h4, h5⟩, h6, h7⟩ := h
  exact ⟨short_spec h0, short_spec h1, short_spec h2, short_spec h3, short_spec h4, short_spec h5, short_spec h6, short_spec h7⟩

set_option maxRecDepth 20000 in
set_option maxHeartbeats 8000000 in
theorem walkT (csP : Array Value) (A0 A1 B0 B1 C0 C1 D0 D1 : Rat) (w : World) (hP : C4In 6 w csP A0 A1 B0 B1 C0 C1 D0 D1)
  (hs : ∀ W, Calls Tryz.prog 5 #[.agg csP] W fun e w' => e = .returned (.bool true) ∧ Ext W w') :
  Calls Tryz.prog 4 #[.agg csP] w fun e w' => e = .returned (.bool true) ∧ Ext w w' := by
 have ZP := hP.size
 have hrP : Nm.rl A0 ≤ 6 ∧ Nm.rl A1 ≤ 6 ∧ Nm.rl B0 ≤ 6 ∧ Nm.rl B1 ≤ 6 ∧ Nm.rl C0 ≤ 6 ∧ Nm.rl C1 ≤ 6 ∧ Nm.rl D0 ≤ 6 ∧ Nm.rl D1 ≤ 6 := by
  obtain ⟨_, _, _, _, _, _, _, _, _, k0, k1, k2, k3, k4, k5, k6, k7⟩ := hP
  exact ⟨(by have := k0.rl; omega), (by have := k1.rl; omega), (by have := k2.rl; omega), (by have := k3.rl; omega), (by have := k4.rl; omega), (by have := k5.rl; omega), (by have := k6.rl; omega), (by have := k7.rl; omega)⟩
 obtain ⟨ra0, ra1, rb0, rb1, rc0, rc1, rd0, rd1⟩ := hrP
 have FP := zH hP
 clear hP
 go_enter Tryz.func4, Tryz.ntmps4
 go_upto_region 1 with fail
 have hbx0 : Blk (w.alloc (.cells csP 28)) (w.heap.size) 28 csP := Blk.ext (Blk.new_at w _ (by simp) _ _) (Ext.refl _)
 have hE : Ext w (w.alloc (.cells csP 28)) := ((Ext.refl _).alloc _)
 generalize (w.alloc (.cells csP 28)) = wa at *
 have E1 : Hid (Ext w wa) := hE
 have Fbx0 := zH hbx0
 clear hE hbx0
 refine wp_region_lit ?_
 refine pL Fbx0.out Tryz.underlying28 (by rw [show (csP : Array Value).size = 32 from ZP]; kernel_rfl) ?_
 (try simp only [Act.put, zA, zB, zC])
 refine mv_call (by rfl) (by go_simp) (hs _) ?_
 rintro e w2 ⟨rfl, hx⟩
 have E2 : Hid (Ext wa w2) := hx
 clear hx
 refine ⟨_, rfl, ?_⟩
 (try simp only [Act.put, zA, zB, zC])
 refine pV (w' := w2) ?_
 (try simp only [Act.put, zA, zB, zC])
 go_upto_region 3 with fail
 refine wp_region_lit ?_
 refine pL (Fbx0.out.ext E2.out) Tryz.underlying28 (by rw [show (csP : Array Value).size = 32 from ZP]; kernel_rfl) ?_
 (try simp only [Act.put, zA, zB, zC])
 refine mv_call (by rfl) (by go_simp) (oExactQuad (FP.out.ext (tr E1 E2).out)) ?_
 rintro e w3 ⟨csQ, rfl, h_csQ, hx⟩
 have E3 : Hid (Ext w2 w3) := hx
 have FQ := zH h_csQ
 have Z_csQ := h_csQ.size
 have O_csQ := h_csQ.one
 clear h_csQ
 clear hx
 refine ⟨_, rfl, ?_⟩
 (try simp only [Act.put, zA, zB, zC])
 refine mv_val (v := .pointer (some ⟨w3.heap.size, 0, none⟩)) (w' := w3.alloc (.cells z24 32)) (by rfl) (by go_simp) ?_
 (try simp only [Act.put, zA, zB, zC])
 refine pO csQ (Blk.new w3 _ _) (Eq.trans Z_csQ rfl) (by rw [show (csQ : Array Value).size = 24 from Z_csQ]; kernel_rfl) O_csQ ?_
 (try simp only [Act.put])
 obtain ⟨xq1, xq2⟩ := new_var w3 32 z24 csQ (Eq.trans Z_csQ rfl)
 generalize (w3.alloc (.cells z24 32)).setCells w3.heap.size 0 (csQ : Array Value).toList = w4 at *
 generalize w3.heap.size = X4 at *
 have E4 : Hid (Ext w3 w4) := xq1
 have FV3 := zH xq2
 clear xq1 xq2
 go_upto_region 4 with fail
 refine wp_region_lit ?_
 refine pL FV3.out Tryz.underlying32 (by rw [show (csQ : Array Value).size = 24 from Z_csQ]; kernel_rfl) ?_
 (try simp only [Act.put, zA, zB, zC])
 refine mv_call (by rfl) (by go_simp) (quadBounds_any 6 _ A0 A1 B0 B1 C0 C1 _ (FQ.out.ext E4.out) (by omega) (by omega)) ?_
 rintro e w5 ⟨qa, qb, rfl, h_qa, h_qb, hx⟩
 have E5 : Hid (Ext w4 w5) := hx
 have Fqa := zH h_qa
 have Z_qa := h_qa.size
 have O_qa := h_qa.one
 clear h_qa
 have Fqb := zH h_qb
 have Z_qb := h_qb.size
 have O_qb := h_qb.one
 clear h_qb
 clear hx
 refine ⟨_, rfl, ?_⟩
 (try simp only [Act.put, zA, zB, zC])
 refine pV (w' := w5) ?_
 (try simp only [Act.put, zA, zB, zC])
 refine pV (w' := w5) ?_
 (try simp only [Act.put, zA, zB, zC])
 refine pV (w' := w5) ?_
 (try simp only [Act.put, zA, zB, zC])
 obtain ⟨xq1, xq2, xq3, xq4, xq5⟩ := new_var2 w5 27 z8 qa qb (by rw [Z_qa]; rfl) (by rw [Z_qb]; rfl)
 refine mv_val (v := .pointer (some ⟨w5.heap.size, 0, none⟩)) (w' := w5.alloc (.cells z8 27)) (by rfl) (by go_simp) ?_
 (try simp only [Act.put, zA, zB, zC])
 refine mv_val (v := .pointer (some ⟨(w5.alloc (.cells z8 27)).heap.size, 0, none⟩)) (w' := (w5.alloc (.cells z8 27)).alloc (.cells z8 27)) (by rfl) (by go_simp) ?_
 (try simp only [Act.put, zA, zB, zC])
 refine pO qa xq1 (by rw [Z_qa]; rfl) (by rw [Z_qa]; kernel_rfl) O_qa ?_
 (try simp only [Act.put])
 refine pO qb xq2 (by rw [Z_qb]; rfl) (by rw [Z_qb]; kernel_rfl) O_qb ?_
 (try simp only [Act.put])
 clear xq1 xq2
 generalize (((w5.alloc (.cells z8 27)).alloc (.cells z8 27)).setCells w5.heap.size 0 (qa : Array Value).toList).setCells (w5.alloc (.cells z8 27)).heap.size 0 (qb : Array Value).toList = w6 at *
 generalize (w5.alloc (.cells z8 27)).heap.size = Y6 at *
 generalize w5.heap.size = X6 at *
 have E6 : Hid (Ext w5 w6) := xq3
 have FV4 := zH xq4
 have FV5 := zH xq5
 clear xq3 xq4 xq5
 go_upto_region 5 with fail
 refine wp_region_lit ?_
 refine pL (FV3.out.ext (tr E5 E6).out) Tryz.underlying32 (by rw [show (csQ : Array Value).size = 24 from Z_csQ]; kernel_rfl) ?_
 (try simp only [Act.put, zA, zB, zC])
 refine mv_call (by rfl) (by go_simp) (rquadBounds_any 6 _ A0 A1 B0 B1 C0 C1 _ (FQ.out.ext (tr E4 (tr E5 E6)).out) (by omega) (by omega)) ?_
 rintro e w7 ⟨qc, qd, rfl, h_qc, h_qd, hx⟩
 have E7 : Hid (Ext w6 w7) := hx
 have Fqc := zH h_qc
 have Z_qc := h_qc.size
 have O_qc := h_qc.one
 clear h_qc
 have Fqd := zH h_qd
 have Z_qd := h_qd.size
 have O_qd := h_qd.one
 clear h_qd
 clear hx
 refine ⟨_, rfl, ?_⟩
 (try simp only [Act.put, zA, zB, zC])
 refine pV (w' := w7) ?_
 (try simp only [Act.put, zA, zB, zC])
 refine pV (w' := w7) ?_
 (try simp only [Act.put, zA, zB, zC])
 refine pV (w' := w7) ?_
 (try simp only [Act.put, zA, zB, zC])
 obtain ⟨xq1, xq2, xq3, xq4, xq5⟩ := new_var2 w7 27 z8 qc qd (by rw [Z_qc]; rfl) (by rw [Z_qd]; rfl)
 refine mv_val (v := .pointer (some ⟨w7.heap.size, 0, none⟩)) (w' := w7.alloc (.cells z8 27)) (by rfl) (by go_simp) ?_
 (try simp only [Act.put, zA, zB, zC])
 refine mv_val (v := .pointer (some ⟨(w7.alloc (.cells z8 27)).heap.size, 0, none⟩)) (w' := (w7.alloc (.cells z8 27)).alloc (.cells z8 27)) (by rfl) (by go_simp) ?_
 (try simp only [Act.put, zA, zB, zC])
 refine pO qc xq1 (by rw [Z_qc]; rfl) (by rw [Z_qc]; kernel_rfl) O_qc ?_
 (try simp only [Act.put])
 refine pO qd xq2 (by rw [Z_qd]; rfl) (by rw [Z_qd]; kernel_rfl) O_qd ?_
 (try simp only [Act.put])
 clear xq1 xq2
 generalize (((w7.alloc (.cells z8 27)).alloc (.cells z8 27)).setCells w7.heap.size 0 (qc : Array Value).toList).setCells (w7.alloc (.cells z8 27)).heap.size 0 (qd : Array Value).toList = w8 at *
 generalize (w7.alloc (.cells z8 27)).heap.size = Y8 at *
 generalize w7.heap.size = X8 at *
 have E8 : Hid (Ext w7 w8) := xq3
 have FV6 := zH xq4
 have FV7 := zH xq5
 clear xq3 xq4 xq5
 go_upto_region 6 with fail
 refine wp_region_lit ?_
 refine pL (Fbx0.out.ext (tr E2 (tr E3 (tr E4 (tr E5 (tr E6 (tr E7 E8)))))).out) Tryz.underlying28 (by rw [show (csP : Array Value).size = 32 from ZP]; kernel_rfl) ?_
 (try simp only [Act.put, zA, zB, zC])
 refine mv_call (by rfl) (by go_simp) (cubicB (FP.out.ext (tr E1 (tr E2 (tr E3 (tr E4 (tr E5 (tr E6 (tr E7 E8))))))).out)) ?_
 rintro e w9 ⟨ca, cb, rfl, h_ca, h_cb, hx⟩
 have E9 : Hid (Ext w8 w9) := hx
 have Fca := zH h_ca
 have Z_ca := h_ca.size
 have O_ca := h_ca.one
 clear h_ca
 have Fcb := zH h_cb
 have Z_cb := h_cb.size
 have O_cb := h_cb.one
 clear h_cb
 clear hx
 refine ⟨_, rfl, ?_⟩
 (try simp only [Act.put, zA, zB, zC])
 refine pV (w' := w9) ?_
 (try simp only [Act.put, zA, zB, zC])
 refine pV (w' := w9) ?_
 (try simp only [Act.put, zA, zB, zC])
 refine pV (w' := w9) ?_
 (try simp only [Act.put, zA, zB, zC])
 obtain ⟨xq1, xq2, xq3, xq4, xq5⟩ := new_var2 w9 27 z8 ca cb (by rw [Z_ca]; rfl) (by rw [Z_cb]; rfl)
 refine mv_val (v := .pointer (some ⟨w9.heap.size, 0, none⟩)) (w' := w9.alloc (.cells z8 27)) (by rfl) (by go_simp) ?_
 (try simp only [Act.put, zA, zB, zC])
 refine mv_val (v := .pointer (some ⟨(w9.alloc (.cells z8 27)).heap.size, 0, none⟩)) (w' := (w9.alloc (.cells z8 27)).alloc (.cells z8 27)) (by rfl) (by go_simp) ?_
 (try simp only [Act.put, zA, zB, zC])
 refine pO ca xq1 (by rw [Z_ca]; rfl) (by rw [Z_ca]; kernel_rfl) O_ca ?_
 (try simp only [Act.put])
 refine pO cb xq2 (by rw [Z_cb]; rfl) (by rw [Z_cb]; kernel_rfl) O_cb ?_
 (try simp only [Act.put])
 clear xq1 xq2
 generalize (((w9.alloc (.cells z8 27)).alloc (.cells z8 27)).setCells w9.heap.size 0 (ca : Array Value).toList).setCells (w9.alloc (.cells z8 27)).heap.size 0 (cb : Array Value).toList = w10 at *
 generalize (w9.alloc (.cells z8 27)).heap.size = Y10 at *
 generalize w9.heap.size = X10 at *
 have E10 : Hid (Ext w9 w10) := xq3
 have FV8 := zH xq4
 have FV9 := zH xq5
 clear xq3 xq4 xq5
 go_upto_region 7 with fail
 refine wp_region_lit ?_
 refine pL (Fbx0.out.ext (tr E2 (tr E3 (tr E4 (tr E5 (tr E6 (tr E7 (tr E8 (tr E9 E10)))))))).out) Tryz.underlying28 (by rw [show (csP : Array Value).size = 32 from ZP]; kernel_rfl) ?_
 (try simp only [Act.put, zA, zB, zC])
 refine mv_call (by rfl) (by go_simp) (rcubicBounds_any _ A0 A1 B0 B1 C0 C1 D0 D1 _ (FP.out.ext (tr E1 (tr E2 (tr E3 (tr E4 (tr E5 (tr E6 (tr E7 (tr E8 (tr E9 E10))))))))).out)) ?_
 rintro e w11 ⟨cc, cd, rfl, h_cc, h_cd, hx⟩
 have E11 : Hid (Ext w10 w11) := hx
 have Fcc := zH h_cc
 have Z_cc := h_cc.size
 have O_cc := h_cc.one
 clear h_cc
 have Fcd := zH h_cd
 have Z_cd := h_cd.size
 have O_cd := h_cd.one
 clear h_cd
 clear hx
 refine ⟨_, rfl, ?_⟩
 (try simp only [Act.put, zA, zB, zC])
 refine pV (w' := w11) ?_
 (try simp only [Act.put, zA, zB, zC])
 refine pV (w' := w11) ?_
 (try simp only [Act.put, zA, zB, zC])
 refine pV (w' := w11) ?_
 (try simp only [Act.put, zA, zB, zC])
 obtain ⟨xq1, xq2, xq3, xq4, xq5⟩ := new_var2 w11 27 z8 cc cd (by rw [Z_cc]; rfl) (by rw [Z_cd]; rfl)
 refine mv_val (v := .pointer (some ⟨w11.heap.size, 0, none⟩)) (w' := w11.alloc (.cells z8 27)) (by rfl) (by go_simp) ?_
 (try simp only [Act.put, zA, zB, zC])
 refine mv_val (v := .pointer (some ⟨(w11.alloc (.cells z8 27)).heap.size, 0, none⟩)) (w' := (w11.alloc (.cells z8 27)).alloc (.cells z8 27)) (by rfl) (by go_simp) ?_
 (try simp only [Act.put, zA, zB, zC])
 refine pO cc xq1 (by rw [Z_cc]; rfl) (by rw [Z_cc]; kernel_rfl) O_cc ?_
 (try simp only [Act.put])
 refine pO cd xq2 (by rw [Z_cd]; rfl) (by rw [Z_cd]; kernel_rfl) O_cd ?_
 (try simp only [Act.put])
 clear xq1 xq2
 generalize (((w11.alloc (.cells z8 27)).alloc (.cells z8 27)).setCells w11.heap.size 0 (cc : Array Value).toList).setCells (w11.alloc (.cells z8 27)).heap.size 0 (cd : Array Value).toList = w12 at *
 generalize (w11.alloc (.cells z8 27)).heap.size = Y12 at *
 generalize w11.heap.size = X12 at *
 have E12 : Hid (Ext w11 w12) := xq3
 have FV10 := zH xq4
 have FV11 := zH xq5
 clear xq3 xq4 xq5
 have ql0 := rl_qlo (L := 6) ra0 rb0 rc0
 have qh0 := rl_qhi (L := 6) ra0 rb0 rc0
 have cl0 := rl_clo ra0 rb0 rc0 rd0
 have ch0 := rl_chi ra0 rb0 rc0 rd0
 have ql1 := rl_qlo (L := 6) ra1 rb1 rc1
 have qh1 := rl_qhi (L := 6) ra1 rb1 rc1
 have cl1 := rl_clo ra1 rb1 rc1 rd1
 have ch1 := rl_chi ra1 rb1 rc1 rd1
 go_upto_region 8 with fail
 refine wp_region_lit ?_
 refine pL (FV4.out.ext (tr E7 (tr E8 (tr E9 (tr E10 (tr E11 E12))))).out) Tryz.underlying27 (by rw [show (qa : Array Value).size = 8 from Z_qa]; kernel_rfl) ?_
 (try simp only [Act.put, zA, zB, zC])
 refine pL (FV6.out.ext (tr E9 (tr E10 (tr E11 E12))).out) Tryz.underlying27 (by rw [show (qc : Array Value).size = 8 from Z_qc]; kernel_rfl) ?_
 (try simp only [Act.put, zA, zB, zC])
 refine mv_call (by rfl) (by go_simp) (oSamePoint (L := 5000) (Fqa.out.ext (tr E6 (tr E7 (tr E8 (tr E9 (tr E10 (tr E11 E12)))))).out) (Fqc.out.ext (tr E8 (tr E9 (tr E10 (tr E11 E12)))).out) (by omega) (by omega) (by omega)) ?_
 rintro e w13 ⟨rfl, hx⟩
 have E13 : Hid (Ext w12 w13) := hx
 clear hx
 refine ⟨_, rfl, ?_⟩
 (try simp only [Act.put, zA, zB, zC])
 refine pV (w' := w13) ?_
 (try simp only [Act.put, zA, zB, zC])
 refine pL (FV5.out.ext (tr E7 (tr E8 (tr E9 (tr E10 (tr E11 (tr E12 E13)))))).out) Tryz.underlying27 (by rw [show (qb : Array Value).size = 8 from Z_qb]; kernel_rfl) ?_
 (try simp only [Act.put, zA, zB, zC])
 refine pL (FV7.out.ext (tr E9 (tr E10 (tr E11 (tr E12 E13)))).out) Tryz.underlying27 (by rw [show (qd : Array Value).size = 8 from Z_qd]; kernel_rfl) ?_
 (try simp only [Act.put, zA, zB, zC])
 refine mv_call (by rfl) (by go_simp) (oSamePoint (L := 5000) (Fqb.out.ext (tr E6 (tr E7 (tr E8 (tr E9 (tr E10 (tr E11 (tr E12 E13))))))).out) (Fqd.out.ext (tr E8 (tr E9 (tr E10 (tr E11 (tr E12 E13))))).out) (by omega) (by omega) (by omega)) ?_
 rintro e w14 ⟨rfl, hx⟩
 have E14 : Hid (Ext w13 w14) := hx
 clear hx
 refine ⟨_, rfl, ?_⟩
 (try simp only [Act.put, zA, zB, zC])
 refine pV (w' := w14) ?_
 (try simp only [Act.put, zA, zB, zC])
 refine pV (w' := w14) ?_
 (try simp only [Act.put, zA, zB, zC])
 refine pL (FV8.out.ext (tr E11 (tr E12 (tr E13 E14))).out) Tryz.underlying27 (by rw [show (ca : Array Value).size = 8 from Z_ca]; kernel_rfl) ?_
 (try simp only [Act.put, zA, zB, zC])
 refine pL (FV10.out.ext (tr E13 E14).out) Tryz.underlying27 (by rw [show (cc : Array Value).size = 8 from Z_cc]; kernel_rfl) ?_
 (try simp only [Act.put, zA, zB, zC])
 refine mv_call (by rfl) (by go_simp) (oSamePoint (L := 5000) (Fca.out.ext (tr E10 (tr E11 (tr E12 (tr E13 E14)))).out) (Fcc.out.ext (tr E12 (tr E13 E14)).out) (by omega) (by omega) (by omega)) ?_
 rintro e w15 ⟨rfl, hx⟩
 have E15 : Hid (Ext w14 w15) := hx
 clear hx
 refine ⟨_, rfl, ?_⟩
 (try simp only [Act.put, zA, zB, zC])
 refine pV (w' := w15) ?_
 (try simp only [Act.put, zA, zB, zC])
 refine pV (w' := w15) ?_
 (try simp only [Act.put, zA, zB, zC])
 refine pL (FV9.out.ext (tr E11 (tr E12 (tr E13 (tr E14 E15)))).out) Tryz.underlying27 (by rw [show (cb : Array Value).size = 8 from Z_cb]; kernel_rfl) ?_
 (try simp only [Act.put, zA, zB, zC])
 refine pL (FV11.out.ext (tr E13 (tr E14 E15)).out) Tryz.underlying27 (by rw [show (cd : Array Value).size = 8 from Z_cd]; kernel_rfl) ?_
 (try simp only [Act.put, zA, zB, zC])
 refine mv_call (by rfl) (by go_simp) (oSamePoint (L := 5000) (Fcb.out.ext (tr E10 (tr E11 (tr E12 (tr E13 (tr E14 E15))))).out) (Fcd.out.ext (tr E12 (tr E13 (tr E14 E15))).out) (by omega) (by omega) (by omega)) ?_
 rintro e w16 ⟨rfl, hx⟩
 have E16 : Hid (Ext w15 w16) := hx
 clear hx
 refine ⟨_, rfl, ?_⟩
 (try simp only [Act.put, zA, zB, zC])
 refine pV (w' := w16) ?_
 (try simp only [Act.put, zA, zB, zC])
 refine pV (w' := w16) ?_
 (try simp only [Act.put, zA, zB, zC])
 refine mv_call (by rfl) (by go_simp) (example_any _) ?_
 rintro e w17 ⟨rfl, hx⟩
 have E17 : Hid (Ext w16 w17) := hx
 clear hx
 refine ⟨_, rfl, ?_⟩
 (try simp only [Act.put, zA, zB, zC])
 refine pV (w' := w17) ?_
 (try simp only [Act.put, zA, zB, zC])
 refine pV (w' := w17) ?_
 (try simp only [Act.put, zA, zB, zC])
 go_wp2_with fail
 go_ret
 exact ⟨rfl, (tr E1 (tr E2 (tr E3 (tr E4 (tr E5 (tr E6 (tr E7 (tr E8 (tr E9 (tr E10 (tr E11 (tr E12 (tr E13 (tr E14 (tr E15 (tr E16 E17)))))))))))))))).out⟩

set_option maxRecDepth 20000 in
set_option maxHeartbeats 8000000 in
theorem walkF (csP : Array Value) (w : World) (ZP : csP.size = 32)
    (hs : ∀ W, Calls Tryz.prog 5 #[.agg csP] W fun e w' => e = .returned (.bool false) ∧ Ext W w') :
    Calls Tryz.prog 4 #[.agg csP] w fun e w' => e = .returned (.bool true) ∧ Ext w w' := by
  go_enter Tryz.func4, Tryz.ntmps4
  go_upto_region 1 with fail
  have hbx0 : Blk (w.alloc (.cells csP 28)) (w.heap.size) 28 csP := Blk.ext (Blk.new_at w _ (by simp) _ _) (Ext.refl _)
  have hE : Ext w (w.alloc (.cells csP 28)) := ((Ext.refl _).alloc _)
  generalize (w.alloc (.cells csP 28)) = wa at *
  have E1 : Hid (Ext w wa) := hE
  have Fbx0 := zH hbx0
  clear hE hbx0
  refine wp_region_lit ?_
  refine pL Fbx0.out Tryz.underlying28 (by rw [show (csP : Array Value).size = 32 from ZP]; kernel_rfl) ?_
  (try simp only [Act.put, zA, zB, zC])
  refine mv_call (by rfl) (by go_simp) (hs _) ?_
  rintro e w2 ⟨rfl, hx⟩
  have E2 : Hid (Ext wa w2) := hx
  clear hx
  refine ⟨_, rfl, ?_⟩
  (try simp only [Act.put, zA, zB, zC])
  refine pV (w' := w2) ?_
  (try simp only [Act.put, zA, zB, zC])
  go_upto_region 2 with fail
  refine wp_region_lit ?_
  refine mv_call (by rfl) (by go_simp) (example_any _) ?_
  rintro e w3 ⟨rfl, hx⟩
  have E3 : Hid (Ext w2 w3) := hx
  clear hx
  refine ⟨_, rfl, ?_⟩
  (try simp only [Act.put, zA, zB, zC])
  refine pV (w' := w3) ?_
  (try simp only [Act.put, zA, zB, zC])
  go_wp2_with fail
  go_ret
  exact ⟨rfl, (tr E1 (tr E2 E3)).out⟩

theorem walk (a0 a1 b0 b1 c0 c1 d0 d1 : RV) (w : World) (hr : (a0.Raw w ∧ a1.Raw w) ∧ (b0.Raw w ∧ b1.Raw w) ∧ (c0.Raw w ∧ c1.Raw w) ∧ (d0.Raw w ∧ d1.Raw w)) :
    Calls Tryz.prog 4 #[.agg #[.bool a0.n, .slice a0.p a0.l a0.c, .bool a0.m, .slice a0.p2 a0.l2 a0.c2, .bool a1.n, .slice a1.p a1.l a1.c, .bool a1.m, .slice a1.p2 a1.l2 a1.c2, .bool b0.n, .slice b0.p b0.l b0.c, .bool b0.m, .slice b0.p2 b0.l2 b0.c2, .bool b1.n, .slice b1.p b1.l b1.c, .bool b1.m, .slice b1.p2 b1.l2 b1.c2, .bool c0.n, .slice c0.p c0.l c0.c, .bool c0.m, .slice c0.p2 c0.l2 c0.c2, .bool c1.n, .slice c1.p c1.l c1.c, .bool c1.m, .slice c1.p2 c1.l2 c1.c2, .bool d0.n, .slice d0.p d0.l d0.c, .bool d0.m, .slice d0.p2 d0.l2 d0.c2, .bool d1.n, .slice d1.p d1.l d1.c, .bool d1.m, .slice d1.p2 d1.l2 d1.c2]] w fun e w' => e = .returned (.bool true) ∧ Ext w w' := by
  have hs := fun W => shortCurve_any a0 a1 b0 b1 c0 c1 d0 d1 W
  cases h0 : shortC a0 a1 b0 b1 c0 c1 d0 d1 with
  | false => rw [h0] at hs; exact walkF _ w rfl hs
  | true =>
    rw [h0] at hs
    have hb := shortC_spec h0
    obtain ⟨⟨r0, r1⟩, ⟨r2, r3⟩, ⟨r4, r5⟩, ⟨r6, r7⟩⟩ := hr
    obtain ⟨q0, k0⟩ := r0.val; obtain ⟨q1, k1⟩ := r1.val; obtain ⟨q2, k2⟩ := r2.val; obtain ⟨q3, k3⟩ := r3.val; obtain ⟨q4, k4⟩ := r4.val; obtain ⟨q5, k5⟩ := r5.val; obtain ⟨q6, k6⟩ := r6.val; obtain ⟨q7, k7⟩ := r7.val
    obtain ⟨⟨x0, y0⟩, ⟨x1, y1⟩, ⟨x2, y2⟩, ⟨x3, y3⟩, ⟨x4, y4⟩, ⟨x5, y5⟩, ⟨x6, y6⟩, ⟨x7, y7⟩⟩ := hb
    exact walkT _ q0 q1 q2 q3 q4 q5 q6 q7 w ⟨a0, a1, b0, b1, c0, c1, d0, d1, rfl, k0 6 x0 y0, k1 6 x1 y1, k2 6 x2 y2, k3 6 x3 y3, k4 6 x4 y4, k5 6 x5 y5, k6 6 x6 y6, k7 6 x7 y7⟩ hs

set_option maxRecDepth 100000 in
theorem lifted (os : Os) (started : os.Started) (H : Type) (enc : TypeId × Value → H) :
    ReturnsInHanded {} Tryz.checked os 4 .any (Rows.flattenBoundsSpec.pre6 enc Tryz.prog Tryz.f4 Rows.flattenBoundsRow.domain false) (Rows.flattenBoundsSpec.post enc Tryz.prog Tryz.f4 false true false false) := by
  refine returnsInHanded_of_change (C := Tryz.checked) own started (by kernel_rfl) Tryz.func4
    (ChangeSpec.witness6 (enc := enc) (C := Tryz.checked) false ⟨#[], #[.agg z32], []⟩ 8 (by kernel_rfl) (by kernel_rfl) (by kernel_rfl) (by kernel_rfl)) ?_
  intro W base args ds gs before hval0 hW hcnd _
  have hval : ∀ (j : Nat) t v, Tryz.f4.params[j]? = some t → args[j]? = some v → Value.okWide Tryz.prog W .any base t v := hval0
  have hW' := hW
  obtain ⟨p, q, hA0, hV, rfl, hfz, hnd⟩ := hW
  have hA : DataW.TrodAll enc Tryz.prog W 0 (fun _ => true) true Tryz.f4.params.toList args.toList ds p := hA0
  rw [Tryz.params4] at hA hval
  obtain ⟨v0, vs0, d0, ds0, p0, q0, hargs, rfl, rfl, h0, r0⟩ := trodAll_cons hA
  obtain ⟨rfl, rfl, rfl⟩ := trodAll_nil r0
  obtain rfl : args = #[v0] := by cases args; simp_all
  obtain ⟨rfl, rfl⟩ := trodVars_none hV
  have k0 := h0
  have lt0 : ∀ x ∈ p0, x.block < W.heap.size := by obtain ⟨m, hm⟩ := k0; exact DataW.trod_lt m _ _ _ hm
  obtain ⟨⟨l0⟩, rfl, _⟩ := okWide_array Tryz.underlying28 (hval 0 28 v0 rfl rfl)
  obtain ⟨a0, a1, b0, b1, c0, c1, d0, d1, rfl, g0⟩ : ∃ a0 a1 b0 b1 c0 c1 d0 d1 : RV, l0 = [.bool a0.n, .slice a0.p a0.l a0.c, .bool a0.m, .slice a0.p2 a0.l2 a0.c2, .bool a1.n, .slice a1.p a1.l a1.c, .bool a1.m, .slice a1.p2 a1.l2 a1.c2, .bool b0.n, .slice b0.p b0.l b0.c, .bool b0.m, .slice b0.p2 b0.l2 b0.c2, .bool b1.n, .slice b1.p b1.l b1.c, .bool b1.m, .slice b1.p2 b1.l2 b1.c2, .bool c0.n, .slice c0.p c0.l c0.c, .bool c0.m, .slice c0.p2 c0.l2 c0.c2, .bool c1.n, .slice c1.p c1.l c1.c, .bool c1.m, .slice c1.p2 c1.l2 c1.c2, .bool d0.n, .slice d0.p d0.l d0.c, .bool d0.m, .slice d0.p2 d0.l2 d0.c2, .bool d1.n, .slice d1.p d1.l d1.c, .bool d1.m, .slice d1.p2 d1.l2 d1.c2] ∧ (a0.Raw W ∧ a1.Raw W) ∧ (b0.Raw W ∧ b1.Raw W) ∧ (c0.Raw W ∧ c1.Raw W) ∧ (d0.Raw W ∧ d1.Raw W) := by
    obtain ⟨m, hm⟩ := h0
    exact rp4_open hm
  clear hA0 hval0
  refine (walk a0 a1 b0 b1 c0 c1 d0 d1 W g0).mono fun e W' ⟨he, hx⟩ => ?_
  subst he
  have bel := hx.below
  exact ⟨_, rfl, _, _, _, [], _, [], hW', trodAll_mk1 (shut_bool Tryz.underlying4 _), (trodAll_cons_mk (Below.trod laidOut (by kernel_rfl) (of_decide_eq_true (by kernel_rfl)) k0 bel lt0) trodAll_mk0), rfl, bel.frame _, fun h => by cases h⟩

theorem proved : Rows.FlattenBoundsSaid :=
  OpenClaim.holds_of_wide 4 Tryz.f4 rfl rfl rfl rfl rfl rfl rfl ⟨rfl, rfl, rfl, rfl, rfl⟩ rfl rfl rfl rfl rfl (by kernel_rfl) Tryz.func4 (by kernel_rfl)
    (of_decide_eq_true (by kernel_rfl)) (by unfold Func.isWrapper; first | (rw [if_pos (by decide +kernel)]; kernel_rfl) | (rw [if_neg (by decide +kernel)]; exact ⟨rfl, rfl⟩))
    (fun os started H enc _ => lifted os started H enc)
#print axioms proved

end Go.Proofs.YtllpkoinjompcaaGreat.bounds
