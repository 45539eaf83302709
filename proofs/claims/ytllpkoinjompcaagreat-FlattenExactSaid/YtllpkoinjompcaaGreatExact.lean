/- FlattenExact: EvalQuad, EvalCubic, SplitQuad, SplitCubic and Elevate of the program return what those of the reference return. -/
import Derived.Test.YtllpkoinjompcaaGreatM8
namespace Go.Proofs.YtllpkoinjompcaaGreat.exact
open Go.ChangeShapes Go.WideShapes Go.ChangeAt Go.RowKit
attribute [local go_sem ↓] Go.wp_at_zero Go.wp_at_succ run_eql_point run_neq_point run_max_ii run_min_ii

theorem rl_quadV {a b c t : Rat} {L : Nat} (ha : Nm.rl a ≤ L) (hb : Nm.rl b ≤ L) (hc : Nm.rl c ≤ L) (ht : Nm.rl t ≤ L) : Nm.rl (quadV a b c t) ≤ 16 * L + 10 := by
  have h1 := rl_lerpV ha hb ht
  have h2 := rl_lerpV hb hc ht
  have h3 : Nm.rl (quadV a b c t) ≤ 4 * (4 * L + 2) + 2 := rl_lerpV (L := 4 * L + 2) h1 h2 (by omega)
  omega
theorem rl_cubicV {a b c d t : Rat} {L : Nat} (ha : Nm.rl a ≤ L) (hb : Nm.rl b ≤ L) (hc : Nm.rl c ≤ L) (hd : Nm.rl d ≤ L) (ht : Nm.rl t ≤ L) : Nm.rl (cubicV a b c d t) ≤ 64 * L + 42 := by
  have h1 := rl_quadV ha hb hc ht
  have h2 := rl_quadV hb hc hd ht
  have h3 : Nm.rl (cubicV a b c d t) ≤ 4 * (16 * L + 10) + 2 := rl_lerpV (L := 16 * L + 10) h1 h2 (by omega)
  omega
theorem el1 (a b : Rat) : lerpV b a (1 / 3) = lerpV a b (2 / 3) := by simp only [lerpV]; grind
theorem short_spec {a : RV} (h : a.short = true) : a.l ≤ 6 ∧ a.l2 ≤ 6 := by
  unfold RV.short at h
  simpa using h
theorem shortC_spec {a0 a1 b0 b1 c0 c1 d0 d1 : RV} (h : shortC a0 a1 b0 b1 c0 c1 d0 d1 = true) : (a0.l ≤ 6 ∧ a0.l2 ≤ 6) ∧ (a1.l ≤ 6 ∧ a1.l2 ≤ 6) ∧ (b0.l ≤ 6 ∧ b0.l2 ≤ 6) ∧ (b1.l ≤ 6 ∧ b1.l2 ≤ 6) ∧ (c0.l ≤ 6 ∧ c0.l2 ≤ 6) ∧ (c1.l ≤ 6 ∧ c1.l2 ≤ 6) ∧ (d0.l ≤ 6 ∧ d0.l2 ≤ 6) ∧ (d1.l ≤ 6 ∧ d1.l2 ≤ 6) := by
  unfold shortC at h
  simp only [Bool.and_eq_true] at h
  obtain ⟨⟨⟨⟨h0, h1⟩, h2, h3⟩, h4, h5⟩, h6, h7⟩ := h
  exact ⟨short_spec h0, short_spec h1, short_spec h2, short_spec h3, short_spec h4, short_spec h5, short_spec h6, short_spec h7⟩

set_option maxRecDepth 20000 in
set_option maxHeartbeats 8000000 in
theorem walkT (csP csT : Array Value) (A0 A1 B0 B1 C0 C1 D0 D1 S : Rat) (w : World) (hP : C4In 6 w csP A0 A1 B0 B1 C0 C1 D0 D1) (hT : NIn 6 w csT S)
    (hs : ∀ W, Calls Tryz.prog 5 #[.agg csP] W fun e w' => e = .returned (.bool true) ∧ Ext W w') (hs1 : ∀ W, Calls Tryz.prog 6 #[.agg csT] W fun e w' => e = .returned (.bool true) ∧ Ext W w') :
    Calls Tryz.prog 3 #[.agg csP, .agg csT] w fun e w' => e = .returned (.bool true) ∧ Ext w w' := by
  have hrS := hT.rl (by omega)
  have ZP := hP.size
  have ZT := hT.size
  have hrP : Nm.rl A0 ≤ 6 ∧ Nm.rl A1 ≤ 6 ∧ Nm.rl B0 ≤ 6 ∧ Nm.rl B1 ≤ 6 ∧ Nm.rl C0 ≤ 6 ∧ Nm.rl C1 ≤ 6 ∧ Nm.rl D0 ≤ 6 ∧ Nm.rl D1 ≤ 6 := by
    obtain ⟨_, _, _, _, _, _, _, _, _, k0, k1, k2, k3, k4, k5, k6, k7⟩ := hP
    exact ⟨(by have := k0.rl; omega), (by have := k1.rl; omega), (by have := k2.rl; omega), (by have := k3.rl; omega), (by have := k4.rl; omega), (by have := k5.rl; omega), (by have := k6.rl; omega), (by have := k7.rl; omega)⟩
  obtain ⟨ra0, ra1, rb0, rb1, rc0, rc1, rd0, rd1⟩ := hrP
  have FP := Lib.hid hP
  have FT := Lib.hid hT
  clear hP hT
  go_enter Tryz.func3, Tryz.ntmps3
  go_upto_region 1 with fail
  have hbx0 : Blk ((w.alloc (.cells csP 28)).alloc (.cells csT 26)) (w.heap.size) 28 csP := Blk.ext (Blk.new_at w _ (by simp) _ _) ((Ext.refl _).alloc _)
  have hbx1 : Blk ((w.alloc (.cells csP 28)).alloc (.cells csT 26)) (w.heap.size + 1) 26 csT := Blk.ext (Blk.new_at (w.alloc (.cells csP 28)) _ (by simp) _ _) (Ext.refl _)
  have hE : Ext w ((w.alloc (.cells csP 28)).alloc (.cells csT 26)) := (((Ext.refl _).alloc _).alloc _)
  generalize ((w.alloc (.cells csP 28)).alloc (.cells csT 26)) = wa at *
  generalize w.heap.size + 1 = bx1 at *
  have E1 := Lib.hid (show Ext w wa from hE)
  have Fbx0 := Lib.hid hbx0
  have Fbx1 := Lib.hid hbx1
  clear hE hbx0 hbx1
  refine wp_region_lit ?_
  refine mv_load (by rfl) _ _ (by rfl) w.heap.size _ csP _ (by rfl) Fbx0.out Tryz.underlying28 (by rfl) (by rw [show (csP : Array Value).size = 32 from ZP]; kernel_rfl) ?_
  (try simp only [Act.put, List.setIfInBounds_toArray, List.set_cons_zero, List.set_cons_succ])
  refine mv_call (by rfl) (by go_simp) (hs _) ?_
  rintro e w2 ⟨rfl, hx⟩
  have E2 := Lib.hid (show Ext wa w2 from hx)
  clear hx
  refine ⟨_, rfl, ?_⟩
  (try simp only [Act.put, List.setIfInBounds_toArray, List.set_cons_zero, List.set_cons_succ])
  refine mv_val (v := ?vm1) (w' := w2) (by rfl) ?hm1 ?rm1
  case hm1 => (go_simp <;> with_reducible rfl)
  (try simp only [Act.put, List.setIfInBounds_toArray, List.set_cons_zero, List.set_cons_succ])
  refine mv_val (v := ?vm2) (w' := w2) (by rfl) ?hm2 ?rm2
  case hm2 => (go_simp <;> with_reducible rfl)
  (try simp only [Act.put, List.setIfInBounds_toArray, List.set_cons_zero, List.set_cons_succ])
  refine mv_load (by rfl) _ _ (by rfl) bx1 _ csT _ (by rfl) (Fbx1.out.ext E2.out) Tryz.underlying26 (by rfl) (by rw [show (csT : Array Value).size = 4 from ZT]; kernel_rfl) ?_
  (try simp only [Act.put, List.setIfInBounds_toArray, List.set_cons_zero, List.set_cons_succ])
  refine mv_call (by rfl) (by go_simp) (hs1 _) ?_
  rintro e w3 ⟨rfl, hx⟩
  have E3 := Lib.hid (show Ext w2 w3 from hx)
  clear hx
  refine ⟨_, rfl, ?_⟩
  (try simp only [Act.put, List.setIfInBounds_toArray, List.set_cons_zero, List.set_cons_succ])
  refine mv_val (v := ?vm3) (w' := w3) (by rfl) ?hm3 ?rm3
  case hm3 => (go_simp <;> with_reducible rfl)
  (try simp only [Act.put, List.setIfInBounds_toArray, List.set_cons_zero, List.set_cons_succ])
  refine mv_val (v := ?vm4) (w' := w3) (by rfl) ?hm4 ?rm4
  case hm4 => (go_simp <;> with_reducible rfl)
  (try simp only [Act.put, List.setIfInBounds_toArray, List.set_cons_zero, List.set_cons_succ])
  go_upto_region 3 with fail
  refine wp_region_lit ?_
  refine mv_load (by rfl) _ _ (by rfl) w.heap.size _ csP _ (by rfl) (Fbx0.out.ext (E2.out.trans E3.out)) Tryz.underlying28 (by rfl) (by rw [show (csP : Array Value).size = 32 from ZP]; kernel_rfl) ?_
  (try simp only [Act.put, List.setIfInBounds_toArray, List.set_cons_zero, List.set_cons_succ])
  refine mv_call (by rfl) (by go_simp) (oExactQuad (FP.out.ext (E1.out.trans (E2.out.trans E3.out)))) ?_
  rintro e w4 ⟨csQ, rfl, h_csQ, hx⟩
  have E4 := Lib.hid (show Ext w3 w4 from hx)
  have FQ := Lib.hid h_csQ
  have Z_csQ := h_csQ.size
  have O_csQ := h_csQ.one
  clear h_csQ
  clear hx
  refine ⟨_, rfl, ?_⟩
  (try simp only [Act.put, List.setIfInBounds_toArray, List.set_cons_zero, List.set_cons_succ])
  refine mv_val (v := .pointer (some ⟨w4.heap.size, 0, none⟩)) (w' := w4.alloc (.cells #[.bool false, .slice none 0 0, .bool false, .slice none 0 0, .bool false, .slice none 0 0, .bool false, .slice none 0 0, .bool false, .slice none 0 0, .bool false, .slice none 0 0, .bool false, .slice none 0 0, .bool false, .slice none 0 0, .bool false, .slice none 0 0, .bool false, .slice none 0 0, .bool false, .slice none 0 0, .bool false, .slice none 0 0] 32)) (by rfl) (by go_simp) ?_
  (try simp only [Act.put, List.setIfInBounds_toArray, List.set_cons_zero, List.set_cons_succ])
  refine mv_store (by rfl) _ _ _ (by rfl) w4.heap.size 32 #[.bool false, .slice none 0 0, .bool false, .slice none 0 0, .bool false, .slice none 0 0, .bool false, .slice none 0 0, .bool false, .slice none 0 0, .bool false, .slice none 0 0, .bool false, .slice none 0 0, .bool false, .slice none 0 0, .bool false, .slice none 0 0, .bool false, .slice none 0 0, .bool false, .slice none 0 0, .bool false, .slice none 0 0] csQ (by rfl) (by rfl) (Blk.new w4 _ _) (by rw [show (csQ : Array Value).size = 24 from Z_csQ]; rfl) (by rw [show (csQ : Array Value).size = 24 from Z_csQ]; kernel_rfl) O_csQ ?_
  (try simp only [Act.put, List.setIfInBounds_toArray, List.set_cons_zero, List.set_cons_succ])
  obtain ⟨xq1, xq2⟩ := new_var w4 32 #[.bool false, .slice none 0 0, .bool false, .slice none 0 0, .bool false, .slice none 0 0, .bool false, .slice none 0 0, .bool false, .slice none 0 0, .bool false, .slice none 0 0, .bool false, .slice none 0 0, .bool false, .slice none 0 0, .bool false, .slice none 0 0, .bool false, .slice none 0 0, .bool false, .slice none 0 0, .bool false, .slice none 0 0] csQ (by rw [show (csQ : Array Value).size = 24 from Z_csQ]; rfl)
  generalize (w4.alloc (.cells #[.bool false, .slice none 0 0, .bool false, .slice none 0 0, .bool false, .slice none 0 0, .bool false, .slice none 0 0, .bool false, .slice none 0 0, .bool false, .slice none 0 0, .bool false, .slice none 0 0, .bool false, .slice none 0 0, .bool false, .slice none 0 0, .bool false, .slice none 0 0, .bool false, .slice none 0 0, .bool false, .slice none 0 0] 32)).setCells w4.heap.size 0 (csQ : Array Value).toList = w5 at *
  generalize w4.heap.size = X5 at *
  have E5 := Lib.hid (show Ext w4 w5 from xq1)
  have FV5 := Lib.hid xq2
  clear xq1 xq2
  go_upto_region 4 with fail
  refine wp_region_lit ?_
  refine mv_load (by rfl) _ _ (by rfl) X5 _ csQ _ (by rfl) FV5.out Tryz.underlying32 (by rfl) (by rw [show (csQ : Array Value).size = 24 from Z_csQ]; kernel_rfl) ?_
  (try simp only [Act.put, List.setIfInBounds_toArray, List.set_cons_zero, List.set_cons_succ])
  refine mv_load (by rfl) _ _ (by rfl) bx1 _ csT _ (by rfl) (Fbx1.out.ext (E2.out.trans (E3.out.trans (E4.out.trans E5.out)))) Tryz.underlying26 (by rfl) (by rw [show (csT : Array Value).size = 4 from ZT]; kernel_rfl) ?_
  (try simp only [Act.put, List.setIfInBounds_toArray, List.set_cons_zero, List.set_cons_succ])
  refine mv_call (by rfl) (by go_simp) (iSplitQuad (FQ.out.ext E5.out) (FT.out.ext (E1.out.trans (E2.out.trans (E3.out.trans (E4.out.trans E5.out))))) (by omega) (by omega)) ?_
  rintro e w6 ⟨qa, qb, rfl, h_qa, h_qb, hx⟩
  have E6 := Lib.hid (show Ext w5 w6 from hx)
  have Fqa := Lib.hid h_qa
  have Z_qa := h_qa.size
  have O_qa := h_qa.one
  clear h_qa
  have Fqb := Lib.hid h_qb
  have Z_qb := h_qb.size
  have O_qb := h_qb.one
  clear h_qb
  clear hx
  refine ⟨_, rfl, ?_⟩
  (try simp only [Act.put, List.setIfInBounds_toArray, List.set_cons_zero, List.set_cons_succ])
  refine mv_val (v := ?vm5) (w' := w6) (by rfl) ?hm5 ?rm5
  case hm5 => (go_simp <;> with_reducible rfl)
  (try simp only [Act.put, List.setIfInBounds_toArray, List.set_cons_zero, List.set_cons_succ])
  refine mv_val (v := ?vm6) (w' := w6) (by rfl) ?hm6 ?rm6
  case hm6 => (go_simp <;> with_reducible rfl)
  (try simp only [Act.put, List.setIfInBounds_toArray, List.set_cons_zero, List.set_cons_succ])
  refine mv_val (v := ?vm7) (w' := w6) (by rfl) ?hm7 ?rm7
  case hm7 => (go_simp <;> with_reducible rfl)
  (try simp only [Act.put, List.setIfInBounds_toArray, List.set_cons_zero, List.set_cons_succ])
  obtain ⟨xq1, xq2, xq3, xq4, xq5⟩ := new_var2 w6 32 #[.bool false, .slice none 0 0, .bool false, .slice none 0 0, .bool false, .slice none 0 0, .bool false, .slice none 0 0, .bool false, .slice none 0 0, .bool false, .slice none 0 0, .bool false, .slice none 0 0, .bool false, .slice none 0 0, .bool false, .slice none 0 0, .bool false, .slice none 0 0, .bool false, .slice none 0 0, .bool false, .slice none 0 0] qa qb (by rw [Z_qa]; rfl) (by rw [Z_qb]; rfl)
  refine mv_val (v := .pointer (some ⟨w6.heap.size, 0, none⟩)) (w' := w6.alloc (.cells #[.bool false, .slice none 0 0, .bool false, .slice none 0 0, .bool false, .slice none 0 0, .bool false, .slice none 0 0, .bool false, .slice none 0 0, .bool false, .slice none 0 0, .bool false, .slice none 0 0, .bool false, .slice none 0 0, .bool false, .slice none 0 0, .bool false, .slice none 0 0, .bool false, .slice none 0 0, .bool false, .slice none 0 0] 32)) (by rfl) (by go_simp) ?_
  (try simp only [Act.put, List.setIfInBounds_toArray, List.set_cons_zero, List.set_cons_succ])
  refine mv_val (v := .pointer (some ⟨(w6.alloc (.cells #[.bool false, .slice none 0 0, .bool false, .slice none 0 0, .bool false, .slice none 0 0, .bool false, .slice none 0 0, .bool false, .slice none 0 0, .bool false, .slice none 0 0, .bool false, .slice none 0 0, .bool false, .slice none 0 0, .bool false, .slice none 0 0, .bool false, .slice none 0 0, .bool false, .slice none 0 0, .bool false, .slice none 0 0] 32)).heap.size, 0, none⟩)) (w' := (w6.alloc (.cells #[.bool false, .slice none 0 0, .bool false, .slice none 0 0, .bool false, .slice none 0 0, .bool false, .slice none 0 0, .bool false, .slice none 0 0, .bool false, .slice none 0 0, .bool false, .slice none 0 0, .bool false, .slice none 0 0, .bool false, .slice none 0 0, .bool false, .slice none 0 0, .bool false, .slice none 0 0, .bool false, .slice none 0 0] 32)).alloc (.cells #[.bool false, .slice none 0 0, .bool false, .slice none 0 0, .bool false, .slice none 0 0, .bool false, .slice none 0 0, .bool false, .slice none 0 0, .bool false, .slice none 0 0, .bool false, .slice none 0 0, .bool false, .slice none 0 0, .bool false, .slice none 0 0, .bool false, .slice none 0 0, .bool false, .slice none 0 0, .bool false, .slice none 0 0] 32)) (by rfl) (by go_simp) ?_
  (try simp only [Act.put, List.setIfInBounds_toArray, List.set_cons_zero, List.set_cons_succ])
  refine mv_store (by rfl) _ _ _ (by rfl) w6.heap.size 32 #[.bool false, .slice none 0 0, .bool false, .slice none 0 0, .bool false, .slice none 0 0, .bool false, .slice none 0 0, .bool false, .slice none 0 0, .bool false, .slice none 0 0, .bool false, .slice none 0 0, .bool false, .slice none 0 0, .bool false, .slice none 0 0, .bool false, .slice none 0 0, .bool false, .slice none 0 0, .bool false, .slice none 0 0] qa (by rfl) (by rfl) xq1 (by rw [Z_qa]; rfl) (by rw [Z_qa]; kernel_rfl) O_qa ?_
  (try simp only [Act.put, List.setIfInBounds_toArray, List.set_cons_zero, List.set_cons_succ])
  refine mv_store (by rfl) _ _ _ (by rfl) (w6.alloc (.cells #[.bool false, .slice none 0 0, .bool false, .slice none 0 0, .bool false, .slice none 0 0, .bool false, .slice none 0 0, .bool false, .slice none 0 0, .bool false, .slice none 0 0, .bool false, .slice none 0 0, .bool false, .slice none 0 0, .bool false, .slice none 0 0, .bool false, .slice none 0 0, .bool false, .slice none 0 0, .bool false, .slice none 0 0] 32)).heap.size 32 #[.bool false, .slice none 0 0, .bool false, .slice none 0 0, .bool false, .slice none 0 0, .bool false, .slice none 0 0, .bool false, .slice none 0 0, .bool false, .slice none 0 0, .bool false, .slice none 0 0, .bool false, .slice none 0 0, .bool false, .slice none 0 0, .bool false, .slice none 0 0, .bool false, .slice none 0 0, .bool false, .slice none 0 0] qb (by rfl) (by rfl) xq2 (by rw [Z_qb]; rfl) (by rw [Z_qb]; kernel_rfl) O_qb ?_
  (try simp only [Act.put, List.setIfInBounds_toArray, List.set_cons_zero, List.set_cons_succ])
  clear xq1 xq2
  generalize (((w6.alloc (.cells #[.bool false, .slice none 0 0, .bool false, .slice none 0 0, .bool false, .slice none 0 0, .bool false, .slice none 0 0, .bool false, .slice none 0 0, .bool false, .slice none 0 0, .bool false, .slice none 0 0, .bool false, .slice none 0 0, .bool false, .slice none 0 0, .bool false, .slice none 0 0, .bool false, .slice none 0 0, .bool false, .slice none 0 0] 32)).alloc (.cells #[.bool false, .slice none 0 0, .bool false, .slice none 0 0, .bool false, .slice none 0 0, .bool false, .slice none 0 0, .bool false, .slice none 0 0, .bool false, .slice none 0 0, .bool false, .slice none 0 0, .bool false, .slice none 0 0, .bool false, .slice none 0 0, .bool false, .slice none 0 0, .bool false, .slice none 0 0, .bool false, .slice none 0 0] 32)).setCells w6.heap.size 0 qa.toList).setCells (w6.alloc (.cells #[.bool false, .slice none 0 0, .bool false, .slice none 0 0, .bool false, .slice none 0 0, .bool false, .slice none 0 0, .bool false, .slice none 0 0, .bool false, .slice none 0 0, .bool false, .slice none 0 0, .bool false, .slice none 0 0, .bool false, .slice none 0 0, .bool false, .slice none 0 0, .bool false, .slice none 0 0, .bool false, .slice none 0 0] 32)).heap.size 0 qb.toList = w7 at *
  generalize (w6.alloc (.cells #[.bool false, .slice none 0 0, .bool false, .slice none 0 0, .bool false, .slice none 0 0, .bool false, .slice none 0 0, .bool false, .slice none 0 0, .bool false, .slice none 0 0, .bool false, .slice none 0 0, .bool false, .slice none 0 0, .bool false, .slice none 0 0, .bool false, .slice none 0 0, .bool false, .slice none 0 0, .bool false, .slice none 0 0] 32)).heap.size = Y7 at *
  generalize w6.heap.size = X7 at *
  have E7 := Lib.hid (show Ext w6 w7 from xq3)
  have FV6 := Lib.hid xq4
  have FV7 := Lib.hid xq5
  clear xq3 xq4 xq5
  go_upto_region 5 with fail
  refine wp_region_lit ?_
  refine mv_load (by rfl) _ _ (by rfl) X5 _ csQ _ (by rfl) (FV5.out.ext (E6.out.trans E7.out)) Tryz.underlying32 (by rfl) (by rw [show (csQ : Array Value).size = 24 from Z_csQ]; kernel_rfl) ?_
  (try simp only [Act.put, List.setIfInBounds_toArray, List.set_cons_zero, List.set_cons_succ])
  refine mv_load (by rfl) _ _ (by rfl) bx1 _ csT _ (by rfl) (Fbx1.out.ext (E2.out.trans (E3.out.trans (E4.out.trans (E5.out.trans (E6.out.trans E7.out)))))) Tryz.underlying26 (by rfl) (by rw [show (csT : Array Value).size = 4 from ZT]; kernel_rfl) ?_
  (try simp only [Act.put, List.setIfInBounds_toArray, List.set_cons_zero, List.set_cons_succ])
  refine mv_call (by rfl) (by go_simp) (rsplitQuad_any 6 _ _ A0 A1 B0 B1 C0 C1 S _ (FQ.out.ext (E5.out.trans (E6.out.trans E7.out))) (FT.out.ext (E1.out.trans (E2.out.trans (E3.out.trans (E4.out.trans (E5.out.trans (E6.out.trans E7.out))))))) (by omega) (by omega)) ?_
  rintro e w8 ⟨qc, qd, rfl, h_qc, h_qd, hx⟩
  have E8 := Lib.hid (show Ext w7 w8 from hx)
  have Fqc := Lib.hid h_qc
  have Z_qc := h_qc.size
  have O_qc := h_qc.one
  clear h_qc
  have Fqd := Lib.hid h_qd
  have Z_qd := h_qd.size
  have O_qd := h_qd.one
  clear h_qd
  clear hx
  refine ⟨_, rfl, ?_⟩
  (try simp only [Act.put, List.setIfInBounds_toArray, List.set_cons_zero, List.set_cons_succ])
  refine mv_val (v := ?vm8) (w' := w8) (by rfl) ?hm8 ?rm8
  case hm8 => (go_simp <;> with_reducible rfl)
  (try simp only [Act.put, List.setIfInBounds_toArray, List.set_cons_zero, List.set_cons_succ])
  refine mv_val (v := ?vm9) (w' := w8) (by rfl) ?hm9 ?rm9
  case hm9 => (go_simp <;> with_reducible rfl)
  (try simp only [Act.put, List.setIfInBounds_toArray, List.set_cons_zero, List.set_cons_succ])
  refine mv_val (v := ?vm10) (w' := w8) (by rfl) ?hm10 ?rm10
  case hm10 => (go_simp <;> with_reducible rfl)
  (try simp only [Act.put, List.setIfInBounds_toArray, List.set_cons_zero, List.set_cons_succ])
  obtain ⟨xq1, xq2, xq3, xq4, xq5⟩ := new_var2 w8 32 #[.bool false, .slice none 0 0, .bool false, .slice none 0 0, .bool false, .slice none 0 0, .bool false, .slice none 0 0, .bool false, .slice none 0 0, .bool false, .slice none 0 0, .bool false, .slice none 0 0, .bool false, .slice none 0 0, .bool false, .slice none 0 0, .bool false, .slice none 0 0, .bool false, .slice none 0 0, .bool false, .slice none 0 0] qc qd (by rw [Z_qc]; rfl) (by rw [Z_qd]; rfl)
  refine mv_val (v := .pointer (some ⟨w8.heap.size, 0, none⟩)) (w' := w8.alloc (.cells #[.bool false, .slice none 0 0, .bool false, .slice none 0 0, .bool false, .slice none 0 0, .bool false, .slice none 0 0, .bool false, .slice none 0 0, .bool false, .slice none 0 0, .bool false, .slice none 0 0, .bool false, .slice none 0 0, .bool false, .slice none 0 0, .bool false, .slice none 0 0, .bool false, .slice none 0 0, .bool false, .slice none 0 0] 32)) (by rfl) (by go_simp) ?_
  (try simp only [Act.put, List.setIfInBounds_toArray, List.set_cons_zero, List.set_cons_succ])
  refine mv_val (v := .pointer (some ⟨(w8.alloc (.cells #[.bool false, .slice none 0 0, .bool false, .slice none 0 0, .bool false, .slice none 0 0, .bool false, .slice none 0 0, .bool false, .slice none 0 0, .bool false, .slice none 0 0, .bool false, .slice none 0 0, .bool false, .slice none 0 0, .bool false, .slice none 0 0, .bool false, .slice none 0 0, .bool false, .slice none 0 0, .bool false, .slice none 0 0] 32)).heap.size, 0, none⟩)) (w' := (w8.alloc (.cells #[.bool false, .slice none 0 0, .bool false, .slice none 0 0, .bool false, .slice none 0 0, .bool false, .slice none 0 0, .bool false, .slice none 0 0, .bool false, .slice none 0 0, .bool false, .slice none 0 0, .bool false, .slice none 0 0, .bool false, .slice none 0 0, .bool false, .slice none 0 0, .bool false, .slice none 0 0, .bool false, .slice none 0 0] 32)).alloc (.cells #[.bool false, .slice none 0 0, .bool false, .slice none 0 0, .bool false, .slice none 0 0, .bool false, .slice none 0 0, .bool false, .slice none 0 0, .bool false, .slice none 0 0, .bool false, .slice none 0 0, .bool false, .slice none 0 0, .bool false, .slice none 0 0, .bool false, .slice none 0 0, .bool false, .slice none 0 0, .bool false, .slice none 0 0] 32)) (by rfl) (by go_simp) ?_
  (try simp only [Act.put, List.setIfInBounds_toArray, List.set_cons_zero, List.set_cons_succ])
  refine mv_store (by rfl) _ _ _ (by rfl) w8.heap.size 32 #[.bool false, .slice none 0 0, .bool false, .slice none 0 0, .bool false, .slice none 0 0, .bool false, .slice none 0 0, .bool false, .slice none 0 0, .bool false, .slice none 0 0, .bool false, .slice none 0 0, .bool false, .slice none 0 0, .bool false, .slice none 0 0, .bool false, .slice none 0 0, .bool false, .slice none 0 0, .bool false, .slice none 0 0] qc (by rfl) (by rfl) xq1 (by rw [Z_qc]; rfl) (by rw [Z_qc]; kernel_rfl) O_qc ?_
  (try simp only [Act.put, List.setIfInBounds_toArray, List.set_cons_zero, List.set_cons_succ])
  refine mv_store (by rfl) _ _ _ (by rfl) (w8.alloc (.cells #[.bool false, .slice none 0 0, .bool false, .slice none 0 0, .bool false, .slice none 0 0, .bool false, .slice none 0 0, .bool false, .slice none 0 0, .bool false, .slice none 0 0, .bool false, .slice none 0 0, .bool false, .slice none 0 0, .bool false, .slice none 0 0, .bool false, .slice none 0 0, .bool false, .slice none 0 0, .bool false, .slice none 0 0] 32)).heap.size 32 #[.bool false, .slice none 0 0, .bool false, .slice none 0 0, .bool false, .slice none 0 0, .bool false, .slice none 0 0, .bool false, .slice none 0 0, .bool false, .slice none 0 0, .bool false, .slice none 0 0, .bool false, .slice none 0 0, .bool false, .slice none 0 0, .bool false, .slice none 0 0, .bool false, .slice none 0 0, .bool false, .slice none 0 0] qd (by rfl) (by rfl) xq2 (by rw [Z_qd]; rfl) (by rw [Z_qd]; kernel_rfl) O_qd ?_
  (try simp only [Act.put, List.setIfInBounds_toArray, List.set_cons_zero, List.set_cons_succ])
  clear xq1 xq2
  generalize (((w8.alloc (.cells #[.bool false, .slice none 0 0, .bool false, .slice none 0 0, .bool false, .slice none 0 0, .bool false, .slice none 0 0, .bool false, .slice none 0 0, .bool false, .slice none 0 0, .bool false, .slice none 0 0, .bool false, .slice none 0 0, .bool false, .slice none 0 0, .bool false, .slice none 0 0, .bool false, .slice none 0 0, .bool false, .slice none 0 0] 32)).alloc (.cells #[.bool false, .slice none 0 0, .bool false, .slice none 0 0, .bool false, .slice none 0 0, .bool false, .slice none 0 0, .bool false, .slice none 0 0, .bool false, .slice none 0 0, .bool false, .slice none 0 0, .bool false, .slice none 0 0, .bool false, .slice none 0 0, .bool false, .slice none 0 0, .bool false, .slice none 0 0, .bool false, .slice none 0 0] 32)).setCells w8.heap.size 0 qc.toList).setCells (w8.alloc (.cells #[.bool false, .slice none 0 0, .bool false, .slice none 0 0, .bool false, .slice none 0 0, .bool false, .slice none 0 0, .bool false, .slice none 0 0, .bool false, .slice none 0 0, .bool false, .slice none 0 0, .bool false, .slice none 0 0, .bool false, .slice none 0 0, .bool false, .slice none 0 0, .bool false, .slice none 0 0, .bool false, .slice none 0 0] 32)).heap.size 0 qd.toList = w9 at *
  generalize (w8.alloc (.cells #[.bool false, .slice none 0 0, .bool false, .slice none 0 0, .bool false, .slice none 0 0, .bool false, .slice none 0 0, .bool false, .slice none 0 0, .bool false, .slice none 0 0, .bool false, .slice none 0 0, .bool false, .slice none 0 0, .bool false, .slice none 0 0, .bool false, .slice none 0 0, .bool false, .slice none 0 0, .bool false, .slice none 0 0] 32)).heap.size = Y9 at *
  generalize w8.heap.size = X9 at *
  have E9 := Lib.hid (show Ext w8 w9 from xq3)
  have FV8 := Lib.hid xq4
  have FV9 := Lib.hid xq5
  clear xq3 xq4 xq5
  go_upto_region 6 with fail
  refine wp_region_lit ?_
  refine mv_load (by rfl) _ _ (by rfl) w.heap.size _ csP _ (by rfl) (Fbx0.out.ext (E2.out.trans (E3.out.trans (E4.out.trans (E5.out.trans (E6.out.trans (E7.out.trans (E8.out.trans E9.out)))))))) Tryz.underlying28 (by rfl) (by rw [show (csP : Array Value).size = 32 from ZP]; kernel_rfl) ?_
  (try simp only [Act.put, List.setIfInBounds_toArray, List.set_cons_zero, List.set_cons_succ])
  refine mv_load (by rfl) _ _ (by rfl) bx1 _ csT _ (by rfl) (Fbx1.out.ext (E2.out.trans (E3.out.trans (E4.out.trans (E5.out.trans (E6.out.trans (E7.out.trans (E8.out.trans E9.out)))))))) Tryz.underlying26 (by rfl) (by rw [show (csT : Array Value).size = 4 from ZT]; kernel_rfl) ?_
  (try simp only [Act.put, List.setIfInBounds_toArray, List.set_cons_zero, List.set_cons_succ])
  refine mv_call (by rfl) (by go_simp) (iSplitCubic (FP.out.ext (E1.out.trans (E2.out.trans (E3.out.trans (E4.out.trans (E5.out.trans (E6.out.trans (E7.out.trans (E8.out.trans E9.out))))))))) (FT.out.ext (E1.out.trans (E2.out.trans (E3.out.trans (E4.out.trans (E5.out.trans (E6.out.trans (E7.out.trans (E8.out.trans E9.out))))))))) (by omega) (by omega)) ?_
  rintro e w10 ⟨ca, cb, rfl, h_ca, h_cb, hx⟩
  have E10 := Lib.hid (show Ext w9 w10 from hx)
  have Fca := Lib.hid h_ca
  have Z_ca := h_ca.size
  have O_ca := h_ca.one
  clear h_ca
  have Fcb := Lib.hid h_cb
  have Z_cb := h_cb.size
  have O_cb := h_cb.one
  clear h_cb
  clear hx
  refine ⟨_, rfl, ?_⟩
  (try simp only [Act.put, List.setIfInBounds_toArray, List.set_cons_zero, List.set_cons_succ])
  refine mv_val (v := ?vm11) (w' := w10) (by rfl) ?hm11 ?rm11
  case hm11 => (go_simp <;> with_reducible rfl)
  (try simp only [Act.put, List.setIfInBounds_toArray, List.set_cons_zero, List.set_cons_succ])
  refine mv_val (v := ?vm12) (w' := w10) (by rfl) ?hm12 ?rm12
  case hm12 => (go_simp <;> with_reducible rfl)
  (try simp only [Act.put, List.setIfInBounds_toArray, List.set_cons_zero, List.set_cons_succ])
  refine mv_val (v := ?vm13) (w' := w10) (by rfl) ?hm13 ?rm13
  case hm13 => (go_simp <;> with_reducible rfl)
  (try simp only [Act.put, List.setIfInBounds_toArray, List.set_cons_zero, List.set_cons_succ])
  obtain ⟨xq1, xq2, xq3, xq4, xq5⟩ := new_var2 w10 28 #[.bool false, .slice none 0 0, .bool false, .slice none 0 0, .bool false, .slice none 0 0, .bool false, .slice none 0 0, .bool false, .slice none 0 0, .bool false, .slice none 0 0, .bool false, .slice none 0 0, .bool false, .slice none 0 0, .bool false, .slice none 0 0, .bool false, .slice none 0 0, .bool false, .slice none 0 0, .bool false, .slice none 0 0, .bool false, .slice none 0 0, .bool false, .slice none 0 0, .bool false, .slice none 0 0, .bool false, .slice none 0 0] ca cb (by rw [Z_ca]; rfl) (by rw [Z_cb]; rfl)
  refine mv_val (v := .pointer (some ⟨w10.heap.size, 0, none⟩)) (w' := w10.alloc (.cells #[.bool false, .slice none 0 0, .bool false, .slice none 0 0, .bool false, .slice none 0 0, .bool false, .slice none 0 0, .bool false, .slice none 0 0, .bool false, .slice none 0 0, .bool false, .slice none 0 0, .bool false, .slice none 0 0, .bool false, .slice none 0 0, .bool false, .slice none 0 0, .bool false, .slice none 0 0, .bool false, .slice none 0 0, .bool false, .slice none 0 0, .bool false, .slice none 0 0, .bool false, .slice none 0 0, .bool false, .slice none 0 0] 28)) (by rfl) (by go_simp) ?_
  (try simp only [Act.put, List.setIfInBounds_toArray, List.set_cons_zero, List.set_cons_succ])
  refine mv_val (v := .pointer (some ⟨(w10.alloc (.cells #[.bool false, .slice none 0 0, .bool false, .slice none 0 0, .bool false, .slice none 0 0, .bool false, .slice none 0 0, .bool false, .slice none 0 0, .bool false, .slice none 0 0, .bool false, .slice none 0 0, .bool false, .slice none 0 0, .bool false, .slice none 0 0, .bool false, .slice none 0 0, .bool false, .slice none 0 0, .bool false, .slice none 0 0, .bool false, .slice none 0 0, .bool false, .slice none 0 0, .bool false, .slice none 0 0, .bool false, .slice none 0 0] 28)).heap.size, 0, none⟩)) (w' := (w10.alloc (.cells #[.bool false, .slice none 0 0, .bool false, .slice none 0 0, .bool false, .slice none 0 0, .bool false, .slice none 0 0, .bool false, .slice none 0 0, .bool false, .slice none 0 0, .bool false, .slice none 0 0, .bool false, .slice none 0 0, .bool false, .slice none 0 0, .bool false, .slice none 0 0, .bool false, .slice none 0 0, .bool false, .slice none 0 0, .bool false, .slice none 0 0, .bool false, .slice none 0 0, .bool false, .slice none 0 0, .bool false, .slice none 0 0] 28)).alloc (.cells #[.bool false, .slice none 0 0, .bool false, .slice none 0 0, .bool false, .slice none 0 0, .bool false, .slice none 0 0, .bool false, .slice none 0 0, .bool false, .slice none 0 0, .bool false, .slice none 0 0, .bool false, .slice none 0 0, .bool false, .slice none 0 0, .bool false, .slice none 0 0, .bool false, .slice none 0 0, .bool false, .slice none 0 0, .bool false, .slice none 0 0, .bool false, .slice none 0 0, .bool false, .slice none 0 0, .bool false, .slice none 0 0] 28)) (by rfl) (by go_simp) ?_
  (try simp only [Act.put, List.setIfInBounds_toArray, List.set_cons_zero, List.set_cons_succ])
  refine mv_store (by rfl) _ _ _ (by rfl) w10.heap.size 28 #[.bool false, .slice none 0 0, .bool false, .slice none 0 0, .bool false, .slice none 0 0, .bool false, .slice none 0 0, .bool false, .slice none 0 0, .bool false, .slice none 0 0, .bool false, .slice none 0 0, .bool false, .slice none 0 0, .bool false, .slice none 0 0, .bool false, .slice none 0 0, .bool false, .slice none 0 0, .bool false, .slice none 0 0, .bool false, .slice none 0 0, .bool false, .slice none 0 0, .bool false, .slice none 0 0, .bool false, .slice none 0 0] ca (by rfl) (by rfl) xq1 (by rw [Z_ca]; rfl) (by rw [Z_ca]; kernel_rfl) O_ca ?_
  (try simp only [Act.put, List.setIfInBounds_toArray, List.set_cons_zero, List.set_cons_succ])
  refine mv_store (by rfl) _ _ _ (by rfl) (w10.alloc (.cells #[.bool false, .slice none 0 0, .bool false, .slice none 0 0, .bool false, .slice none 0 0, .bool false, .slice none 0 0, .bool false, .slice none 0 0, .bool false, .slice none 0 0, .bool false, .slice none 0 0, .bool false, .slice none 0 0, .bool false, .slice none 0 0, .bool false, .slice none 0 0, .bool false, .slice none 0 0, .bool false, .slice none 0 0, .bool false, .slice none 0 0, .bool false, .slice none 0 0, .bool false, .slice none 0 0, .bool false, .slice none 0 0] 28)).heap.size 28 #[.bool false, .slice none 0 0, .bool false, .slice none 0 0, .bool false, .slice none 0 0, .bool false, .slice none 0 0, .bool false, .slice none 0 0, .bool false, .slice none 0 0, .bool false, .slice none 0 0, .bool false, .slice none 0 0, .bool false, .slice none 0 0, .bool false, .slice none 0 0, .bool false, .slice none 0 0, .bool false, .slice none 0 0, .bool false, .slice none 0 0, .bool false, .slice none 0 0, .bool false, .slice none 0 0, .bool false, .slice none 0 0] cb (by rfl) (by rfl) xq2 (by rw [Z_cb]; rfl) (by rw [Z_cb]; kernel_rfl) O_cb ?_
  (try simp only [Act.put, List.setIfInBounds_toArray, List.set_cons_zero, List.set_cons_succ])
  clear xq1 xq2
  generalize (((w10.alloc (.cells #[.bool false, .slice none 0 0, .bool false, .slice none 0 0, .bool false, .slice none 0 0, .bool false, .slice none 0 0, .bool false, .slice none 0 0, .bool false, .slice none 0 0, .bool false, .slice none 0 0, .bool false, .slice none 0 0, .bool false, .slice none 0 0, .bool false, .slice none 0 0, .bool false, .slice none 0 0, .bool false, .slice none 0 0, .bool false, .slice none 0 0, .bool false, .slice none 0 0, .bool false, .slice none 0 0, .bool false, .slice none 0 0] 28)).alloc (.cells #[.bool false, .slice none 0 0, .bool false, .slice none 0 0, .bool false, .slice none 0 0, .bool false, .slice none 0 0, .bool false, .slice none 0 0, .bool false, .slice none 0 0, .bool false, .slice none 0 0, .bool false, .slice none 0 0, .bool false, .slice none 0 0, .bool false, .slice none 0 0, .bool false, .slice none 0 0, .bool false, .slice none 0 0, .bool false, .slice none 0 0, .bool false, .slice none 0 0, .bool false, .slice none 0 0, .bool false, .slice none 0 0] 28)).setCells w10.heap.size 0 ca.toList).setCells (w10.alloc (.cells #[.bool false, .slice none 0 0, .bool false, .slice none 0 0, .bool false, .slice none 0 0, .bool false, .slice none 0 0, .bool false, .slice none 0 0, .bool false, .slice none 0 0, .bool false, .slice none 0 0, .bool false, .slice none 0 0, .bool false, .slice none 0 0, .bool false, .slice none 0 0, .bool false, .slice none 0 0, .bool false, .slice none 0 0, .bool false, .slice none 0 0, .bool false, .slice none 0 0, .bool false, .slice none 0 0, .bool false, .slice none 0 0] 28)).heap.size 0 cb.toList = w11 at *
  generalize (w10.alloc (.cells #[.bool false, .slice none 0 0, .bool false, .slice none 0 0, .bool false, .slice none 0 0, .bool false, .slice none 0 0, .bool false, .slice none 0 0, .bool false, .slice none 0 0, .bool false, .slice none 0 0, .bool false, .slice none 0 0, .bool false, .slice none 0 0, .bool false, .slice none 0 0, .bool false, .slice none 0 0, .bool false, .slice none 0 0, .bool false, .slice none 0 0, .bool false, .slice none 0 0, .bool false, .slice none 0 0, .bool false, .slice none 0 0] 28)).heap.size = Y11 at *
  generalize w10.heap.size = X11 at *
  have E11 := Lib.hid (show Ext w10 w11 from xq3)
  have FV10 := Lib.hid xq4
  have FV11 := Lib.hid xq5
  clear xq3 xq4 xq5
  go_upto_region 7 with fail
  refine wp_region_lit ?_
  refine mv_load (by rfl) _ _ (by rfl) w.heap.size _ csP _ (by rfl) (Fbx0.out.ext (E2.out.trans (E3.out.trans (E4.out.trans (E5.out.trans (E6.out.trans (E7.out.trans (E8.out.trans (E9.out.trans (E10.out.trans E11.out)))))))))) Tryz.underlying28 (by rfl) (by rw [show (csP : Array Value).size = 32 from ZP]; kernel_rfl) ?_
  (try simp only [Act.put, List.setIfInBounds_toArray, List.set_cons_zero, List.set_cons_succ])
  refine mv_load (by rfl) _ _ (by rfl) bx1 _ csT _ (by rfl) (Fbx1.out.ext (E2.out.trans (E3.out.trans (E4.out.trans (E5.out.trans (E6.out.trans (E7.out.trans (E8.out.trans (E9.out.trans (E10.out.trans E11.out)))))))))) Tryz.underlying26 (by rfl) (by rw [show (csT : Array Value).size = 4 from ZT]; kernel_rfl) ?_
  (try simp only [Act.put, List.setIfInBounds_toArray, List.set_cons_zero, List.set_cons_succ])
  refine mv_call (by rfl) (by go_simp) (rsplitCubic_any 6 _ _ A0 A1 B0 B1 C0 C1 D0 D1 S _ (FP.out.ext (E1.out.trans (E2.out.trans (E3.out.trans (E4.out.trans (E5.out.trans (E6.out.trans (E7.out.trans (E8.out.trans (E9.out.trans (E10.out.trans E11.out))))))))))) (FT.out.ext (E1.out.trans (E2.out.trans (E3.out.trans (E4.out.trans (E5.out.trans (E6.out.trans (E7.out.trans (E8.out.trans (E9.out.trans (E10.out.trans E11.out))))))))))) (by omega) (by omega)) ?_
  rintro e w12 ⟨cc, cd, rfl, h_cc, h_cd, hx⟩
  have E12 := Lib.hid (show Ext w11 w12 from hx)
  have Fcc := Lib.hid h_cc
  have Z_cc := h_cc.size
  have O_cc := h_cc.one
  clear h_cc
  have Fcd := Lib.hid h_cd
  have Z_cd := h_cd.size
  have O_cd := h_cd.one
  clear h_cd
  clear hx
  refine ⟨_, rfl, ?_⟩
  (try simp only [Act.put, List.setIfInBounds_toArray, List.set_cons_zero, List.set_cons_succ])
  refine mv_val (v := ?vm14) (w' := w12) (by rfl) ?hm14 ?rm14
  case hm14 => (go_simp <;> with_reducible rfl)
  (try simp only [Act.put, List.setIfInBounds_toArray, List.set_cons_zero, List.set_cons_succ])
  refine mv_val (v := ?vm15) (w' := w12) (by rfl) ?hm15 ?rm15
  case hm15 => (go_simp <;> with_reducible rfl)
  (try simp only [Act.put, List.setIfInBounds_toArray, List.set_cons_zero, List.set_cons_succ])
  refine mv_val (v := ?vm16) (w' := w12) (by rfl) ?hm16 ?rm16
  case hm16 => (go_simp <;> with_reducible rfl)
  (try simp only [Act.put, List.setIfInBounds_toArray, List.set_cons_zero, List.set_cons_succ])
  obtain ⟨xq1, xq2, xq3, xq4, xq5⟩ := new_var2 w12 28 #[.bool false, .slice none 0 0, .bool false, .slice none 0 0, .bool false, .slice none 0 0, .bool false, .slice none 0 0, .bool false, .slice none 0 0, .bool false, .slice none 0 0, .bool false, .slice none 0 0, .bool false, .slice none 0 0, .bool false, .slice none 0 0, .bool false, .slice none 0 0, .bool false, .slice none 0 0, .bool false, .slice none 0 0, .bool false, .slice none 0 0, .bool false, .slice none 0 0, .bool false, .slice none 0 0, .bool false, .slice none 0 0] cc cd (by rw [Z_cc]; rfl) (by rw [Z_cd]; rfl)
  refine mv_val (v := .pointer (some ⟨w12.heap.size, 0, none⟩)) (w' := w12.alloc (.cells #[.bool false, .slice none 0 0, .bool false, .slice none 0 0, .bool false, .slice none 0 0, .bool false, .slice none 0 0, .bool false, .slice none 0 0, .bool false, .slice none 0 0, .bool false, .slice none 0 0, .bool false, .slice none 0 0, .bool false, .slice none 0 0, .bool false, .slice none 0 0, .bool false, .slice none 0 0, .bool false, .slice none 0 0, .bool false, .slice none 0 0, .bool false, .slice none 0 0, .bool false, .slice none 0 0, .bool false, .slice none 0 0] 28)) (by rfl) (by go_simp) ?_
  (try simp only [Act.put, List.setIfInBounds_toArray, List.set_cons_zero, List.set_cons_succ])
  refine mv_val (v := .pointer (some ⟨(w12.alloc (.cells #[.bool false, .slice none 0 0, .bool false, .slice none 0 0, .bool false, .slice none 0 0, .bool false, .slice none 0 0, .bool false, .slice none 0 0, .bool false, .slice none 0 0, .bool false, .slice none 0 0, .bool false, .slice none 0 0, .bool false, .slice none 0 0, .bool false, .slice none 0 0, .bool false, .slice none 0 0, .bool false, .slice none 0 0, .bool false, .slice none 0 0, .bool false, .slice none 0 0, .bool false, .slice none 0 0, .bool false, .slice none 0 0] 28)).heap.size, 0, none⟩)) (w' := (w12.alloc (.cells #[.bool false, .slice none 0 0, .bool false, .slice none 0 0, .bool false, .slice none 0 0, .bool false, .slice none 0 0, .bool false, .slice none 0 0, .bool false, .slice none 0 0, .bool false, .slice none 0 0, .bool false, .slice none 0 0, .bool false, .slice none 0 0, .bool false, .slice none 0 0, .bool false, .slice none 0 0, .bool false, .slice none 0 0, .bool false, .slice none 0 0, .bool false, .slice none 0 0, .bool false, .slice none 0 0, .bool false, .slice none 0 0] 28)).alloc (.cells #[.bool false, .slice none 0 0, .bool false, .slice none 0 0, .bool false, .slice none 0 0, .bool false, .slice none 0 0, .bool false, .slice none 0 0, .bool false, .slice none 0 0, .bool false, .slice none 0 0, .bool false, .slice none 0 0, .bool false, .slice none 0 0, .bool false, .slice none 0 0, .bool false, .slice none 0 0, .bool false, .slice none 0 0, .bool false, .slice none 0 0, .bool false, .slice none 0 0, .bool false, .slice none 0 0, .bool false, .slice none 0 0] 28)) (by rfl) (by go_simp) ?_
  (try simp only [Act.put, List.setIfInBounds_toArray, List.set_cons_zero, List.set_cons_succ])
  refine mv_store (by rfl) _ _ _ (by rfl) w12.heap.size 28 #[.bool false, .slice none 0 0, .bool false, .slice none 0 0, .bool false, .slice none 0 0, .bool false, .slice none 0 0, .bool false, .slice none 0 0, .bool false, .slice none 0 0, .bool false, .slice none 0 0, .bool false, .slice none 0 0, .bool false, .slice none 0 0, .bool false, .slice none 0 0, .bool false, .slice none 0 0, .bool false, .slice none 0 0, .bool false, .slice none 0 0, .bool false, .slice none 0 0, .bool false, .slice none 0 0, .bool false, .slice none 0 0] cc (by rfl) (by rfl) xq1 (by rw [Z_cc]; rfl) (by rw [Z_cc]; kernel_rfl) O_cc ?_
  (try simp only [Act.put, List.setIfInBounds_toArray, List.set_cons_zero, List.set_cons_succ])
  refine mv_store (by rfl) _ _ _ (by rfl) (w12.alloc (.cells #[.bool false, .slice none 0 0, .bool false, .slice none 0 0, .bool false, .slice none 0 0, .bool false, .slice none 0 0, .bool false, .slice none 0 0, .bool false, .slice none 0 0, .bool false, .slice none 0 0, .bool false, .slice none 0 0, .bool false, .slice none 0 0, .bool false, .slice none 0 0, .bool false, .slice none 0 0, .bool false, .slice none 0 0, .bool false, .slice none 0 0, .bool false, .slice none 0 0, .bool false, .slice none 0 0, .bool false, .slice none 0 0] 28)).heap.size 28 #[.bool false, .slice none 0 0, .bool false, .slice none 0 0, .bool false, .slice none 0 0, .bool false, .slice none 0 0, .bool false, .slice none 0 0, .bool false, .slice none 0 0, .bool false, .slice none 0 0, .bool false, .slice none 0 0, .bool false, .slice none 0 0, .bool false, .slice none 0 0, .bool false, .slice none 0 0, .bool false, .slice none 0 0, .bool false, .slice none 0 0, .bool false, .slice none 0 0, .bool false, .slice none 0 0, .bool false, .slice none 0 0] cd (by rfl) (by rfl) xq2 (by rw [Z_cd]; rfl) (by rw [Z_cd]; kernel_rfl) O_cd ?_
  (try simp only [Act.put, List.setIfInBounds_toArray, List.set_cons_zero, List.set_cons_succ])
  clear xq1 xq2
  generalize (((w12.alloc (.cells #[.bool false, .slice none 0 0, .bool false, .slice none 0 0, .bool false, .slice none 0 0, .bool false, .slice none 0 0, .bool false, .slice none 0 0, .bool false, .slice none 0 0, .bool false, .slice none 0 0, .bool false, .slice none 0 0, .bool false, .slice none 0 0, .bool false, .slice none 0 0, .bool false, .slice none 0 0, .bool false, .slice none 0 0, .bool false, .slice none 0 0, .bool false, .slice none 0 0, .bool false, .slice none 0 0, .bool false, .slice none 0 0] 28)).alloc (.cells #[.bool false, .slice none 0 0, .bool false, .slice none 0 0, .bool false, .slice none 0 0, .bool false, .slice none 0 0, .bool false, .slice none 0 0, .bool false, .slice none 0 0, .bool false, .slice none 0 0, .bool false, .slice none 0 0, .bool false, .slice none 0 0, .bool false, .slice none 0 0, .bool false, .slice none 0 0, .bool false, .slice none 0 0, .bool false, .slice none 0 0, .bool false, .slice none 0 0, .bool false, .slice none 0 0, .bool false, .slice none 0 0] 28)).setCells w12.heap.size 0 cc.toList).setCells (w12.alloc (.cells #[.bool false, .slice none 0 0, .bool false, .slice none 0 0, .bool false, .slice none 0 0, .bool false, .slice none 0 0, .bool false, .slice none 0 0, .bool false, .slice none 0 0, .bool false, .slice none 0 0, .bool false, .slice none 0 0, .bool false, .slice none 0 0, .bool false, .slice none 0 0, .bool false, .slice none 0 0, .bool false, .slice none 0 0, .bool false, .slice none 0 0, .bool false, .slice none 0 0, .bool false, .slice none 0 0, .bool false, .slice none 0 0] 28)).heap.size 0 cd.toList = w13 at *
  generalize (w12.alloc (.cells #[.bool false, .slice none 0 0, .bool false, .slice none 0 0, .bool false, .slice none 0 0, .bool false, .slice none 0 0, .bool false, .slice none 0 0, .bool false, .slice none 0 0, .bool false, .slice none 0 0, .bool false, .slice none 0 0, .bool false, .slice none 0 0, .bool false, .slice none 0 0, .bool false, .slice none 0 0, .bool false, .slice none 0 0, .bool false, .slice none 0 0, .bool false, .slice none 0 0, .bool false, .slice none 0 0, .bool false, .slice none 0 0] 28)).heap.size = Y13 at *
  generalize w12.heap.size = X13 at *
  have E13 := Lib.hid (show Ext w12 w13 from xq3)
  have FV12 := Lib.hid xq4
  have FV13 := Lib.hid xq5
  clear xq3 xq4 xq5
  have l00 := rl_lerpV (a := A0) (b := B0) (t := S) (L := 6) ra0 rb0 hrS
  have l10 := rl_lerpV (a := B0) (b := C0) (t := S) (L := 6) rb0 rc0 hrS
  have l20 := rl_lerpV (a := C0) (b := D0) (t := S) (L := 6) rc0 rd0 hrS
  have m00 := rl_lerpV (a := (lerpV A0 B0 S)) (b := (lerpV B0 C0 S)) (t := S) (L := 26) l00 l10 (by omega)
  have m10 := rl_lerpV (a := (lerpV B0 C0 S)) (b := (lerpV C0 D0 S)) (t := S) (L := 26) l10 l20 (by omega)
  have n0 := rl_lerpV (a := (lerpV (lerpV A0 B0 S) (lerpV B0 C0 S) S)) (b := (lerpV (lerpV B0 C0 S) (lerpV C0 D0 S) S)) (t := S) (L := 106) m00 m10 (by omega)
  have ea0 := rl_lerpV (a := A0) (b := B0) (t := (2 : Rat) / 3) (L := 6) ra0 rb0 (Nat.le_trans rl23 (by omega))
  have eb0 := rl_lerpV (a := C0) (b := B0) (t := (2 : Rat) / 3) (L := 6) rc0 rb0 (Nat.le_trans rl23 (by omega))
  have l01 := rl_lerpV (a := A1) (b := B1) (t := S) (L := 6) ra1 rb1 hrS
  have l11 := rl_lerpV (a := B1) (b := C1) (t := S) (L := 6) rb1 rc1 hrS
  have l21 := rl_lerpV (a := C1) (b := D1) (t := S) (L := 6) rc1 rd1 hrS
  have m01 := rl_lerpV (a := (lerpV A1 B1 S)) (b := (lerpV B1 C1 S)) (t := S) (L := 26) l01 l11 (by omega)
  have m11 := rl_lerpV (a := (lerpV B1 C1 S)) (b := (lerpV C1 D1 S)) (t := S) (L := 26) l11 l21 (by omega)
  have n1 := rl_lerpV (a := (lerpV (lerpV A1 B1 S) (lerpV B1 C1 S) S)) (b := (lerpV (lerpV B1 C1 S) (lerpV C1 D1 S) S)) (t := S) (L := 106) m01 m11 (by omega)
  have ea1 := rl_lerpV (a := A1) (b := B1) (t := (2 : Rat) / 3) (L := 6) ra1 rb1 (Nat.le_trans rl23 (by omega))
  have eb1 := rl_lerpV (a := C1) (b := B1) (t := (2 : Rat) / 3) (L := 6) rc1 rb1 (Nat.le_trans rl23 (by omega))
  go_upto_region 8 with fail
  refine wp_region_held_drew (S := fun x => Ext w13 x) (by kernel_rfl) (Ext.refl _).drew (fun _ => ?_)
  have E14 := Lib.hid (show Ext w13 w13.drew from (Ext.refl _).drew)
  refine md_load (i := 0) (listed' := #[true, false, false, false, false, false, false, false, false, false, false, false, false, false, false, false, false, false, false, false, false, false, false, false, false, false, false, false, false, false, false, false, false, false, false, false, false, false, false, false, false, false, false, false, false, false, false]) (by rfl) (by kernel_rfl) (by kernel_rfl) (by kernel_rfl) _ _ (by rfl) X5 _ csQ _ (by intro _ _ _ h; exact h) (by rfl) (by rfl) (fun x hx => ((FV5.out.ext (E6.out.trans (E7.out.trans (E8.out.trans (E9.out.trans (E10.out.trans (E11.out.trans (E12.out.trans E13.out))))))))).ext hx) Tryz.underlying32 (by rfl) (by rw [show (csQ : Array Value).size = 24 from Z_csQ]; kernel_rfl) E14.out (by kernel_rfl) ?_
  (try simp only [Act.put, List.setIfInBounds_toArray, List.set_cons_zero, List.set_cons_succ])
  refine md_load (i := 1) (listed' := #[true, true, false, false, false, false, false, false, false, false, false, false, false, false, false, false, false, false, false, false, false, false, false, false, false, false, false, false, false, false, false, false, false, false, false, false, false, false, false, false, false, false, false, false, false, false, false]) (by rfl) (by kernel_rfl) (by kernel_rfl) (by kernel_rfl) _ _ (by rfl) bx1 _ csT _ (by intro _ _ _ h; exact h) (by rfl) (by rfl) (fun x hx => ((Fbx1.out.ext (E2.out.trans (E3.out.trans (E4.out.trans (E5.out.trans (E6.out.trans (E7.out.trans (E8.out.trans (E9.out.trans (E10.out.trans (E11.out.trans (E12.out.trans E13.out))))))))))))).ext hx) Tryz.underlying26 (by rfl) (by rw [show (csT : Array Value).size = 4 from ZT]; kernel_rfl) E14.out (by kernel_rfl) ?_
  (try simp only [Act.put, List.setIfInBounds_toArray, List.set_cons_zero, List.set_cons_succ])
  refine md_load (i := 3) (listed' := #[true, true, false, true, false, false, false, false, false, false, false, false, false, false, false, false, false, false, false, false, false, false, false, false, false, false, false, false, false, false, false, false, false, false, false, false, false, false, false, false, false, false, false, false, false, false, false]) (by rfl) (by kernel_rfl) (by kernel_rfl) (by kernel_rfl) _ _ (by rfl) X5 _ csQ _ (by intro _ _ _ h; exact h) (by rfl) (by rfl) (fun x hx => ((FV5.out.ext (E6.out.trans (E7.out.trans (E8.out.trans (E9.out.trans (E10.out.trans (E11.out.trans (E12.out.trans E13.out))))))))).ext hx) Tryz.underlying32 (by rfl) (by rw [show (csQ : Array Value).size = 24 from Z_csQ]; kernel_rfl) E14.out (by kernel_rfl) ?_
  (try simp only [Act.put, List.setIfInBounds_toArray, List.set_cons_zero, List.set_cons_succ])
  refine md_load (i := 4) (listed' := #[true, true, false, true, true, false, false, false, false, false, false, false, false, false, false, false, false, false, false, false, false, false, false, false, false, false, false, false, false, false, false, false, false, false, false, false, false, false, false, false, false, false, false, false, false, false, false]) (by rfl) (by kernel_rfl) (by kernel_rfl) (by kernel_rfl) _ _ (by rfl) bx1 _ csT _ (by intro _ _ _ h; exact h) (by rfl) (by rfl) (fun x hx => ((Fbx1.out.ext (E2.out.trans (E3.out.trans (E4.out.trans (E5.out.trans (E6.out.trans (E7.out.trans (E8.out.trans (E9.out.trans (E10.out.trans (E11.out.trans (E12.out.trans E13.out))))))))))))).ext hx) Tryz.underlying26 (by rfl) (by rw [show (csT : Array Value).size = 4 from ZT]; kernel_rfl) E14.out (by kernel_rfl) ?_
  (try simp only [Act.put, List.setIfInBounds_toArray, List.set_cons_zero, List.set_cons_succ])
  refine md_call (i := 2) (listed' := #[true, true, true, true, true, false, false, false, false, false, false, false, false, false, false, false, false, false, false, false, false, false, false, false, false, false, false, false, false, false, false, false, false, false, false, false, false, false, false, false, false, false, false, false, false, false, false]) (by rfl) (by kernel_rfl) (by rfl) (by go_simp) (oEvalQuad (FQ.out.ext (E5.out.trans (E6.out.trans (E7.out.trans (E8.out.trans (E9.out.trans (E10.out.trans (E11.out.trans (E12.out.trans (E13.out.trans E14.out)))))))))) (FT.out.ext (E1.out.trans (E2.out.trans (E3.out.trans (E4.out.trans (E5.out.trans (E6.out.trans (E7.out.trans (E8.out.trans (E9.out.trans (E10.out.trans (E11.out.trans (E12.out.trans (E13.out.trans E14.out)))))))))))))) (by omega) (by omega)) (by kernel_rfl) ?_
  rintro e w15 ⟨pa, rfl, h_pa, hx⟩
  have E15 := Lib.hid (show Ext w13.drew w15 from hx)
  have Fpa := Lib.hid h_pa
  clear h_pa
  clear hx
  refine ⟨_, rfl, (E14.out.trans E15.out), ?_⟩
  (try simp only [Act.put, List.setIfInBounds_toArray, List.set_cons_zero, List.set_cons_succ])
  refine md_call (i := 5) (listed' := #[true, true, true, true, true, true, false, false, false, false, false, false, false, false, false, false, false, false, false, false, false, false, false, false, false, false, false, false, false, false, false, false, false, false, false, false, false, false, false, false, false, false, false, false, false, false, false]) (by rfl) (by kernel_rfl) (by rfl) (by go_simp) (revalQuad_any 6 _ _ A0 A1 B0 B1 C0 C1 S _ (FQ.out.ext (E5.out.trans (E6.out.trans (E7.out.trans (E8.out.trans (E9.out.trans (E10.out.trans (E11.out.trans (E12.out.trans (E13.out.trans (E14.out.trans E15.out))))))))))) (FT.out.ext (E1.out.trans (E2.out.trans (E3.out.trans (E4.out.trans (E5.out.trans (E6.out.trans (E7.out.trans (E8.out.trans (E9.out.trans (E10.out.trans (E11.out.trans (E12.out.trans (E13.out.trans (E14.out.trans E15.out))))))))))))))) (by omega) (by omega)) (by kernel_rfl) ?_
  rintro e w16 ⟨pb, rfl, h_pb, hx⟩
  have E16 := Lib.hid (show Ext w15 w16 from hx)
  have Fpb := Lib.hid h_pb
  clear h_pb
  clear hx
  refine ⟨_, rfl, (E14.out.trans (E15.out.trans E16.out)), ?_⟩
  (try simp only [Act.put, List.setIfInBounds_toArray, List.set_cons_zero, List.set_cons_succ])
  refine md_call (i := 6) (listed' := #[true, true, true, true, true, true, true, false, false, false, false, false, false, false, false, false, false, false, false, false, false, false, false, false, false, false, false, false, false, false, false, false, false, false, false, false, false, false, false, false, false, false, false, false, false, false, false]) (by rfl) (by kernel_rfl) (by rfl) (by go_simp) (oSamePoint (L := 16 * 6 + 10) (Fpa.out.ext E16.out) Fpb.out (rl_quadV ra0 rb0 rc0 hrS) (rl_quadV ra1 rb1 rc1 hrS) (by omega)) (by kernel_rfl) ?_
  rintro e w17 ⟨rfl, hx⟩
  have E17 := Lib.hid (show Ext w16 w17 from hx)
  clear hx
  refine ⟨_, rfl, (E14.out.trans (E15.out.trans (E16.out.trans E17.out))), ?_⟩
  (try simp only [Act.put, List.setIfInBounds_toArray, List.set_cons_zero, List.set_cons_succ])
  refine md_val (i := 7) (v := ?vm17) (listed' := #[true, true, true, true, true, true, true, true, false, false, false, false, false, false, false, false, false, false, false, false, false, false, false, false, false, false, false, false, false, false, false, false, false, false, false, false, false, false, false, false, false, false, false, false, false, false, false]) (by rfl) (by kernel_rfl) (by kernel_rfl) (by kernel_rfl) (by intro _ _ _ h; exact h) (by rfl) ?hm17 (E14.out.trans (E15.out.trans (E16.out.trans E17.out))) (by kernel_rfl) ?rm17
  case hm17 => (intro w hSw; (try dsimp only at hSw); go_simp <;> with_reducible rfl)
  (try simp only [Act.put, List.setIfInBounds_toArray, List.set_cons_zero, List.set_cons_succ])
  refine md_load (i := 8) (listed' := #[true, true, true, true, true, true, true, true, true, false, false, false, false, false, false, false, false, false, false, false, false, false, false, false, false, false, false, false, false, false, false, false, false, false, false, false, false, false, false, false, false, false, false, false, false, false, false]) (by rfl) (by kernel_rfl) (by kernel_rfl) (by kernel_rfl) _ _ (by rfl) w.heap.size _ csP _ (by intro _ _ _ h; exact h) (by rfl) (by rfl) (fun x hx => ((Fbx0.out.ext (E2.out.trans (E3.out.trans (E4.out.trans (E5.out.trans (E6.out.trans (E7.out.trans (E8.out.trans (E9.out.trans (E10.out.trans (E11.out.trans (E12.out.trans E13.out))))))))))))).ext hx) Tryz.underlying28 (by rfl) (by rw [show (csP : Array Value).size = 32 from ZP]; kernel_rfl) (E14.out.trans (E15.out.trans (E16.out.trans E17.out))) (by kernel_rfl) ?_
  (try simp only [Act.put, List.setIfInBounds_toArray, List.set_cons_zero, List.set_cons_succ])
  refine md_load (i := 9) (listed' := #[true, true, true, true, true, true, true, true, true, true, false, false, false, false, false, false, false, false, false, false, false, false, false, false, false, false, false, false, false, false, false, false, false, false, false, false, false, false, false, false, false, false, false, false, false, false, false]) (by rfl) (by kernel_rfl) (by kernel_rfl) (by kernel_rfl) _ _ (by rfl) bx1 _ csT _ (by intro _ _ _ h; exact h) (by rfl) (by rfl) (fun x hx => ((Fbx1.out.ext (E2.out.trans (E3.out.trans (E4.out.trans (E5.out.trans (E6.out.trans (E7.out.trans (E8.out.trans (E9.out.trans (E10.out.trans (E11.out.trans (E12.out.trans E13.out))))))))))))).ext hx) Tryz.underlying26 (by rfl) (by rw [show (csT : Array Value).size = 4 from ZT]; kernel_rfl) (E14.out.trans (E15.out.trans (E16.out.trans E17.out))) (by kernel_rfl) ?_
  (try simp only [Act.put, List.setIfInBounds_toArray, List.set_cons_zero, List.set_cons_succ])
  refine md_load (i := 11) (listed' := #[true, true, true, true, true, true, true, true, true, true, false, true, false, false, false, false, false, false, false, false, false, false, false, false, false, false, false, false, false, false, false, false, false, false, false, false, false, false, false, false, false, false, false, false, false, false, false]) (by rfl) (by kernel_rfl) (by kernel_rfl) (by kernel_rfl) _ _ (by rfl) w.heap.size _ csP _ (by intro _ _ _ h; exact h) (by rfl) (by rfl) (fun x hx => ((Fbx0.out.ext (E2.out.trans (E3.out.trans (E4.out.trans (E5.out.trans (E6.out.trans (E7.out.trans (E8.out.trans (E9.out.trans (E10.out.trans (E11.out.trans (E12.out.trans E13.out))))))))))))).ext hx) Tryz.underlying28 (by rfl) (by rw [show (csP : Array Value).size = 32 from ZP]; kernel_rfl) (E14.out.trans (E15.out.trans (E16.out.trans E17.out))) (by kernel_rfl) ?_
  (try simp only [Act.put, List.setIfInBounds_toArray, List.set_cons_zero, List.set_cons_succ])
  refine md_load (i := 12) (listed' := #[true, true, true, true, true, true, true, true, true, true, false, true, true, false, false, false, false, false, false, false, false, false, false, false, false, false, false, false, false, false, false, false, false, false, false, false, false, false, false, false, false, false, false, false, false, false, false]) (by rfl) (by kernel_rfl) (by kernel_rfl) (by kernel_rfl) _ _ (by rfl) bx1 _ csT _ (by intro _ _ _ h; exact h) (by rfl) (by rfl) (fun x hx => ((Fbx1.out.ext (E2.out.trans (E3.out.trans (E4.out.trans (E5.out.trans (E6.out.trans (E7.out.trans (E8.out.trans (E9.out.trans (E10.out.trans (E11.out.trans (E12.out.trans E13.out))))))))))))).ext hx) Tryz.underlying26 (by rfl) (by rw [show (csT : Array Value).size = 4 from ZT]; kernel_rfl) (E14.out.trans (E15.out.trans (E16.out.trans E17.out))) (by kernel_rfl) ?_
  (try simp only [Act.put, List.setIfInBounds_toArray, List.set_cons_zero, List.set_cons_succ])
  refine md_call (i := 10) (listed' := #[true, true, true, true, true, true, true, true, true, true, true, true, true, false, false, false, false, false, false, false, false, false, false, false, false, false, false, false, false, false, false, false, false, false, false, false, false, false, false, false, false, false, false, false, false, false, false]) (by rfl) (by kernel_rfl) (by rfl) (by go_simp) (oEvalCubic (FP.out.ext (E1.out.trans (E2.out.trans (E3.out.trans (E4.out.trans (E5.out.trans (E6.out.trans (E7.out.trans (E8.out.trans (E9.out.trans (E10.out.trans (E11.out.trans (E12.out.trans (E13.out.trans (E14.out.trans (E15.out.trans (E16.out.trans E17.out))))))))))))))))) (FT.out.ext (E1.out.trans (E2.out.trans (E3.out.trans (E4.out.trans (E5.out.trans (E6.out.trans (E7.out.trans (E8.out.trans (E9.out.trans (E10.out.trans (E11.out.trans (E12.out.trans (E13.out.trans (E14.out.trans (E15.out.trans (E16.out.trans E17.out))))))))))))))))) (by omega) (by omega)) (by kernel_rfl) ?_
  rintro e w18 ⟨pc, rfl, h_pc, hx⟩
  have E18 := Lib.hid (show Ext w17 w18 from hx)
  have Fpc := Lib.hid h_pc
  clear h_pc
  clear hx
  refine ⟨_, rfl, (E14.out.trans (E15.out.trans (E16.out.trans (E17.out.trans E18.out)))), ?_⟩
  (try simp only [Act.put, List.setIfInBounds_toArray, List.set_cons_zero, List.set_cons_succ])
  refine md_call (i := 13) (listed' := #[true, true, true, true, true, true, true, true, true, true, true, true, true, true, false, false, false, false, false, false, false, false, false, false, false, false, false, false, false, false, false, false, false, false, false, false, false, false, false, false, false, false, false, false, false, false, false]) (by rfl) (by kernel_rfl) (by rfl) (by go_simp) (revalCubic_any 6 _ _ A0 A1 B0 B1 C0 C1 D0 D1 S _ (FP.out.ext (E1.out.trans (E2.out.trans (E3.out.trans (E4.out.trans (E5.out.trans (E6.out.trans (E7.out.trans (E8.out.trans (E9.out.trans (E10.out.trans (E11.out.trans (E12.out.trans (E13.out.trans (E14.out.trans (E15.out.trans (E16.out.trans (E17.out.trans E18.out)))))))))))))))))) (FT.out.ext (E1.out.trans (E2.out.trans (E3.out.trans (E4.out.trans (E5.out.trans (E6.out.trans (E7.out.trans (E8.out.trans (E9.out.trans (E10.out.trans (E11.out.trans (E12.out.trans (E13.out.trans (E14.out.trans (E15.out.trans (E16.out.trans (E17.out.trans E18.out)))))))))))))))))) (by omega) (by omega)) (by kernel_rfl) ?_
  rintro e w19 ⟨pd, rfl, h_pd, hx⟩
  have E19 := Lib.hid (show Ext w18 w19 from hx)
  have Fpd := Lib.hid h_pd
  clear h_pd
  clear hx
  refine ⟨_, rfl, (E14.out.trans (E15.out.trans (E16.out.trans (E17.out.trans (E18.out.trans E19.out))))), ?_⟩
  (try simp only [Act.put, List.setIfInBounds_toArray, List.set_cons_zero, List.set_cons_succ])
  refine md_call (i := 14) (listed' := #[true, true, true, true, true, true, true, true, true, true, true, true, true, true, true, false, false, false, false, false, false, false, false, false, false, false, false, false, false, false, false, false, false, false, false, false, false, false, false, false, false, false, false, false, false, false, false]) (by rfl) (by kernel_rfl) (by rfl) (by go_simp) (oSamePoint (L := 64 * 6 + 42) (Fpc.out.ext E19.out) Fpd.out (rl_cubicV ra0 rb0 rc0 rd0 hrS) (rl_cubicV ra1 rb1 rc1 rd1 hrS) (by omega)) (by kernel_rfl) ?_
  rintro e w20 ⟨rfl, hx⟩
  have E20 := Lib.hid (show Ext w19 w20 from hx)
  clear hx
  refine ⟨_, rfl, (E14.out.trans (E15.out.trans (E16.out.trans (E17.out.trans (E18.out.trans (E19.out.trans E20.out)))))), ?_⟩
  (try simp only [Act.put, List.setIfInBounds_toArray, List.set_cons_zero, List.set_cons_succ])
  refine md_val (i := 15) (v := ?vm18) (listed' := #[true, true, true, true, true, true, true, true, true, true, true, true, true, true, true, true, false, false, false, false, false, false, false, false, false, false, false, false, false, false, false, false, false, false, false, false, false, false, false, false, false, false, false, false, false, false, false]) (by rfl) (by kernel_rfl) (by kernel_rfl) (by kernel_rfl) (by intro _ _ _ h; exact h) (by rfl) ?hm18 (E14.out.trans (E15.out.trans (E16.out.trans (E17.out.trans (E18.out.trans (E19.out.trans E20.out)))))) (by kernel_rfl) ?rm18
  case hm18 => (intro w hSw; (try dsimp only at hSw); go_simp <;> with_reducible rfl)
  (try simp only [Act.put, List.setIfInBounds_toArray, List.set_cons_zero, List.set_cons_succ])
  refine md_val (i := 16) (v := ?vm19) (listed' := #[true, true, true, true, true, true, true, true, true, true, true, true, true, true, true, true, true, false, false, false, false, false, false, false, false, false, false, false, false, false, false, false, false, false, false, false, false, false, false, false, false, false, false, false, false, false, false]) (by rfl) (by kernel_rfl) (by kernel_rfl) (by kernel_rfl) (by intro _ _ _ h; exact h) (by rfl) ?hm19 (E14.out.trans (E15.out.trans (E16.out.trans (E17.out.trans (E18.out.trans (E19.out.trans E20.out)))))) (by kernel_rfl) ?rm19
  case hm19 => (intro w hSw; (try dsimp only at hSw); go_simp <;> with_reducible rfl)
  (try simp only [Act.put, List.setIfInBounds_toArray, List.set_cons_zero, List.set_cons_succ])
  refine md_load (i := 17) (listed' := #[true, true, true, true, true, true, true, true, true, true, true, true, true, true, true, true, true, true, false, false, false, false, false, false, false, false, false, false, false, false, false, false, false, false, false, false, false, false, false, false, false, false, false, false, false, false, false]) (by rfl) (by kernel_rfl) (by kernel_rfl) (by kernel_rfl) _ _ (by rfl) X7 _ qa _ (by intro _ _ _ h; exact h) (by rfl) (by rfl) (fun x hx => ((FV6.out.ext (E8.out.trans (E9.out.trans (E10.out.trans (E11.out.trans (E12.out.trans E13.out))))))).ext hx) Tryz.underlying32 (by rfl) (by rw [show (qa : Array Value).size = 24 from Z_qa]; kernel_rfl) (E14.out.trans (E15.out.trans (E16.out.trans (E17.out.trans (E18.out.trans (E19.out.trans E20.out)))))) (by kernel_rfl) ?_
  (try simp only [Act.put, List.setIfInBounds_toArray, List.set_cons_zero, List.set_cons_succ])
  refine md_load (i := 18) (listed' := #[true, true, true, true, true, true, true, true, true, true, true, true, true, true, true, true, true, true, true, false, false, false, false, false, false, false, false, false, false, false, false, false, false, false, false, false, false, false, false, false, false, false, false, false, false, false, false]) (by rfl) (by kernel_rfl) (by kernel_rfl) (by kernel_rfl) _ _ (by rfl) X9 _ qc _ (by intro _ _ _ h; exact h) (by rfl) (by rfl) (fun x hx => ((FV8.out.ext (E10.out.trans (E11.out.trans (E12.out.trans E13.out))))).ext hx) Tryz.underlying32 (by rfl) (by rw [show (qc : Array Value).size = 24 from Z_qc]; kernel_rfl) (E14.out.trans (E15.out.trans (E16.out.trans (E17.out.trans (E18.out.trans (E19.out.trans E20.out)))))) (by kernel_rfl) ?_
  (try simp only [Act.put, List.setIfInBounds_toArray, List.set_cons_zero, List.set_cons_succ])
  refine md_call (i := 19) (listed' := #[true, true, true, true, true, true, true, true, true, true, true, true, true, true, true, true, true, true, true, true, false, false, false, false, false, false, false, false, false, false, false, false, false, false, false, false, false, false, false, false, false, false, false, false, false, false, false]) (by rfl) (by kernel_rfl) (by rfl) (by go_simp) (sameQuad_any 5000 _ _ A0 A1 (lerpV A0 B0 S) (lerpV A1 B1 S) (lerpV (lerpV A0 B0 S) (lerpV B0 C0 S) S) (lerpV (lerpV A1 B1 S) (lerpV B1 C1 S) S) _ (Fqa.out.ext (E7.out.trans (E8.out.trans (E9.out.trans (E10.out.trans (E11.out.trans (E12.out.trans (E13.out.trans (E14.out.trans (E15.out.trans (E16.out.trans (E17.out.trans (E18.out.trans (E19.out.trans E20.out)))))))))))))) (Fqc.out.ext (E9.out.trans (E10.out.trans (E11.out.trans (E12.out.trans (E13.out.trans (E14.out.trans (E15.out.trans (E16.out.trans (E17.out.trans (E18.out.trans (E19.out.trans E20.out)))))))))))) (by omega) (by omega) (by omega) (by omega) (by omega) (by omega) (by omega)) (by kernel_rfl) ?_
  rintro e w21 ⟨rfl, hx⟩
  have E21 := Lib.hid (show Ext w20 w21 from hx)
  clear hx
  refine ⟨_, rfl, (E14.out.trans (E15.out.trans (E16.out.trans (E17.out.trans (E18.out.trans (E19.out.trans (E20.out.trans E21.out))))))), ?_⟩
  (try simp only [Act.put, List.setIfInBounds_toArray, List.set_cons_zero, List.set_cons_succ])
  refine md_val (i := 20) (v := ?vm20) (listed' := #[true, true, true, true, true, true, true, true, true, true, true, true, true, true, true, true, true, true, true, true, true, false, false, false, false, false, false, false, false, false, false, false, false, false, false, false, false, false, false, false, false, false, false, false, false, false, false]) (by rfl) (by kernel_rfl) (by kernel_rfl) (by kernel_rfl) (by intro _ _ _ h; exact h) (by rfl) ?hm20 (E14.out.trans (E15.out.trans (E16.out.trans (E17.out.trans (E18.out.trans (E19.out.trans (E20.out.trans E21.out))))))) (by kernel_rfl) ?rm20
  case hm20 => (intro w hSw; (try dsimp only at hSw); go_simp <;> with_reducible rfl)
  (try simp only [Act.put, List.setIfInBounds_toArray, List.set_cons_zero, List.set_cons_succ])
  refine md_val (i := 21) (v := ?vm21) (listed' := #[true, true, true, true, true, true, true, true, true, true, true, true, true, true, true, true, true, true, true, true, true, true, false, false, false, false, false, false, false, false, false, false, false, false, false, false, false, false, false, false, false, false, false, false, false, false, false]) (by rfl) (by kernel_rfl) (by kernel_rfl) (by kernel_rfl) (by intro _ _ _ h; exact h) (by rfl) ?hm21 (E14.out.trans (E15.out.trans (E16.out.trans (E17.out.trans (E18.out.trans (E19.out.trans (E20.out.trans E21.out))))))) (by kernel_rfl) ?rm21
  case hm21 => (intro w hSw; (try dsimp only at hSw); go_simp <;> with_reducible rfl)
  (try simp only [Act.put, List.setIfInBounds_toArray, List.set_cons_zero, List.set_cons_succ])
  refine md_load (i := 22) (listed' := #[true, true, true, true, true, true, true, true, true, true, true, true, true, true, true, true, true, true, true, true, true, true, true, false, false, false, false, false, false, false, false, false, false, false, false, false, false, false, false, false, false, false, false, false, false, false, false]) (by rfl) (by kernel_rfl) (by kernel_rfl) (by kernel_rfl) _ _ (by rfl) Y7 _ qb _ (by intro _ _ _ h; exact h) (by rfl) (by rfl) (fun x hx => ((FV7.out.ext (E8.out.trans (E9.out.trans (E10.out.trans (E11.out.trans (E12.out.trans E13.out))))))).ext hx) Tryz.underlying32 (by rfl) (by rw [show (qb : Array Value).size = 24 from Z_qb]; kernel_rfl) (E14.out.trans (E15.out.trans (E16.out.trans (E17.out.trans (E18.out.trans (E19.out.trans (E20.out.trans E21.out))))))) (by kernel_rfl) ?_
  (try simp only [Act.put, List.setIfInBounds_toArray, List.set_cons_zero, List.set_cons_succ])
  refine md_load (i := 23) (listed' := #[true, true, true, true, true, true, true, true, true, true, true, true, true, true, true, true, true, true, true, true, true, true, true, true, false, false, false, false, false, false, false, false, false, false, false, false, false, false, false, false, false, false, false, false, false, false, false]) (by rfl) (by kernel_rfl) (by kernel_rfl) (by kernel_rfl) _ _ (by rfl) Y9 _ qd _ (by intro _ _ _ h; exact h) (by rfl) (by rfl) (fun x hx => ((FV9.out.ext (E10.out.trans (E11.out.trans (E12.out.trans E13.out))))).ext hx) Tryz.underlying32 (by rfl) (by rw [show (qd : Array Value).size = 24 from Z_qd]; kernel_rfl) (E14.out.trans (E15.out.trans (E16.out.trans (E17.out.trans (E18.out.trans (E19.out.trans (E20.out.trans E21.out))))))) (by kernel_rfl) ?_
  (try simp only [Act.put, List.setIfInBounds_toArray, List.set_cons_zero, List.set_cons_succ])
  refine md_call (i := 24) (listed' := #[true, true, true, true, true, true, true, true, true, true, true, true, true, true, true, true, true, true, true, true, true, true, true, true, true, false, false, false, false, false, false, false, false, false, false, false, false, false, false, false, false, false, false, false, false, false, false]) (by rfl) (by kernel_rfl) (by rfl) (by go_simp) (sameQuad_any 5000 _ _ (lerpV (lerpV A0 B0 S) (lerpV B0 C0 S) S) (lerpV (lerpV A1 B1 S) (lerpV B1 C1 S) S) (lerpV B0 C0 S) (lerpV B1 C1 S) C0 C1 _ (Fqb.out.ext (E7.out.trans (E8.out.trans (E9.out.trans (E10.out.trans (E11.out.trans (E12.out.trans (E13.out.trans (E14.out.trans (E15.out.trans (E16.out.trans (E17.out.trans (E18.out.trans (E19.out.trans (E20.out.trans E21.out))))))))))))))) (Fqd.out.ext (E9.out.trans (E10.out.trans (E11.out.trans (E12.out.trans (E13.out.trans (E14.out.trans (E15.out.trans (E16.out.trans (E17.out.trans (E18.out.trans (E19.out.trans (E20.out.trans E21.out))))))))))))) (by omega) (by omega) (by omega) (by omega) (by omega) (by omega) (by omega)) (by kernel_rfl) ?_
  rintro e w22 ⟨rfl, hx⟩
  have E22 := Lib.hid (show Ext w21 w22 from hx)
  clear hx
  refine ⟨_, rfl, (E14.out.trans (E15.out.trans (E16.out.trans (E17.out.trans (E18.out.trans (E19.out.trans (E20.out.trans (E21.out.trans E22.out)))))))), ?_⟩
  (try simp only [Act.put, List.setIfInBounds_toArray, List.set_cons_zero, List.set_cons_succ])
  refine md_val (i := 25) (v := ?vm22) (listed' := #[true, true, true, true, true, true, true, true, true, true, true, true, true, true, true, true, true, true, true, true, true, true, true, true, true, true, false, false, false, false, false, false, false, false, false, false, false, false, false, false, false, false, false, false, false, false, false]) (by rfl) (by kernel_rfl) (by kernel_rfl) (by kernel_rfl) (by intro _ _ _ h; exact h) (by rfl) ?hm22 (E14.out.trans (E15.out.trans (E16.out.trans (E17.out.trans (E18.out.trans (E19.out.trans (E20.out.trans (E21.out.trans E22.out)))))))) (by kernel_rfl) ?rm22
  case hm22 => (intro w hSw; (try dsimp only at hSw); go_simp <;> with_reducible rfl)
  (try simp only [Act.put, List.setIfInBounds_toArray, List.set_cons_zero, List.set_cons_succ])
  refine md_val (i := 26) (v := ?vm23) (listed' := #[true, true, true, true, true, true, true, true, true, true, true, true, true, true, true, true, true, true, true, true, true, true, true, true, true, true, true, false, false, false, false, false, false, false, false, false, false, false, false, false, false, false, false, false, false, false, false]) (by rfl) (by kernel_rfl) (by kernel_rfl) (by kernel_rfl) (by intro _ _ _ h; exact h) (by rfl) ?hm23 (E14.out.trans (E15.out.trans (E16.out.trans (E17.out.trans (E18.out.trans (E19.out.trans (E20.out.trans (E21.out.trans E22.out)))))))) (by kernel_rfl) ?rm23
  case hm23 => (intro w hSw; (try dsimp only at hSw); go_simp <;> with_reducible rfl)
  (try simp only [Act.put, List.setIfInBounds_toArray, List.set_cons_zero, List.set_cons_succ])
  refine md_load (i := 27) (listed' := #[true, true, true, true, true, true, true, true, true, true, true, true, true, true, true, true, true, true, true, true, true, true, true, true, true, true, true, true, false, false, false, false, false, false, false, false, false, false, false, false, false, false, false, false, false, false, false]) (by rfl) (by kernel_rfl) (by kernel_rfl) (by kernel_rfl) _ _ (by rfl) X11 _ ca _ (by intro _ _ _ h; exact h) (by rfl) (by rfl) (fun x hx => ((FV10.out.ext (E12.out.trans E13.out))).ext hx) Tryz.underlying28 (by rfl) (by rw [show (ca : Array Value).size = 32 from Z_ca]; kernel_rfl) (E14.out.trans (E15.out.trans (E16.out.trans (E17.out.trans (E18.out.trans (E19.out.trans (E20.out.trans (E21.out.trans E22.out)))))))) (by kernel_rfl) ?_
  (try simp only [Act.put, List.setIfInBounds_toArray, List.set_cons_zero, List.set_cons_succ])
  refine md_load (i := 28) (listed' := #[true, true, true, true, true, true, true, true, true, true, true, true, true, true, true, true, true, true, true, true, true, true, true, true, true, true, true, true, true, false, false, false, false, false, false, false, false, false, false, false, false, false, false, false, false, false, false]) (by rfl) (by kernel_rfl) (by kernel_rfl) (by kernel_rfl) _ _ (by rfl) X13 _ cc _ (by intro _ _ _ h; exact h) (by rfl) (by rfl) (fun x hx => (FV12.out).ext hx) Tryz.underlying28 (by rfl) (by rw [show (cc : Array Value).size = 32 from Z_cc]; kernel_rfl) (E14.out.trans (E15.out.trans (E16.out.trans (E17.out.trans (E18.out.trans (E19.out.trans (E20.out.trans (E21.out.trans E22.out)))))))) (by kernel_rfl) ?_
  (try simp only [Act.put, List.setIfInBounds_toArray, List.set_cons_zero, List.set_cons_succ])
  refine md_call (i := 29) (listed' := #[true, true, true, true, true, true, true, true, true, true, true, true, true, true, true, true, true, true, true, true, true, true, true, true, true, true, true, true, true, true, false, false, false, false, false, false, false, false, false, false, false, false, false, false, false, false, false]) (by rfl) (by kernel_rfl) (by rfl) (by go_simp) (sameCubic_any 5000 _ _ A0 A1 (lerpV A0 B0 S) (lerpV A1 B1 S) (lerpV (lerpV A0 B0 S) (lerpV B0 C0 S) S) (lerpV (lerpV A1 B1 S) (lerpV B1 C1 S) S) (lerpV (lerpV (lerpV A0 B0 S) (lerpV B0 C0 S) S) (lerpV (lerpV B0 C0 S) (lerpV C0 D0 S) S) S) (lerpV (lerpV (lerpV A1 B1 S) (lerpV B1 C1 S) S) (lerpV (lerpV B1 C1 S) (lerpV C1 D1 S) S) S) _ (Fca.out.ext (E11.out.trans (E12.out.trans (E13.out.trans (E14.out.trans (E15.out.trans (E16.out.trans (E17.out.trans (E18.out.trans (E19.out.trans (E20.out.trans (E21.out.trans E22.out)))))))))))) (Fcc.out.ext (E13.out.trans (E14.out.trans (E15.out.trans (E16.out.trans (E17.out.trans (E18.out.trans (E19.out.trans (E20.out.trans (E21.out.trans E22.out)))))))))) (by omega) (by omega) (by omega) (by omega) (by omega) (by omega) (by omega) (by omega) (by omega)) (by kernel_rfl) ?_
  rintro e w23 ⟨rfl, hx⟩
  have E23 := Lib.hid (show Ext w22 w23 from hx)
  clear hx
  refine ⟨_, rfl, (E14.out.trans (E15.out.trans (E16.out.trans (E17.out.trans (E18.out.trans (E19.out.trans (E20.out.trans (E21.out.trans (E22.out.trans E23.out))))))))), ?_⟩
  (try simp only [Act.put, List.setIfInBounds_toArray, List.set_cons_zero, List.set_cons_succ])
  refine md_val (i := 30) (v := ?vm24) (listed' := #[true, true, true, true, true, true, true, true, true, true, true, true, true, true, true, true, true, true, true, true, true, true, true, true, true, true, true, true, true, true, true, false, false, false, false, false, false, false, false, false, false, false, false, false, false, false, false]) (by rfl) (by kernel_rfl) (by kernel_rfl) (by kernel_rfl) (by intro _ _ _ h; exact h) (by rfl) ?hm24 (E14.out.trans (E15.out.trans (E16.out.trans (E17.out.trans (E18.out.trans (E19.out.trans (E20.out.trans (E21.out.trans (E22.out.trans E23.out))))))))) (by kernel_rfl) ?rm24
  case hm24 => (intro w hSw; (try dsimp only at hSw); go_simp <;> with_reducible rfl)
  (try simp only [Act.put, List.setIfInBounds_toArray, List.set_cons_zero, List.set_cons_succ])
  refine md_val (i := 31) (v := ?vm25) (listed' := #[true, true, true, true, true, true, true, true, true, true, true, true, true, true, true, true, true, true, true, true, true, true, true, true, true, true, true, true, true, true, true, true, false, false, false, false, false, false, false, false, false, false, false, false, false, false, false]) (by rfl) (by kernel_rfl) (by kernel_rfl) (by kernel_rfl) (by intro _ _ _ h; exact h) (by rfl) ?hm25 (E14.out.trans (E15.out.trans (E16.out.trans (E17.out.trans (E18.out.trans (E19.out.trans (E20.out.trans (E21.out.trans (E22.out.trans E23.out))))))))) (by kernel_rfl) ?rm25
  case hm25 => (intro w hSw; (try dsimp only at hSw); go_simp <;> with_reducible rfl)
  (try simp only [Act.put, List.setIfInBounds_toArray, List.set_cons_zero, List.set_cons_succ])
  refine md_load (i := 32) (listed' := #[true, true, true, true, true, true, true, true, true, true, true, true, true, true, true, true, true, true, true, true, true, true, true, true, true, true, true, true, true, true, true, true, true, false, false, false, false, false, false, false, false, false, false, false, false, false, false]) (by rfl) (by kernel_rfl) (by kernel_rfl) (by kernel_rfl) _ _ (by rfl) Y11 _ cb _ (by intro _ _ _ h; exact h) (by rfl) (by rfl) (fun x hx => ((FV11.out.ext (E12.out.trans E13.out))).ext hx) Tryz.underlying28 (by rfl) (by rw [show (cb : Array Value).size = 32 from Z_cb]; kernel_rfl) (E14.out.trans (E15.out.trans (E16.out.trans (E17.out.trans (E18.out.trans (E19.out.trans (E20.out.trans (E21.out.trans (E22.out.trans E23.out))))))))) (by kernel_rfl) ?_
  (try simp only [Act.put, List.setIfInBounds_toArray, List.set_cons_zero, List.set_cons_succ])
  refine md_load (i := 33) (listed' := #[true, true, true, true, true, true, true, true, true, true, true, true, true, true, true, true, true, true, true, true, true, true, true, true, true, true, true, true, true, true, true, true, true, true, false, false, false, false, false, false, false, false, false, false, false, false, false]) (by rfl) (by kernel_rfl) (by kernel_rfl) (by kernel_rfl) _ _ (by rfl) Y13 _ cd _ (by intro _ _ _ h; exact h) (by rfl) (by rfl) (fun x hx => (FV13.out).ext hx) Tryz.underlying28 (by rfl) (by rw [show (cd : Array Value).size = 32 from Z_cd]; kernel_rfl) (E14.out.trans (E15.out.trans (E16.out.trans (E17.out.trans (E18.out.trans (E19.out.trans (E20.out.trans (E21.out.trans (E22.out.trans E23.out))))))))) (by kernel_rfl) ?_
  (try simp only [Act.put, List.setIfInBounds_toArray, List.set_cons_zero, List.set_cons_succ])
  refine md_call (i := 34) (listed' := #[true, true, true, true, true, true, true, true, true, true, true, true, true, true, true, true, true, true, true, true, true, true, true, true, true, true, true, true, true, true, true, true, true, true, true, false, false, false, false, false, false, false, false, false, false, false, false]) (by rfl) (by kernel_rfl) (by rfl) (by go_simp) (sameCubic_any 5000 _ _ (lerpV (lerpV (lerpV A0 B0 S) (lerpV B0 C0 S) S) (lerpV (lerpV B0 C0 S) (lerpV C0 D0 S) S) S) (lerpV (lerpV (lerpV A1 B1 S) (lerpV B1 C1 S) S) (lerpV (lerpV B1 C1 S) (lerpV C1 D1 S) S) S) (lerpV (lerpV B0 C0 S) (lerpV C0 D0 S) S) (lerpV (lerpV B1 C1 S) (lerpV C1 D1 S) S) (lerpV C0 D0 S) (lerpV C1 D1 S) D0 D1 _ (Fcb.out.ext (E11.out.trans (E12.out.trans (E13.out.trans (E14.out.trans (E15.out.trans (E16.out.trans (E17.out.trans (E18.out.trans (E19.out.trans (E20.out.trans (E21.out.trans (E22.out.trans E23.out))))))))))))) (Fcd.out.ext (E13.out.trans (E14.out.trans (E15.out.trans (E16.out.trans (E17.out.trans (E18.out.trans (E19.out.trans (E20.out.trans (E21.out.trans (E22.out.trans E23.out))))))))))) (by omega) (by omega) (by omega) (by omega) (by omega) (by omega) (by omega) (by omega) (by omega)) (by kernel_rfl) ?_
  rintro e w24 ⟨rfl, hx⟩
  have E24 := Lib.hid (show Ext w23 w24 from hx)
  clear hx
  refine ⟨_, rfl, (E14.out.trans (E15.out.trans (E16.out.trans (E17.out.trans (E18.out.trans (E19.out.trans (E20.out.trans (E21.out.trans (E22.out.trans (E23.out.trans E24.out)))))))))), ?_⟩
  (try simp only [Act.put, List.setIfInBounds_toArray, List.set_cons_zero, List.set_cons_succ])
  refine md_val (i := 35) (v := ?vm26) (listed' := #[true, true, true, true, true, true, true, true, true, true, true, true, true, true, true, true, true, true, true, true, true, true, true, true, true, true, true, true, true, true, true, true, true, true, true, true, false, false, false, false, false, false, false, false, false, false, false]) (by rfl) (by kernel_rfl) (by kernel_rfl) (by kernel_rfl) (by intro _ _ _ h; exact h) (by rfl) ?hm26 (E14.out.trans (E15.out.trans (E16.out.trans (E17.out.trans (E18.out.trans (E19.out.trans (E20.out.trans (E21.out.trans (E22.out.trans (E23.out.trans E24.out)))))))))) (by kernel_rfl) ?rm26
  case hm26 => (intro w hSw; (try dsimp only at hSw); go_simp <;> with_reducible rfl)
  (try simp only [Act.put, List.setIfInBounds_toArray, List.set_cons_zero, List.set_cons_succ])
  refine md_val (i := 36) (v := ?vm27) (listed' := #[true, true, true, true, true, true, true, true, true, true, true, true, true, true, true, true, true, true, true, true, true, true, true, true, true, true, true, true, true, true, true, true, true, true, true, true, true, false, false, false, false, false, false, false, false, false, false]) (by rfl) (by kernel_rfl) (by kernel_rfl) (by kernel_rfl) (by intro _ _ _ h; exact h) (by rfl) ?hm27 (E14.out.trans (E15.out.trans (E16.out.trans (E17.out.trans (E18.out.trans (E19.out.trans (E20.out.trans (E21.out.trans (E22.out.trans (E23.out.trans E24.out)))))))))) (by kernel_rfl) ?rm27
  case hm27 => (intro w hSw; (try dsimp only at hSw); go_simp <;> with_reducible rfl)
  (try simp only [Act.put, List.setIfInBounds_toArray, List.set_cons_zero, List.set_cons_succ])
  refine md_load (i := 37) (listed' := #[true, true, true, true, true, true, true, true, true, true, true, true, true, true, true, true, true, true, true, true, true, true, true, true, true, true, true, true, true, true, true, true, true, true, true, true, true, true, false, false, false, false, false, false, false, false, false]) (by rfl) (by kernel_rfl) (by kernel_rfl) (by kernel_rfl) _ _ (by rfl) X5 _ csQ _ (by intro _ _ _ h; exact h) (by rfl) (by rfl) (fun x hx => ((FV5.out.ext (E6.out.trans (E7.out.trans (E8.out.trans (E9.out.trans (E10.out.trans (E11.out.trans (E12.out.trans E13.out))))))))).ext hx) Tryz.underlying32 (by rfl) (by rw [show (csQ : Array Value).size = 24 from Z_csQ]; kernel_rfl) (E14.out.trans (E15.out.trans (E16.out.trans (E17.out.trans (E18.out.trans (E19.out.trans (E20.out.trans (E21.out.trans (E22.out.trans (E23.out.trans E24.out)))))))))) (by kernel_rfl) ?_
  (try simp only [Act.put, List.setIfInBounds_toArray, List.set_cons_zero, List.set_cons_succ])
  refine md_load (i := 39) (listed' := #[true, true, true, true, true, true, true, true, true, true, true, true, true, true, true, true, true, true, true, true, true, true, true, true, true, true, true, true, true, true, true, true, true, true, true, true, true, true, false, true, false, false, false, false, false, false, false]) (by rfl) (by kernel_rfl) (by kernel_rfl) (by kernel_rfl) _ _ (by rfl) X5 _ csQ _ (by intro _ _ _ h; exact h) (by rfl) (by rfl) (fun x hx => ((FV5.out.ext (E6.out.trans (E7.out.trans (E8.out.trans (E9.out.trans (E10.out.trans (E11.out.trans (E12.out.trans E13.out))))))))).ext hx) Tryz.underlying32 (by rfl) (by rw [show (csQ : Array Value).size = 24 from Z_csQ]; kernel_rfl) (E14.out.trans (E15.out.trans (E16.out.trans (E17.out.trans (E18.out.trans (E19.out.trans (E20.out.trans (E21.out.trans (E22.out.trans (E23.out.trans E24.out)))))))))) (by kernel_rfl) ?_
  (try simp only [Act.put, List.setIfInBounds_toArray, List.set_cons_zero, List.set_cons_succ])
  refine md_call (i := 38) (listed' := #[true, true, true, true, true, true, true, true, true, true, true, true, true, true, true, true, true, true, true, true, true, true, true, true, true, true, true, true, true, true, true, true, true, true, true, true, true, true, true, true, false, false, false, false, false, false, false]) (by rfl) (by kernel_rfl) (by rfl) (by go_simp) (iElevate (FQ.out.ext (E5.out.trans (E6.out.trans (E7.out.trans (E8.out.trans (E9.out.trans (E10.out.trans (E11.out.trans (E12.out.trans (E13.out.trans (E14.out.trans (E15.out.trans (E16.out.trans (E17.out.trans (E18.out.trans (E19.out.trans (E20.out.trans (E21.out.trans (E22.out.trans (E23.out.trans E24.out)))))))))))))))))))) (by omega) (by omega)) (by kernel_rfl) ?_
  rintro e w25 ⟨ce, rfl, h_ce, hx⟩
  have E25 := Lib.hid (show Ext w24 w25 from hx)
  have Fce := Lib.hid h_ce
  clear h_ce
  clear hx
  refine ⟨_, rfl, (E14.out.trans (E15.out.trans (E16.out.trans (E17.out.trans (E18.out.trans (E19.out.trans (E20.out.trans (E21.out.trans (E22.out.trans (E23.out.trans (E24.out.trans E25.out))))))))))), ?_⟩
  (try simp only [Act.put, List.setIfInBounds_toArray, List.set_cons_zero, List.set_cons_succ])
  refine md_call (i := 40) (listed' := #[true, true, true, true, true, true, true, true, true, true, true, true, true, true, true, true, true, true, true, true, true, true, true, true, true, true, true, true, true, true, true, true, true, true, true, true, true, true, true, true, true, false, false, false, false, false, false]) (by rfl) (by kernel_rfl) (by rfl) (by go_simp) (relevate_any 6 _ A0 A1 B0 B1 C0 C1 _ (FQ.out.ext (E5.out.trans (E6.out.trans (E7.out.trans (E8.out.trans (E9.out.trans (E10.out.trans (E11.out.trans (E12.out.trans (E13.out.trans (E14.out.trans (E15.out.trans (E16.out.trans (E17.out.trans (E18.out.trans (E19.out.trans (E20.out.trans (E21.out.trans (E22.out.trans (E23.out.trans (E24.out.trans E25.out))))))))))))))))))))) (by omega) (by omega)) (by kernel_rfl) ?_
  rintro e w26 ⟨cf, rfl, h_cf, hx⟩
  have E26 := Lib.hid (show Ext w25 w26 from hx)
  rw [el1, el1, el1, el1] at h_cf
  have Fcf := Lib.hid h_cf
  clear h_cf
  clear hx
  refine ⟨_, rfl, (E14.out.trans (E15.out.trans (E16.out.trans (E17.out.trans (E18.out.trans (E19.out.trans (E20.out.trans (E21.out.trans (E22.out.trans (E23.out.trans (E24.out.trans (E25.out.trans E26.out)))))))))))), ?_⟩
  (try simp only [Act.put, List.setIfInBounds_toArray, List.set_cons_zero, List.set_cons_succ])
  refine md_call (i := 41) (listed' := #[true, true, true, true, true, true, true, true, true, true, true, true, true, true, true, true, true, true, true, true, true, true, true, true, true, true, true, true, true, true, true, true, true, true, true, true, true, true, true, true, true, true, false, false, false, false, false]) (by rfl) (by kernel_rfl) (by rfl) (by go_simp) (sameCubic_any 5000 _ _ A0 A1 (lerpV A0 B0 (2 / 3)) (lerpV A1 B1 (2 / 3)) (lerpV C0 B0 (2 / 3)) (lerpV C1 B1 (2 / 3)) C0 C1 _ (Fce.out.ext E26.out) Fcf.out (by omega) (by omega) (by omega) (by omega) (by omega) (by omega) (by omega) (by omega) (by omega)) (by kernel_rfl) ?_
  rintro e w27 ⟨rfl, hx⟩
  have E27 := Lib.hid (show Ext w26 w27 from hx)
  clear hx
  refine ⟨_, rfl, (E14.out.trans (E15.out.trans (E16.out.trans (E17.out.trans (E18.out.trans (E19.out.trans (E20.out.trans (E21.out.trans (E22.out.trans (E23.out.trans (E24.out.trans (E25.out.trans (E26.out.trans E27.out))))))))))))), ?_⟩
  (try simp only [Act.put, List.setIfInBounds_toArray, List.set_cons_zero, List.set_cons_succ])
  refine md_val (i := 42) (v := ?vm28) (listed' := #[true, true, true, true, true, true, true, true, true, true, true, true, true, true, true, true, true, true, true, true, true, true, true, true, true, true, true, true, true, true, true, true, true, true, true, true, true, true, true, true, true, true, true, false, false, false, false]) (by rfl) (by kernel_rfl) (by kernel_rfl) (by kernel_rfl) (by intro _ _ _ h; exact h) (by rfl) ?hm28 (E14.out.trans (E15.out.trans (E16.out.trans (E17.out.trans (E18.out.trans (E19.out.trans (E20.out.trans (E21.out.trans (E22.out.trans (E23.out.trans (E24.out.trans (E25.out.trans (E26.out.trans E27.out))))))))))))) (by kernel_rfl) ?rm28
  case hm28 => (intro w hSw; (try dsimp only at hSw); go_simp <;> with_reducible rfl)
  (try simp only [Act.put, List.setIfInBounds_toArray, List.set_cons_zero, List.set_cons_succ])
  refine md_val (i := 43) (v := ?vm29) (listed' := #[true, true, true, true, true, true, true, true, true, true, true, true, true, true, true, true, true, true, true, true, true, true, true, true, true, true, true, true, true, true, true, true, true, true, true, true, true, true, true, true, true, true, true, true, false, false, false]) (by rfl) (by kernel_rfl) (by kernel_rfl) (by kernel_rfl) (by intro _ _ _ h; exact h) (by rfl) ?hm29 (E14.out.trans (E15.out.trans (E16.out.trans (E17.out.trans (E18.out.trans (E19.out.trans (E20.out.trans (E21.out.trans (E22.out.trans (E23.out.trans (E24.out.trans (E25.out.trans (E26.out.trans E27.out))))))))))))) (by kernel_rfl) ?rm29
  case hm29 => (intro w hSw; (try dsimp only at hSw); go_simp <;> with_reducible rfl)
  (try simp only [Act.put, List.setIfInBounds_toArray, List.set_cons_zero, List.set_cons_succ])
  refine md_call (i := 44) (listed' := #[true, true, true, true, true, true, true, true, true, true, true, true, true, true, true, true, true, true, true, true, true, true, true, true, true, true, true, true, true, true, true, true, true, true, true, true, true, true, true, true, true, true, true, true, true, false, false]) (by rfl) (by kernel_rfl) (by rfl) (by go_simp) (example_any _) (by kernel_rfl) ?_
  rintro e w28 ⟨rfl, hx⟩
  have E28 := Lib.hid (show Ext w27 w28 from hx)
  clear hx
  refine ⟨_, rfl, (E14.out.trans (E15.out.trans (E16.out.trans (E17.out.trans (E18.out.trans (E19.out.trans (E20.out.trans (E21.out.trans (E22.out.trans (E23.out.trans (E24.out.trans (E25.out.trans (E26.out.trans (E27.out.trans E28.out)))))))))))))), ?_⟩
  (try simp only [Act.put, List.setIfInBounds_toArray, List.set_cons_zero, List.set_cons_succ])
  refine md_val (i := 45) (v := ?vm30) (listed' := #[true, true, true, true, true, true, true, true, true, true, true, true, true, true, true, true, true, true, true, true, true, true, true, true, true, true, true, true, true, true, true, true, true, true, true, true, true, true, true, true, true, true, true, true, true, true, false]) (by rfl) (by kernel_rfl) (by kernel_rfl) (by kernel_rfl) (by intro _ _ _ h; exact h) (by rfl) ?hm30 (E14.out.trans (E15.out.trans (E16.out.trans (E17.out.trans (E18.out.trans (E19.out.trans (E20.out.trans (E21.out.trans (E22.out.trans (E23.out.trans (E24.out.trans (E25.out.trans (E26.out.trans (E27.out.trans E28.out)))))))))))))) (by kernel_rfl) ?rm30
  case hm30 => (intro w hSw; (try dsimp only at hSw); go_simp <;> with_reducible rfl)
  (try simp only [Act.put, List.setIfInBounds_toArray, List.set_cons_zero, List.set_cons_succ])
  refine md_val (i := 46) (v := ?vm31) (listed' := #[true, true, true, true, true, true, true, true, true, true, true, true, true, true, true, true, true, true, true, true, true, true, true, true, true, true, true, true, true, true, true, true, true, true, true, true, true, true, true, true, true, true, true, true, true, true, true]) (by rfl) (by kernel_rfl) (by kernel_rfl) (by kernel_rfl) (by intro _ _ _ h; exact h) (by rfl) ?hm31 (E14.out.trans (E15.out.trans (E16.out.trans (E17.out.trans (E18.out.trans (E19.out.trans (E20.out.trans (E21.out.trans (E22.out.trans (E23.out.trans (E24.out.trans (E25.out.trans (E26.out.trans (E27.out.trans E28.out)))))))))))))) (by kernel_rfl) ?rm31
  case hm31 => (intro w hSw; (try dsimp only at hSw); go_simp <;> with_reducible rfl)
  (try simp only [Act.put, List.setIfInBounds_toArray, List.set_cons_zero, List.set_cons_succ])
  refine wpAnyH_done (by kernel_rfl) ?_ _
  go_wp2_with fail
  go_ret
  exact ⟨rfl, (E1.out.trans (E2.out.trans (E3.out.trans (E4.out.trans (E5.out.trans (E6.out.trans (E7.out.trans (E8.out.trans (E9.out.trans (E10.out.trans (E11.out.trans (E12.out.trans (E13.out.trans (E14.out.trans (E15.out.trans (E16.out.trans (E17.out.trans (E18.out.trans (E19.out.trans (E20.out.trans (E21.out.trans (E22.out.trans (E23.out.trans (E24.out.trans (E25.out.trans (E26.out.trans (E27.out.trans E28.out)))))))))))))))))))))))))))⟩

set_option maxRecDepth 20000 in
set_option maxHeartbeats 8000000 in
theorem walkF0 (csP csT : Array Value) (w : World) (ZP : csP.size = 32) (ZT : csT.size = 4)
    (hs : ∀ W, Calls Tryz.prog 5 #[.agg csP] W fun e w' => e = .returned (.bool false) ∧ Ext W w') :
    Calls Tryz.prog 3 #[.agg csP, .agg csT] w fun e w' => e = .returned (.bool true) ∧ Ext w w' := by
  go_enter Tryz.func3, Tryz.ntmps3
  go_upto_region 1 with fail
  have hbx0 : Blk ((w.alloc (.cells csP 28)).alloc (.cells csT 26)) (w.heap.size) 28 csP := Blk.ext (Blk.new_at w _ (by simp) _ _) ((Ext.refl _).alloc _)
  have hbx1 : Blk ((w.alloc (.cells csP 28)).alloc (.cells csT 26)) (w.heap.size + 1) 26 csT := Blk.ext (Blk.new_at (w.alloc (.cells csP 28)) _ (by simp) _ _) (Ext.refl _)
  have hE : Ext w ((w.alloc (.cells csP 28)).alloc (.cells csT 26)) := (((Ext.refl _).alloc _).alloc _)
  generalize ((w.alloc (.cells csP 28)).alloc (.cells csT 26)) = wa at *
  generalize w.heap.size + 1 = bx1 at *
  have E1 := Lib.hid (show Ext w wa from hE)
  have Fbx0 := Lib.hid hbx0
  have Fbx1 := Lib.hid hbx1
  clear hE hbx0 hbx1
  refine wp_region_lit ?_
  refine mv_load (by rfl) _ _ (by rfl) w.heap.size _ csP _ (by rfl) Fbx0.out Tryz.underlying28 (by rfl) (by rw [show (csP : Array Value).size = 32 from ZP]; kernel_rfl) ?_
  (try simp only [Act.put, List.setIfInBounds_toArray, List.set_cons_zero, List.set_cons_succ])
  refine mv_call (by rfl) (by go_simp) (hs _) ?_
  rintro e w2 ⟨rfl, hx⟩
  have E2 := Lib.hid (show Ext wa w2 from hx)
  clear hx
  refine ⟨_, rfl, ?_⟩
  (try simp only [Act.put, List.setIfInBounds_toArray, List.set_cons_zero, List.set_cons_succ])
  refine mv_val (v := ?vm32) (w' := w2) (by rfl) ?hm32 ?rm32
  case hm32 => (go_simp <;> with_reducible rfl)
  (try simp only [Act.put, List.setIfInBounds_toArray, List.set_cons_zero, List.set_cons_succ])
  refine mv_val (v := ?vm33) (w' := w2) (by rfl) ?hm33 ?rm33
  case hm33 => (go_simp <;> with_reducible rfl)
  (try simp only [Act.put, List.setIfInBounds_toArray, List.set_cons_zero, List.set_cons_succ])
  refine mv_skip (by rfl) ?_
  (try simp only [Act.put, List.setIfInBounds_toArray, List.set_cons_zero, List.set_cons_succ])
  refine mv_skip (by rfl) ?_
  (try simp only [Act.put, List.setIfInBounds_toArray, List.set_cons_zero, List.set_cons_succ])
  refine mv_skip (by rfl) ?_
  (try simp only [Act.put, List.setIfInBounds_toArray, List.set_cons_zero, List.set_cons_succ])
  refine mv_val (v := ?vm34) (w' := w2) (by rfl) ?hm34 ?rm34
  case hm34 => (go_simp <;> with_reducible rfl)
  (try simp only [Act.put, List.setIfInBounds_toArray, List.set_cons_zero, List.set_cons_succ])
  go_upto_region 2 with fail
  refine wp_region_lit ?_
  refine mv_call (by rfl) (by go_simp) (example_any _) ?_
  rintro e w3 ⟨rfl, hx⟩
  have E3 := Lib.hid (show Ext w2 w3 from hx)
  clear hx
  refine ⟨_, rfl, ?_⟩
  (try simp only [Act.put, List.setIfInBounds_toArray, List.set_cons_zero, List.set_cons_succ])
  refine mv_val (v := ?vm35) (w' := w3) (by rfl) ?hm35 ?rm35
  case hm35 => (go_simp <;> with_reducible rfl)
  (try simp only [Act.put, List.setIfInBounds_toArray, List.set_cons_zero, List.set_cons_succ])
  go_wp2_with fail
  go_ret
  exact ⟨rfl, (E1.out.trans (E2.out.trans E3.out))⟩

set_option maxRecDepth 20000 in
set_option maxHeartbeats 8000000 in
theorem walkF1 (csP csT : Array Value) (w : World) (ZP : csP.size = 32) (ZT : csT.size = 4)
    (hs : ∀ W, Calls Tryz.prog 5 #[.agg csP] W fun e w' => e = .returned (.bool true) ∧ Ext W w') (hs1 : ∀ W, Calls Tryz.prog 6 #[.agg csT] W fun e w' => e = .returned (.bool false) ∧ Ext W w') :
    Calls Tryz.prog 3 #[.agg csP, .agg csT] w fun e w' => e = .returned (.bool true) ∧ Ext w w' := by
  go_enter Tryz.func3, Tryz.ntmps3
  go_upto_region 1 with fail
  have hbx0 : Blk ((w.alloc (.cells csP 28)).alloc (.cells csT 26)) (w.heap.size) 28 csP := Blk.ext (Blk.new_at w _ (by simp) _ _) ((Ext.refl _).alloc _)
  have hbx1 : Blk ((w.alloc (.cells csP 28)).alloc (.cells csT 26)) (w.heap.size + 1) 26 csT := Blk.ext (Blk.new_at (w.alloc (.cells csP 28)) _ (by simp) _ _) (Ext.refl _)
  have hE : Ext w ((w.alloc (.cells csP 28)).alloc (.cells csT 26)) := (((Ext.refl _).alloc _).alloc _)
  generalize ((w.alloc (.cells csP 28)).alloc (.cells csT 26)) = wa at *
  generalize w.heap.size + 1 = bx1 at *
  have E1 := Lib.hid (show Ext w wa from hE)
  have Fbx0 := Lib.hid hbx0
  have Fbx1 := Lib.hid hbx1
  clear hE hbx0 hbx1
  refine wp_region_lit ?_
  refine mv_load (by rfl) _ _ (by rfl) w.heap.size _ csP _ (by rfl) Fbx0.out Tryz.underlying28 (by rfl) (by rw [show (csP : Array Value).size = 32 from ZP]; kernel_rfl) ?_
  (try simp only [Act.put, List.setIfInBounds_toArray, List.set_cons_zero, List.set_cons_succ])
  refine mv_call (by rfl) (by go_simp) (hs _) ?_
  rintro e w2 ⟨rfl, hx⟩
  have E2 := Lib.hid (show Ext wa w2 from hx)
  clear hx
  refine ⟨_, rfl, ?_⟩
  (try simp only [Act.put, List.setIfInBounds_toArray, List.set_cons_zero, List.set_cons_succ])
  refine mv_val (v := ?vm36) (w' := w2) (by rfl) ?hm36 ?rm36
  case hm36 => (go_simp <;> with_reducible rfl)
  (try simp only [Act.put, List.setIfInBounds_toArray, List.set_cons_zero, List.set_cons_succ])
  refine mv_val (v := ?vm37) (w' := w2) (by rfl) ?hm37 ?rm37
  case hm37 => (go_simp <;> with_reducible rfl)
  (try simp only [Act.put, List.setIfInBounds_toArray, List.set_cons_zero, List.set_cons_succ])
  refine mv_load (by rfl) _ _ (by rfl) bx1 _ csT _ (by rfl) (Fbx1.out.ext E2.out) Tryz.underlying26 (by rfl) (by rw [show (csT : Array Value).size = 4 from ZT]; kernel_rfl) ?_
  (try simp only [Act.put, List.setIfInBounds_toArray, List.set_cons_zero, List.set_cons_succ])
  refine mv_call (by rfl) (by go_simp) (hs1 _) ?_
  rintro e w3 ⟨rfl, hx⟩
  have E3 := Lib.hid (show Ext w2 w3 from hx)
  clear hx
  refine ⟨_, rfl, ?_⟩
  (try simp only [Act.put, List.setIfInBounds_toArray, List.set_cons_zero, List.set_cons_succ])
  refine mv_val (v := ?vm38) (w' := w3) (by rfl) ?hm38 ?rm38
  case hm38 => (go_simp <;> with_reducible rfl)
  (try simp only [Act.put, List.setIfInBounds_toArray, List.set_cons_zero, List.set_cons_succ])
  refine mv_val (v := ?vm39) (w' := w3) (by rfl) ?hm39 ?rm39
  case hm39 => (go_simp <;> with_reducible rfl)
  (try simp only [Act.put, List.setIfInBounds_toArray, List.set_cons_zero, List.set_cons_succ])
  go_upto_region 2 with fail
  refine wp_region_lit ?_
  refine mv_call (by rfl) (by go_simp) (example_any _) ?_
  rintro e w4 ⟨rfl, hx⟩
  have E4 := Lib.hid (show Ext w3 w4 from hx)
  clear hx
  refine ⟨_, rfl, ?_⟩
  (try simp only [Act.put, List.setIfInBounds_toArray, List.set_cons_zero, List.set_cons_succ])
  refine mv_val (v := ?vm40) (w' := w4) (by rfl) ?hm40 ?rm40
  case hm40 => (go_simp <;> with_reducible rfl)
  (try simp only [Act.put, List.setIfInBounds_toArray, List.set_cons_zero, List.set_cons_succ])
  go_wp2_with fail
  go_ret
  exact ⟨rfl, (E1.out.trans (E2.out.trans (E3.out.trans E4.out)))⟩

theorem walk (a0 a1 b0 b1 c0 c1 d0 d1 t : RV) (w : World) (hr : (a0.Raw w ∧ a1.Raw w) ∧ (b0.Raw w ∧ b1.Raw w) ∧ (c0.Raw w ∧ c1.Raw w) ∧ (d0.Raw w ∧ d1.Raw w)) (ht : t.Raw w) :
    Calls Tryz.prog 3 #[.agg #[.bool a0.n, .slice a0.p a0.l a0.c, .bool a0.m, .slice a0.p2 a0.l2 a0.c2, .bool a1.n, .slice a1.p a1.l a1.c, .bool a1.m, .slice a1.p2 a1.l2 a1.c2, .bool b0.n, .slice b0.p b0.l b0.c, .bool b0.m, .slice b0.p2 b0.l2 b0.c2, .bool b1.n, .slice b1.p b1.l b1.c, .bool b1.m, .slice b1.p2 b1.l2 b1.c2, .bool c0.n, .slice c0.p c0.l c0.c, .bool c0.m, .slice c0.p2 c0.l2 c0.c2, .bool c1.n, .slice c1.p c1.l c1.c, .bool c1.m, .slice c1.p2 c1.l2 c1.c2, .bool d0.n, .slice d0.p d0.l d0.c, .bool d0.m, .slice d0.p2 d0.l2 d0.c2, .bool d1.n, .slice d1.p d1.l d1.c, .bool d1.m, .slice d1.p2 d1.l2 d1.c2], .agg #[.bool t.n, .slice t.p t.l t.c, .bool t.m, .slice t.p2 t.l2 t.c2]] w fun e w' => e = .returned (.bool true) ∧ Ext w w' := by
  have hs := fun W => shortCurve_any a0 a1 b0 b1 c0 c1 d0 d1 W
  have hs1 := fun W => xshort_any t W
  cases h0 : shortC a0 a1 b0 b1 c0 c1 d0 d1 with
  | false => rw [h0] at hs; exact walkF0 _ _ w rfl rfl hs
  | true =>
    rw [h0] at hs
    cases h1 : t.short with
    | false => rw [h1] at hs1; exact walkF1 _ _ w rfl rfl hs hs1
    | true =>
      rw [h1] at hs1
      have hb := shortC_spec h0
      obtain ⟨⟨r0, r1⟩, ⟨r2, r3⟩, ⟨r4, r5⟩, ⟨r6, r7⟩⟩ := hr
      obtain ⟨q0, k0⟩ := r0.val; obtain ⟨q1, k1⟩ := r1.val; obtain ⟨q2, k2⟩ := r2.val; obtain ⟨q3, k3⟩ := r3.val; obtain ⟨q4, k4⟩ := r4.val; obtain ⟨q5, k5⟩ := r5.val; obtain ⟨q6, k6⟩ := r6.val; obtain ⟨q7, k7⟩ := r7.val
      obtain ⟨qt, kt⟩ := ht.val
      have bt := short_spec h1
      obtain ⟨⟨x0, y0⟩, ⟨x1, y1⟩, ⟨x2, y2⟩, ⟨x3, y3⟩, ⟨x4, y4⟩, ⟨x5, y5⟩, ⟨x6, y6⟩, ⟨x7, y7⟩⟩ := hb
      exact walkT _ _ q0 q1 q2 q3 q4 q5 q6 q7 qt w ⟨a0, a1, b0, b1, c0, c1, d0, d1, rfl, k0 6 x0 y0, k1 6 x1 y1, k2 6 x2 y2, k3 6 x3 y3, k4 6 x4 y4, k5 6 x5 y5, k6 6 x6 y6, k7 6 x7 y7⟩ ⟨t, rfl, kt 6 bt.1 bt.2⟩ hs hs1

set_option maxRecDepth 100000 in
theorem lifted (os : Os) (started : os.Started) (H : Type) (enc : TypeId × Value → H) :
    ReturnsInHanded {} Tryz.checked os 3 .any (Rows.flattenExactSpec.pre6 enc Tryz.prog Tryz.f3 Rows.flattenExactRow.domain false) (Rows.flattenExactSpec.post enc Tryz.prog Tryz.f3 false true false false) := by
  refine returnsInHanded_of_change (C := Tryz.checked) own started (by kernel_rfl) Tryz.func3
    (ChangeSpec.witness6 (enc := enc) (C := Tryz.checked) false ⟨#[], #[.agg #[.bool false, .slice none 0 0, .bool false, .slice none 0 0, .bool false, .slice none 0 0, .bool false, .slice none 0 0, .bool false, .slice none 0 0, .bool false, .slice none 0 0, .bool false, .slice none 0 0, .bool false, .slice none 0 0, .bool false, .slice none 0 0, .bool false, .slice none 0 0, .bool false, .slice none 0 0, .bool false, .slice none 0 0, .bool false, .slice none 0 0, .bool false, .slice none 0 0, .bool false, .slice none 0 0, .bool false, .slice none 0 0], .agg #[.bool false, .slice none 0 0, .bool false, .slice none 0 0]], []⟩ 8 (by kernel_rfl) (by kernel_rfl) (by kernel_rfl) (by kernel_rfl)) ?_
  intro W base args ds gs before hval0 hW hcnd _
  have hval : ∀ (j : Nat) t v, Tryz.f3.params[j]? = some t → args[j]? = some v → Value.okWide Tryz.prog W .any base t v := hval0
  have hW' := hW
  obtain ⟨p, q, hA0, hV, rfl, hfz, hnd⟩ := hW
  have hA : DataW.TrodAll enc Tryz.prog W 0 (fun _ => true) true Tryz.f3.params.toList args.toList ds p := hA0
  rw [Tryz.params3] at hA hval
  obtain ⟨v0, vs0, d0, ds0, p0, q0, hargs, rfl, rfl, h0, r0⟩ := trodAll_cons hA
  obtain ⟨v1, vs1, d1, ds1, p1, q1, rfl, rfl, rfl, h1, r1⟩ := trodAll_cons r0
  obtain ⟨rfl, rfl, rfl⟩ := trodAll_nil r1
  obtain rfl : args = #[v0, v1] := by cases args; simp_all
  obtain ⟨rfl, rfl⟩ := trodVars_none hV
  have k0 := h0
  have lt0 : ∀ x ∈ p0, x.block < W.heap.size := by obtain ⟨m, hm⟩ := k0; exact DataW.trod_lt m _ _ _ hm
  obtain ⟨⟨l0⟩, rfl, _⟩ := okWide_array Tryz.underlying28 (hval 0 28 v0 rfl rfl)
  obtain ⟨a0, a1, b0, b1, c0, c1, d0, d1, rfl, g0⟩ : ∃ a0 a1 b0 b1 c0 c1 d0 d1 : RV, l0 = [.bool a0.n, .slice a0.p a0.l a0.c, .bool a0.m, .slice a0.p2 a0.l2 a0.c2, .bool a1.n, .slice a1.p a1.l a1.c, .bool a1.m, .slice a1.p2 a1.l2 a1.c2, .bool b0.n, .slice b0.p b0.l b0.c, .bool b0.m, .slice b0.p2 b0.l2 b0.c2, .bool b1.n, .slice b1.p b1.l b1.c, .bool b1.m, .slice b1.p2 b1.l2 b1.c2, .bool c0.n, .slice c0.p c0.l c0.c, .bool c0.m, .slice c0.p2 c0.l2 c0.c2, .bool c1.n, .slice c1.p c1.l c1.c, .bool c1.m, .slice c1.p2 c1.l2 c1.c2, .bool d0.n, .slice d0.p d0.l d0.c, .bool d0.m, .slice d0.p2 d0.l2 d0.c2, .bool d1.n, .slice d1.p d1.l d1.c, .bool d1.m, .slice d1.p2 d1.l2 d1.c2] ∧ (a0.Raw W ∧ a1.Raw W) ∧ (b0.Raw W ∧ b1.Raw W) ∧ (c0.Raw W ∧ c1.Raw W) ∧ (d0.Raw W ∧ d1.Raw W) := by
    obtain ⟨m, hm⟩ := h0
    exact rp4_open hm
  have k1 := h1
  have lt1 : ∀ x ∈ p1, x.block < W.heap.size := by obtain ⟨m, hm⟩ := k1; exact DataW.trod_lt m _ _ _ hm
  obtain ⟨⟨l1⟩, rfl, _⟩ := okWide_struct Tryz.underlying26 (hval 1 26 v1 rfl rfl)
  obtain ⟨t, rfl, g1⟩ : ∃ a : RV, l1 = [.bool a.n, .slice a.p a.l a.c, .bool a.m, .slice a.p2 a.l2 a.c2] ∧ a.Raw W := by
    obtain ⟨m, hm⟩ := h1
    exact rat_open hm
  clear hA0 hval0
  refine (walk a0 a1 b0 b1 c0 c1 d0 d1 t W g0 g1).mono fun e W' ⟨he, hx⟩ => ?_
  subst he
  have bel := hx.below
  exact ⟨_, rfl, _, _, _, [], _, [], hW', trodAll_mk1 (shut_bool Tryz.underlying4 _), (trodAll_cons_mk (Below.trod laidOut (by kernel_rfl) (of_decide_eq_true (by kernel_rfl)) k0 bel lt0) (trodAll_cons_mk (Below.trod laidOut (by kernel_rfl) (of_decide_eq_true (by kernel_rfl)) k1 bel lt1) trodAll_mk0)), rfl, bel.frame _, fun h => by cases h⟩

theorem proved : Rows.FlattenExactSaid :=
  OpenClaim.holds_of_wide 3 Tryz.f3 rfl rfl rfl rfl rfl rfl rfl ⟨rfl, rfl, rfl, rfl, rfl⟩ rfl rfl rfl rfl rfl (by kernel_rfl) Tryz.func3 (by kernel_rfl)
    (of_decide_eq_true (by kernel_rfl)) (by unfold Func.isWrapper; first | (rw [if_pos (by decide +kernel)]; kernel_rfl) | (rw [if_neg (by decide +kernel)]; exact ⟨rfl, rfl⟩))
    (fun os started H enc _ => lifted os started H enc)
#print axioms proved

end Go.Proofs.YtllpkoinjompcaaGreat.exact
