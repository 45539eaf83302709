/- FlattenSplit: both parts of a split curve trace the curve, and elevation does not change it. -/
import Derived.Test.YtllpkoinjompcaaM6
namespace Go.Proofs.Ytllpkoinjompcaa.split
open Go.ChangeShapes Go.WideShapes Go.ChangeAt Go.RowKit
attribute [local go_sem ↓] Go.wp_at_zero Go.wp_at_succ run_eql_point run_neq_point run_max_ii run_min_ii

theorem s1 (a b c t u : Rat) : quadV a (lerpV a b t) (lerpV (lerpV a b t) (lerpV b c t) t) u = quadV a b c (t * u) := by simp only [quadV, lerpV]; grind
theorem s2 (a b c t u : Rat) : quadV (lerpV (lerpV a b t) (lerpV b c t) t) (lerpV b c t) c u = quadV a b c (t + (1 - t) * u) := by simp only [quadV, lerpV]; grind
theorem s3 (a b c d t u : Rat) : cubicV a (lerpV a b t) (lerpV (lerpV a b t) (lerpV b c t) t) (lerpV (lerpV (lerpV a b t) (lerpV b c t) t) (lerpV (lerpV b c t) (lerpV c d t) t) t) u = cubicV a b c d (t * u) := by simp only [cubicV, lerpV]; grind
theorem s4 (a b c d t u : Rat) : cubicV (lerpV (lerpV (lerpV a b t) (lerpV b c t) t) (lerpV (lerpV b c t) (lerpV c d t) t) t) (lerpV (lerpV b c t) (lerpV c d t) t) (lerpV c d t) d u = cubicV a b c d (t + (1 - t) * u) := by simp only [cubicV, lerpV]; grind
theorem s5 (a b c u : Rat) : cubicV a (lerpV a b (2 / 3)) (lerpV c b (2 / 3)) c u = quadV a b c u := by simp only [cubicV, quadV, lerpV]; grind
theorem rl_quadV {a b c t : Rat} {L : Nat} (ha : Nm.rl a ≤ L) (hb : Nm.rl b ≤ L) (hc : Nm.rl c ≤ L) (ht : Nm.rl t ≤ L) : Nm.rl (quadV a b c t) ≤ 16 * L + 10 := by
  have h1 := rl_lerpV ha hb ht
  have h2 := rl_lerpV hb hc ht
  have h3 : Nm.rl (quadV a b c t) ≤ 4 * (4 * L + 2) + 2 := rl_lerpV (L := 4 * L + 2) h1 h2 (by omega)
  omega
theorem rl_cubicV {a b c d t : Rat} {L : Nat} (ha : Nm.rl a ≤ L) (hb : Nm.rl b ≤ L) (hc : Nm.rl c ≤ L) (hd : Nm.rl d ≤ L) (ht : Nm.rl t ≤ L) : Nm.rl (cubicV a b c d t) ≤ 64 * L + 42 := by
  have h1 := rl_quadV ha hb hc ht
  have h2 := rl_quadV hb hc hd ht
  have h3 : Nm.rl (cubicV a b c d t) ≤ 4 * (16 * L + 10) + 2 := rl_lerpV (L := 16 * L + 10) h1 h2 (by omega)
  omega
theorem rl1 : Nm.rl ((1 : Int) : Rat) ≤ 1 := by
  have e1 : (((1 : Int) : Rat)).num = 1 := by decide +kernel
  have e2 : (((1 : Int) : Rat)).den = 1 := by decide +kernel
  unfold Nm.rl
  rw [e1, e2]
  have h1 : Nm.nl (Int.natAbs 1) ≤ 1 := Nm.nl_le (by decide)
  have h2 : Nm.nl 1 ≤ 1 := Nm.nl_le (by decide)
  omega
theorem noUn : NoU #[.bool false, .slice none 0 0, .bool false, .slice none 0 0] := noU_of _ (by simp)
theorem NIs.own {w w' : World} {cs : Array Value} {q : Rat} (h : NIs w cs q) {g : Nat} {t : TypeId} {zs : Array Value} (hb : Blk w g t zs) (hn : NoU zs) (o : Own g w w') : NIs w' cs q := by
  obtain ⟨a, h1, h2⟩ := h
  exact ⟨a, h1, h2.own hb hn o⟩

theorem short_spec {a : RV} (h : a.short = true) : a.l ≤ 6 ∧ a.l2 ≤ 6 := by
  unfold RV.short at h
  simpa using h
theorem shortC_spec {a0 a1 b0 b1 c0 c1 d0 d1 : RV} (h : shortC a0 a1 b0 b1 c0 c1 d0 d1 = true) : (a0.l ≤ 6 ∧ a0.l2 ≤ 6) ∧ (a1.l ≤ 6 ∧ a1.l2 ≤ 6) ∧ (b0.l ≤ 6 ∧ b0.l2 ≤ 6) ∧ (b1.l ≤ 6 ∧ b1.l2 ≤ 6) ∧ (c0.l ≤ 6 ∧ c0.l2 ≤ 6) ∧ (c1.l ≤ 6 ∧ c1.l2 ≤ 6) ∧ (d0.l ≤ 6 ∧ d0.l2 ≤ 6) ∧ (d1.l ≤ 6 ∧ d1.l2 ≤ 6) := by
  unfold shortC at h
  simp only [Bool.and_eq_true] at h
  obtain ⟨⟨⟨⟨h0, h1⟩, h2, h3⟩, h4, h5⟩, h6, h7⟩ := h
  exact ⟨short_spec h0, short_spec h1, short_spec h2, short_spec h3, short_spec h4, short_spec h5, short_spec h6, short_spec h7⟩

set_option maxRecDepth 20000 in
set_option maxHeartbeats 8000000 in
theorem walkT (csP csT csU : Array Value) (A0 A1 B0 B1 C0 C1 D0 D1 S U : Rat) (w : World) (hP : C4In 6 w csP A0 A1 B0 B1 C0 C1 D0 D1) (hT : NIn 6 w csT S) (hU : NIn 6 w csU U)
    (hs : ∀ W, Calls Try.prog 10 #[.agg csP] W fun e w' => e = .returned (.bool true) ∧ Ext W w') (hs1 : ∀ W, Calls Try.prog 11 #[.agg csT] W fun e w' => e = .returned (.bool true) ∧ Ext W w')
    (hs2 : ∀ W, Calls Try.prog 11 #[.agg csU] W fun e w' => e = .returned (.bool true) ∧ Ext W w') :
    Calls Try.prog 4 #[.agg csP, .agg csT, .agg csU] w fun e w' => e = .returned (.bool true) ∧ Ext w w' := by
  have hrS := hT.rl (by omega)
  have hrU := hU.rl (by omega)
  have FP := Lib.hid hP
  have FT := Lib.hid hT
  have FU := Lib.hid hU
  have ZP := hP.size
  have ZT := hT.size
  have ZU := hU.size
  clear hP hT hU
  go_enter Try.func4, Try.ntmps4
  go_upto_region 1 with fail
  have hBP : Blk (((w.alloc (.cells csP 43)).alloc (.cells csT 41)).alloc (.cells csU 41)) w.heap.size 43 csP := Blk.ext (Blk.new_at w _ rfl _ _) (((Ext.refl _).alloc _).alloc _)
  have hBT : Blk (((w.alloc (.cells csP 43)).alloc (.cells csT 41)).alloc (.cells csU 41)) (w.heap.size + 1) 41 csT := Blk.ext (Blk.new_at (w.alloc (.cells csP 43)) _ (by simp) _ _) ((Ext.refl _).alloc _)
  have hBU : Blk (((w.alloc (.cells csP 43)).alloc (.cells csT 41)).alloc (.cells csU 41)) (w.heap.size + 1 + 1) 41 csU := Blk.new_at _ _ (by simp) _ _
  have hE : Ext w (((w.alloc (.cells csP 43)).alloc (.cells csT 41)).alloc (.cells csU 41)) := ((((Ext.refl _).alloc _).alloc _).alloc _)
  generalize (((w.alloc (.cells csP 43)).alloc (.cells csT 41)).alloc (.cells csU 41)) = wa at *
  generalize w.heap.size + 1 + 1 = BU at *
  generalize w.heap.size + 1 = BT at *
  generalize w.heap.size = BP at *
  have E1 := Lib.hid (show Ext w wa from hE)
  have FbP := Lib.hid hBP
  have FbT := Lib.hid hBT
  have FbU := Lib.hid hBU
  clear hE hBP hBT hBU
  refine wp_region_lit ?_
  refine mv_load (by rfl) _ _ (by rfl) BP _ _ _ (by rfl) FbP.out Try.underlying43 (by rfl) (by rw [ZP]; kernel_rfl) ?_
  (try simp only [Act.put, List.setIfInBounds_toArray, List.set_cons_zero, List.set_cons_succ])
  refine mv_call (by rfl) (by go_simp) (hs _) ?_
  rintro e w2 ⟨rfl, hx⟩
  refine ⟨_, rfl, ?_⟩
  (try simp only [Act.put, List.setIfInBounds_toArray, List.set_cons_zero, List.set_cons_succ])
  have E2 := Lib.hid (show Ext wa w2 from hx)
  refine mv_val (v := ?vm1) (w' := w2) (by rfl) ?hm1 ?rm1
  case hm1 => (go_simp <;> with_reducible rfl)
  (try simp only [Act.put, List.setIfInBounds_toArray, List.set_cons_zero, List.set_cons_succ])
  refine mv_val (v := ?vm2) (w' := w2) (by rfl) ?hm2 ?rm2
  case hm2 => (go_simp <;> with_reducible rfl)
  (try simp only [Act.put, List.setIfInBounds_toArray, List.set_cons_zero, List.set_cons_succ])
  refine mv_load (by rfl) _ _ (by rfl) BT _ _ _ (by rfl) (FbT.out.ext E2.out) Try.underlying41 (by rfl) (by rw [ZT]; kernel_rfl) ?_
  (try simp only [Act.put, List.setIfInBounds_toArray, List.set_cons_zero, List.set_cons_succ])
  refine mv_call (by rfl) (by go_simp) (hs1 _) ?_
  rintro e w3 ⟨rfl, hx⟩
  refine ⟨_, rfl, ?_⟩
  (try simp only [Act.put, List.setIfInBounds_toArray, List.set_cons_zero, List.set_cons_succ])
  have E3 := Lib.hid (show Ext w2 w3 from hx)
  refine mv_val (v := ?vm3) (w' := w3) (by rfl) ?hm3 ?rm3
  case hm3 => (go_simp <;> with_reducible rfl)
  (try simp only [Act.put, List.setIfInBounds_toArray, List.set_cons_zero, List.set_cons_succ])
  refine mv_val (v := ?vm4) (w' := w3) (by rfl) ?hm4 ?rm4
  case hm4 => (go_simp <;> with_reducible rfl)
  (try simp only [Act.put, List.setIfInBounds_toArray, List.set_cons_zero, List.set_cons_succ])
  refine mv_val (v := ?vm5) (w' := w3) (by rfl) ?hm5 ?rm5
  case hm5 => (go_simp <;> with_reducible rfl)
  (try simp only [Act.put, List.setIfInBounds_toArray, List.set_cons_zero, List.set_cons_succ])
  refine mv_load (by rfl) _ _ (by rfl) BU _ _ _ (by rfl) (FbU.out.ext (E2.out.trans E3.out)) Try.underlying41 (by rfl) (by rw [ZU]; kernel_rfl) ?_
  (try simp only [Act.put, List.setIfInBounds_toArray, List.set_cons_zero, List.set_cons_succ])
  refine mv_call (by rfl) (by go_simp) (hs2 _) ?_
  rintro e w4 ⟨rfl, hx⟩
  refine ⟨_, rfl, ?_⟩
  (try simp only [Act.put, List.setIfInBounds_toArray, List.set_cons_zero, List.set_cons_succ])
  have E4 := Lib.hid (show Ext w3 w4 from hx)
  refine mv_val (v := ?vm6) (w' := w4) (by rfl) ?hm6 ?rm6
  case hm6 => (go_simp <;> with_reducible rfl)
  (try simp only [Act.put, List.setIfInBounds_toArray, List.set_cons_zero, List.set_cons_succ])
  refine mv_val (v := ?vm7) (w' := w4) (by rfl) ?hm7 ?rm7
  case hm7 => (go_simp <;> with_reducible rfl)
  (try simp only [Act.put, List.setIfInBounds_toArray, List.set_cons_zero, List.set_cons_succ])
  go_upto_region 3 with fail
  refine wp_region_lit ?_
  refine mv_load (by rfl) _ _ (by rfl) BP _ _ _ (by rfl) (FbP.out.ext (E2.out.trans (E3.out.trans E4.out))) Try.underlying43 (by rfl) (by rw [ZP]; kernel_rfl) ?_
  (try simp only [Act.put, List.setIfInBounds_toArray, List.set_cons_zero, List.set_cons_succ])
  refine mv_call (by rfl) (by go_simp) (oExactQuad (FP.out.ext (E1.out.trans (E2.out.trans (E3.out.trans E4.out))))) ?_
  rintro e w5 ⟨csQ, rfl, hQ, hx⟩
  refine ⟨_, rfl, ?_⟩
  (try simp only [Act.put, List.setIfInBounds_toArray, List.set_cons_zero, List.set_cons_succ])
  have E5 := Lib.hid (show Ext w4 w5 from hx)
  have FQ := Lib.hid hQ
  have ZQ := hQ.size
  have OQ := hQ.one
  clear hQ hx
  refine mv_val (v := .pointer (some ⟨w5.heap.size, 0, none⟩)) (w' := w5.alloc (.cells #[.bool false, .slice none 0 0, .bool false, .slice none 0 0, .bool false, .slice none 0 0, .bool false, .slice none 0 0, .bool false, .slice none 0 0, .bool false, .slice none 0 0, .bool false, .slice none 0 0, .bool false, .slice none 0 0, .bool false, .slice none 0 0, .bool false, .slice none 0 0, .bool false, .slice none 0 0, .bool false, .slice none 0 0] 46)) (by rfl) (by go_simp) ?_
  (try simp only [Act.put, List.setIfInBounds_toArray, List.set_cons_zero, List.set_cons_succ])
  refine mv_store (by rfl) _ _ _ (by rfl) w5.heap.size 46 #[.bool false, .slice none 0 0, .bool false, .slice none 0 0, .bool false, .slice none 0 0, .bool false, .slice none 0 0, .bool false, .slice none 0 0, .bool false, .slice none 0 0, .bool false, .slice none 0 0, .bool false, .slice none 0 0, .bool false, .slice none 0 0, .bool false, .slice none 0 0, .bool false, .slice none 0 0, .bool false, .slice none 0 0] csQ (by rfl) (by rfl) (Blk.new w5 _ _) (by rw [ZQ]; rfl) (by rw [ZQ]; kernel_rfl) OQ ?_
  (try simp only [Act.put, List.setIfInBounds_toArray, List.set_cons_zero, List.set_cons_succ])
  obtain ⟨q1, q2⟩ := new_var w5 46 #[.bool false, .slice none 0 0, .bool false, .slice none 0 0, .bool false, .slice none 0 0, .bool false, .slice none 0 0, .bool false, .slice none 0 0, .bool false, .slice none 0 0, .bool false, .slice none 0 0, .bool false, .slice none 0 0, .bool false, .slice none 0 0, .bool false, .slice none 0 0, .bool false, .slice none 0 0, .bool false, .slice none 0 0] csQ (by rw [ZQ]; rfl)
  generalize (w5.alloc (.cells #[.bool false, .slice none 0 0, .bool false, .slice none 0 0, .bool false, .slice none 0 0, .bool false, .slice none 0 0, .bool false, .slice none 0 0, .bool false, .slice none 0 0, .bool false, .slice none 0 0, .bool false, .slice none 0 0, .bool false, .slice none 0 0, .bool false, .slice none 0 0, .bool false, .slice none 0 0, .bool false, .slice none 0 0] 46)).setCells w5.heap.size 0 csQ.toList = w6 at *
  generalize w5.heap.size = X6 at *
  have E6 := Lib.hid (show Ext w5 w6 from q1)
  have FbQ := Lib.hid q2
  clear q1 q2
  go_upto_region 4 with fail
  refine wp_region_lit ?_
  refine mv_load (by rfl) _ _ (by rfl) BT _ _ _ (by rfl) (FbT.out.ext (E2.out.trans (E3.out.trans (E4.out.trans (E5.out.trans E6.out))))) Try.underlying41 (by rfl) (by rw [ZT]; kernel_rfl) ?_
  (try simp only [Act.put, List.setIfInBounds_toArray, List.set_cons_zero, List.set_cons_succ])
  refine mv_load (by rfl) _ _ (by rfl) BU _ _ _ (by rfl) (FbU.out.ext (E2.out.trans (E3.out.trans (E4.out.trans (E5.out.trans E6.out))))) Try.underlying41 (by rfl) (by rw [ZU]; kernel_rfl) ?_
  (try simp only [Act.put, List.setIfInBounds_toArray, List.set_cons_zero, List.set_cons_succ])
  refine mv_call (by rfl) (by go_simp) (r03Mul (FT.out.ext (E1.out.trans (E2.out.trans (E3.out.trans (E4.out.trans (E5.out.trans E6.out)))))) (FU.out.ext (E1.out.trans (E2.out.trans (E3.out.trans (E4.out.trans (E5.out.trans E6.out)))))) (by omega)) ?_
  rintro e w7 ⟨csF, rfl, hF, hx⟩
  refine ⟨_, rfl, ?_⟩
  (try simp only [Act.put, List.setIfInBounds_toArray, List.set_cons_zero, List.set_cons_succ])
  have E7 := Lib.hid (show Ext w6 w7 from hx)
  have FF := Lib.hid hF
  have ZF := hF.size
  have OF := hF.one
  clear hF hx
  refine mv_val (v := .pointer (some ⟨w7.heap.size, 0, none⟩)) (w' := w7.alloc (.cells #[.bool false, .slice none 0 0, .bool false, .slice none 0 0] 41)) (by rfl) (by go_simp) ?_
  (try simp only [Act.put, List.setIfInBounds_toArray, List.set_cons_zero, List.set_cons_succ])
  refine mv_store (by rfl) _ _ _ (by rfl) w7.heap.size 41 #[.bool false, .slice none 0 0, .bool false, .slice none 0 0] csF (by rfl) (by rfl) (Blk.new w7 _ _) (by rw [ZF]; rfl) (by rw [ZF]; kernel_rfl) OF ?_
  (try simp only [Act.put, List.setIfInBounds_toArray, List.set_cons_zero, List.set_cons_succ])
  obtain ⟨q1, q2⟩ := new_var w7 41 #[.bool false, .slice none 0 0, .bool false, .slice none 0 0] csF (by rw [ZF]; rfl)
  generalize (w7.alloc (.cells #[.bool false, .slice none 0 0, .bool false, .slice none 0 0] 41)).setCells w7.heap.size 0 csF.toList = w8 at *
  generalize w7.heap.size = X8 at *
  have E8 := Lib.hid (show Ext w7 w8 from q1)
  have FbF := Lib.hid q2
  clear q1 q2
  go_upto_region 5 with fail
  go_cut [9] (fun s wx => ∃ X c, s = .pointer (some ⟨X, 0, none⟩) ∧ NIs wx c (S + (((1 : Int) : Rat) - S) * U) ∧ Blk wx X 41 c ∧ Ext w8 wx)
  case first =>
    refine wp_region_held_drew (S := fun x => Ext w8 x) (by kernel_rfl) (Ext.refl _).drew (fun _ => ?_)
    have E9 := Lib.hid (show Ext w8 w8.drew from (Ext.refl _).drew)
    refine md_load (i := 0) (listed' := #[true, false, false, false, false, false, false, false, false]) (by rfl) (by kernel_rfl) (by kernel_rfl) (by kernel_rfl) _ _ (by rfl) BT _ csT _ (by intro _ _ _ h; exact h) (by rfl) (by rfl) (fun x hx => ((FbT.out.ext (E2.out.trans (E3.out.trans (E4.out.trans (E5.out.trans (E6.out.trans (E7.out.trans E8.out)))))))).ext hx) Try.underlying41 (by rfl) (by rw [ZT]; kernel_rfl) E9.out (by kernel_rfl) ?_
    (try simp only [Act.put, List.setIfInBounds_toArray, List.set_cons_zero, List.set_cons_succ])
    refine md_load (i := 2) (listed' := #[true, false, true, false, false, false, false, false, false]) (by rfl) (by kernel_rfl) (by kernel_rfl) (by kernel_rfl) _ _ (by rfl) BT _ csT _ (by intro _ _ _ h; exact h) (by rfl) (by rfl) (fun x hx => ((FbT.out.ext (E2.out.trans (E3.out.trans (E4.out.trans (E5.out.trans (E6.out.trans (E7.out.trans E8.out)))))))).ext hx) Try.underlying41 (by rfl) (by rw [ZT]; kernel_rfl) E9.out (by kernel_rfl) ?_
    (try simp only [Act.put, List.setIfInBounds_toArray, List.set_cons_zero, List.set_cons_succ])
    refine md_load (i := 4) (listed' := #[true, false, true, false, true, false, false, false, false]) (by rfl) (by kernel_rfl) (by kernel_rfl) (by kernel_rfl) _ _ (by rfl) BU _ csU _ (by intro _ _ _ h; exact h) (by rfl) (by rfl) (fun x hx => ((FbU.out.ext (E2.out.trans (E3.out.trans (E4.out.trans (E5.out.trans (E6.out.trans (E7.out.trans E8.out)))))))).ext hx) Try.underlying41 (by rfl) (by rw [ZU]; kernel_rfl) E9.out (by kernel_rfl) ?_
    (try simp only [Act.put, List.setIfInBounds_toArray, List.set_cons_zero, List.set_cons_succ])
    refine md_call_or (i := 1) (j := 7) (listed' := #[true, true, true, false, true, false, false, false, false]) (lj := #[true, false, true, false, true, false, false, true, false]) (u := .pointer (some ⟨w8.drew.heap.size, 0, none⟩)) (wj := (w8.drew.alloc (.cells #[.bool false, .slice none 0 0, .bool false, .slice none 0 0] 41))) (by rfl) (by rfl) (by kernel_rfl) (by rfl) (by go_simp) (r03FromInt 1 _ (by omega) (by omega)) (by kernel_rfl) (by rfl) (by go_simp) (E9.out.alloc _) (by kernel_rfl) ?_ ?_
    · rintro e w10 ⟨c1, rfl, hc, hx⟩
      have E10 := Lib.hid (show Ext w8.drew w10 from hx)
      have Fone := Lib.hid hc
      clear hc hx
      refine ⟨_, rfl, (E9.out.trans E10.out), ?_⟩
      (try simp only [Act.put, List.setIfInBounds_toArray, List.set_cons_zero, List.set_cons_succ])
      refine md_call_or (i := 3) (j := 7) (listed' := #[true, true, true, true, true, false, false, false, false]) (lj := #[true, true, true, false, true, false, false, true, false]) (u := .pointer (some ⟨w10.heap.size, 0, none⟩)) (wj := (w10.alloc (.cells #[.bool false, .slice none 0 0, .bool false, .slice none 0 0] 41))) (by rfl) (by rfl) (by kernel_rfl) (by rfl) (by go_simp) (r03Sub (L := 6) (Fone.out.isIn (Nat.le_trans rl1 (by omega))) (FT.out.ext (E1.out.trans (E2.out.trans (E3.out.trans (E4.out.trans (E5.out.trans (E6.out.trans (E7.out.trans (E8.out.trans (E9.out.trans E10.out)))))))))) (by omega)) (by kernel_rfl) (by rfl) (by go_simp) ((E9.out.trans E10.out).alloc _) (by kernel_rfl) ?_ ?_
      · rintro e w11 ⟨c2, rfl, hc, hx⟩
        have E11 := Lib.hid (show Ext w10 w11 from hx)
        have Fdif := Lib.hid hc
        clear hc hx
        refine ⟨_, rfl, (E9.out.trans (E10.out.trans E11.out)), ?_⟩
        (try simp only [Act.put, List.setIfInBounds_toArray, List.set_cons_zero, List.set_cons_succ])
        refine md_call_or (i := 5) (j := 7) (listed' := #[true, true, true, true, true, true, false, false, false]) (lj := #[true, true, true, true, true, false, false, true, false]) (u := .pointer (some ⟨w11.heap.size, 0, none⟩)) (wj := (w11.alloc (.cells #[.bool false, .slice none 0 0, .bool false, .slice none 0 0] 41))) (by rfl) (by rfl) (by kernel_rfl) (by rfl) (by go_simp) (r03Mul (L := 8) (Fdif.out.isIn (by have := Nm.rl_sub ((1 : Int) : Rat) S; have := rl1; omega)) ((FU.out.ext (E1.out.trans (E2.out.trans (E3.out.trans (E4.out.trans (E5.out.trans (E6.out.trans (E7.out.trans (E8.out.trans (E9.out.trans (E10.out.trans E11.out))))))))))).mono (by omega)) (by omega)) (by kernel_rfl) (by rfl) (by go_simp) ((E9.out.trans (E10.out.trans E11.out)).alloc _) (by kernel_rfl) ?_ ?_
        · rintro e w12 ⟨c3, rfl, hc, hx⟩
          have E12 := Lib.hid (show Ext w11 w12 from hx)
          have Fmul := Lib.hid hc
          clear hc hx
          refine ⟨_, rfl, (E9.out.trans (E10.out.trans (E11.out.trans E12.out))), ?_⟩
          (try simp only [Act.put, List.setIfInBounds_toArray, List.set_cons_zero, List.set_cons_succ])
          refine md_call_or (i := 6) (j := 7) (listed' := #[true, true, true, true, true, true, true, false, false]) (lj := #[true, true, true, true, true, true, false, true, false]) (u := .pointer (some ⟨w12.heap.size, 0, none⟩)) (wj := (w12.alloc (.cells #[.bool false, .slice none 0 0, .bool false, .slice none 0 0] 41))) (by rfl) (by rfl) (by kernel_rfl) (by rfl) (by go_simp) (r03Add (L := 14) ((FT.out.ext (E1.out.trans (E2.out.trans (E3.out.trans (E4.out.trans (E5.out.trans (E6.out.trans (E7.out.trans (E8.out.trans (E9.out.trans (E10.out.trans (E11.out.trans E12.out)))))))))))).mono (by omega)) (Fmul.out.isIn (by have := Nm.rl_sub ((1 : Int) : Rat) S; have := Nm.rl_mul (((1 : Int) : Rat) - S) U; have := rl1; omega)) (by omega)) (by kernel_rfl) (by rfl) (by go_simp) ((E9.out.trans (E10.out.trans (E11.out.trans E12.out))).alloc _) (by kernel_rfl) ?_ ?_
          · rintro e w13 ⟨c4, rfl, hc, hx⟩
            have E13 := Lib.hid (show Ext w12 w13 from hx)
            have Fsum := Lib.hid hc
            clear hc hx
            refine ⟨_, rfl, (E9.out.trans (E10.out.trans (E11.out.trans (E12.out.trans E13.out)))), ?_⟩
            (try simp only [Act.put, List.setIfInBounds_toArray, List.set_cons_zero, List.set_cons_succ])
            refine md_one (i := 7) (listed' := #[true, true, true, true, true, true, true, true, false]) (v := .pointer (some ⟨w13.heap.size, 0, none⟩)) (w' := (w13.alloc (.cells #[.bool false, .slice none 0 0, .bool false, .slice none 0 0] 41))) (by rfl) (by kernel_rfl) (by rfl) (by go_simp) ((E9.out.trans (E10.out.trans (E11.out.trans (E12.out.trans E13.out)))).alloc _) (by kernel_rfl) ?_
            (try simp only [Act.put, List.setIfInBounds_toArray, List.set_cons_zero, List.set_cons_succ])
            have E14 := Lib.hid (show Ext w13 (w13.alloc (.cells #[.bool false, .slice none 0 0, .bool false, .slice none 0 0] 41)) from (Ext.refl _).alloc _)
            have Fnv := Lib.hid (Blk.new w13 41 #[.bool false, .slice none 0 0, .bool false, .slice none 0 0])
            have hXX : w8.heap.size ≤ w13.heap.size := (E9.out.trans (E10.out.trans (E11.out.trans (E12.out.trans E13.out)))).size
            have hv := (Fsum.out.ext E14.out)
            have hbx := Fnv.out
            have hz := hv.size
            have o8 := Own.setCells (w13.alloc (.cells #[.bool false, .slice none 0 0, .bool false, .slice none 0 0] 41)) w13.heap.size c4
            have hS8 : Ext w8 ((w13.alloc (.cells #[.bool false, .slice none 0 0, .bool false, .slice none 0 0] 41)).setCells w13.heap.size 0 c4.toList) := o8.ext (E9.out.trans (E10.out.trans (E11.out.trans (E12.out.trans (E13.out.trans E14.out))))) hXX
            refine md_store (i := 8) (listed' := #[true, true, true, true, true, true, true, true, true]) (by rfl) (by kernel_rfl) (by rfl) _ _ _ (by rfl) w13.heap.size 41 #[.bool false, .slice none 0 0, .bool false, .slice none 0 0] c4 (by rfl) (by rfl) hbx (by rw [hz]; rfl) (by rw [hz]; kernel_rfl) hv.one hS8 (by kernel_rfl) ?_
            (try simp only [Act.put, List.setIfInBounds_toArray, List.set_cons_zero, List.set_cons_succ])
            refine wpAnyH_done (by kernel_rfl) ?_ _
            go_wp2_with fail
            go_meet
            exact ⟨_, _, rfl, NIs.own hv hbx noUn o8, hbx.setCells c4 (by rw [hz]; rfl), hS8⟩
          · (try simp only [Act.put, List.setIfInBounds_toArray, List.set_cons_zero, List.set_cons_succ])
            have E13 := Lib.hid (show Ext w12 (w12.alloc (.cells #[.bool false, .slice none 0 0, .bool false, .slice none 0 0] 41)) from (Ext.refl _).alloc _)
            have Fnv := Lib.hid (Blk.new w12 41 #[.bool false, .slice none 0 0, .bool false, .slice none 0 0])
            have hXX : w8.heap.size ≤ w12.heap.size := (E9.out.trans (E10.out.trans (E11.out.trans E12.out))).size
            refine md_call (i := 6) (listed' := #[true, true, true, true, true, true, true, true, false]) (by rfl) (by kernel_rfl) (by rfl) (by go_simp) (r03Add (L := 14) ((FT.out.ext (E1.out.trans (E2.out.trans (E3.out.trans (E4.out.trans (E5.out.trans (E6.out.trans (E7.out.trans (E8.out.trans (E9.out.trans (E10.out.trans (E11.out.trans (E12.out.trans E13.out))))))))))))).mono (by omega)) ((Fmul.out.ext E13.out).isIn (by have := Nm.rl_sub ((1 : Int) : Rat) S; have := Nm.rl_mul (((1 : Int) : Rat) - S) U; have := rl1; omega)) (by omega)) (by kernel_rfl) ?_
            rintro e w14 ⟨c4, rfl, hc, hx⟩
            have E14 := Lib.hid (show Ext (w12.alloc (.cells #[.bool false, .slice none 0 0, .bool false, .slice none 0 0] 41)) w14 from hx)
            refine ⟨_, rfl, (E9.out.trans (E10.out.trans (E11.out.trans (E12.out.trans (E13.out.trans E14.out))))), ?_⟩
            (try simp only [Act.put, List.setIfInBounds_toArray, List.set_cons_zero, List.set_cons_succ])
            have Fsum := Lib.hid hc
            clear hc hx
            have hv := Fsum.out
            have hbx := (Fnv.out.ext E14.out)
            have hz := hv.size
            have o8 := Own.setCells w14 w12.heap.size c4
            have hS8 : Ext w8 (w14.setCells w12.heap.size 0 c4.toList) := o8.ext (E9.out.trans (E10.out.trans (E11.out.trans (E12.out.trans (E13.out.trans E14.out))))) hXX
            refine md_store (i := 8) (listed' := #[true, true, true, true, true, true, true, true, true]) (by rfl) (by kernel_rfl) (by rfl) _ _ _ (by rfl) w12.heap.size 41 #[.bool false, .slice none 0 0, .bool false, .slice none 0 0] c4 (by rfl) (by rfl) hbx (by rw [hz]; rfl) (by rw [hz]; kernel_rfl) hv.one hS8 (by kernel_rfl) ?_
            (try simp only [Act.put, List.setIfInBounds_toArray, List.set_cons_zero, List.set_cons_succ])
            refine wpAnyH_done (by kernel_rfl) ?_ _
            go_wp2_with fail
            go_meet
            exact ⟨_, _, rfl, NIs.own hv hbx noUn o8, hbx.setCells c4 (by rw [hz]; rfl), hS8⟩
        · (try simp only [Act.put, List.setIfInBounds_toArray, List.set_cons_zero, List.set_cons_succ])
          have E12 := Lib.hid (show Ext w11 (w11.alloc (.cells #[.bool false, .slice none 0 0, .bool false, .slice none 0 0] 41)) from (Ext.refl _).alloc _)
          have Fnv := Lib.hid (Blk.new w11 41 #[.bool false, .slice none 0 0, .bool false, .slice none 0 0])
          have hXX : w8.heap.size ≤ w11.heap.size := (E9.out.trans (E10.out.trans E11.out)).size
          refine md_call (i := 5) (listed' := #[true, true, true, true, true, true, false, true, false]) (by rfl) (by kernel_rfl) (by rfl) (by go_simp) (r03Mul (L := 8) ((Fdif.out.ext E12.out).isIn (by have := Nm.rl_sub ((1 : Int) : Rat) S; have := rl1; omega)) ((FU.out.ext (E1.out.trans (E2.out.trans (E3.out.trans (E4.out.trans (E5.out.trans (E6.out.trans (E7.out.trans (E8.out.trans (E9.out.trans (E10.out.trans (E11.out.trans E12.out)))))))))))).mono (by omega)) (by omega)) (by kernel_rfl) ?_
          rintro e w13 ⟨c3, rfl, hc, hx⟩
          have E13 := Lib.hid (show Ext (w11.alloc (.cells #[.bool false, .slice none 0 0, .bool false, .slice none 0 0] 41)) w13 from hx)
          refine ⟨_, rfl, (E9.out.trans (E10.out.trans (E11.out.trans (E12.out.trans E13.out)))), ?_⟩
          (try simp only [Act.put, List.setIfInBounds_toArray, List.set_cons_zero, List.set_cons_succ])
          have Fmul := Lib.hid hc
          clear hc hx
          refine md_call (i := 6) (listed' := #[true, true, true, true, true, true, true, true, false]) (by rfl) (by kernel_rfl) (by rfl) (by go_simp) (r03Add (L := 14) ((FT.out.ext (E1.out.trans (E2.out.trans (E3.out.trans (E4.out.trans (E5.out.trans (E6.out.trans (E7.out.trans (E8.out.trans (E9.out.trans (E10.out.trans (E11.out.trans (E12.out.trans E13.out))))))))))))).mono (by omega)) (Fmul.out.isIn (by have := Nm.rl_sub ((1 : Int) : Rat) S; have := Nm.rl_mul (((1 : Int) : Rat) - S) U; have := rl1; omega)) (by omega)) (by kernel_rfl) ?_
          rintro e w14 ⟨c4, rfl, hc, hx⟩
          have E14 := Lib.hid (show Ext w13 w14 from hx)
          refine ⟨_, rfl, (E9.out.trans (E10.out.trans (E11.out.trans (E12.out.trans (E13.out.trans E14.out))))), ?_⟩
          (try simp only [Act.put, List.setIfInBounds_toArray, List.set_cons_zero, List.set_cons_succ])
          have Fsum := Lib.hid hc
          clear hc hx
          have hv := Fsum.out
          have hbx := (Fnv.out.ext (E13.out.trans E14.out))
          have hz := hv.size
          have o8 := Own.setCells w14 w11.heap.size c4
          have hS8 : Ext w8 (w14.setCells w11.heap.size 0 c4.toList) := o8.ext (E9.out.trans (E10.out.trans (E11.out.trans (E12.out.trans (E13.out.trans E14.out))))) hXX
          refine md_store (i := 8) (listed' := #[true, true, true, true, true, true, true, true, true]) (by rfl) (by kernel_rfl) (by rfl) _ _ _ (by rfl) w11.heap.size 41 #[.bool false, .slice none 0 0, .bool false, .slice none 0 0] c4 (by rfl) (by rfl) hbx (by rw [hz]; rfl) (by rw [hz]; kernel_rfl) hv.one hS8 (by kernel_rfl) ?_
          (try simp only [Act.put, List.setIfInBounds_toArray, List.set_cons_zero, List.set_cons_succ])
          refine wpAnyH_done (by kernel_rfl) ?_ _
          go_wp2_with fail
          go_meet
          exact ⟨_, _, rfl, NIs.own hv hbx noUn o8, hbx.setCells c4 (by rw [hz]; rfl), hS8⟩
      · (try simp only [Act.put, List.setIfInBounds_toArray, List.set_cons_zero, List.set_cons_succ])
        have E11 := Lib.hid (show Ext w10 (w10.alloc (.cells #[.bool false, .slice none 0 0, .bool false, .slice none 0 0] 41)) from (Ext.refl _).alloc _)
        have Fnv := Lib.hid (Blk.new w10 41 #[.bool false, .slice none 0 0, .bool false, .slice none 0 0])
        have hXX : w8.heap.size ≤ w10.heap.size := (E9.out.trans E10.out).size
        refine md_call (i := 3) (listed' := #[true, true, true, true, true, false, false, true, false]) (by rfl) (by kernel_rfl) (by rfl) (by go_simp) (r03Sub (L := 6) ((Fone.out.ext E11.out).isIn (Nat.le_trans rl1 (by omega))) (FT.out.ext (E1.out.trans (E2.out.trans (E3.out.trans (E4.out.trans (E5.out.trans (E6.out.trans (E7.out.trans (E8.out.trans (E9.out.trans (E10.out.trans E11.out))))))))))) (by omega)) (by kernel_rfl) ?_
        rintro e w12 ⟨c2, rfl, hc, hx⟩
        have E12 := Lib.hid (show Ext (w10.alloc (.cells #[.bool false, .slice none 0 0, .bool false, .slice none 0 0] 41)) w12 from hx)
        refine ⟨_, rfl, (E9.out.trans (E10.out.trans (E11.out.trans E12.out))), ?_⟩
        (try simp only [Act.put, List.setIfInBounds_toArray, List.set_cons_zero, List.set_cons_succ])
        have Fdif := Lib.hid hc
        clear hc hx
        refine md_call (i := 5) (listed' := #[true, true, true, true, true, true, false, true, false]) (by rfl) (by kernel_rfl) (by rfl) (by go_simp) (r03Mul (L := 8) (Fdif.out.isIn (by have := Nm.rl_sub ((1 : Int) : Rat) S; have := rl1; omega)) ((FU.out.ext (E1.out.trans (E2.out.trans (E3.out.trans (E4.out.trans (E5.out.trans (E6.out.trans (E7.out.trans (E8.out.trans (E9.out.trans (E10.out.trans (E11.out.trans E12.out)))))))))))).mono (by omega)) (by omega)) (by kernel_rfl) ?_
        rintro e w13 ⟨c3, rfl, hc, hx⟩
        have E13 := Lib.hid (show Ext w12 w13 from hx)
        refine ⟨_, rfl, (E9.out.trans (E10.out.trans (E11.out.trans (E12.out.trans E13.out)))), ?_⟩
        (try simp only [Act.put, List.setIfInBounds_toArray, List.set_cons_zero, List.set_cons_succ])
        have Fmul := Lib.hid hc
        clear hc hx
        refine md_call (i := 6) (listed' := #[true, true, true, true, true, true, true, true, false]) (by rfl) (by kernel_rfl) (by rfl) (by go_simp) (r03Add (L := 14) ((FT.out.ext (E1.out.trans (E2.out.trans (E3.out.trans (E4.out.trans (E5.out.trans (E6.out.trans (E7.out.trans (E8.out.trans (E9.out.trans (E10.out.trans (E11.out.trans (E12.out.trans E13.out))))))))))))).mono (by omega)) (Fmul.out.isIn (by have := Nm.rl_sub ((1 : Int) : Rat) S; have := Nm.rl_mul (((1 : Int) : Rat) - S) U; have := rl1; omega)) (by omega)) (by kernel_rfl) ?_
        rintro e w14 ⟨c4, rfl, hc, hx⟩
        have E14 := Lib.hid (show Ext w13 w14 from hx)
        refine ⟨_, rfl, (E9.out.trans (E10.out.trans (E11.out.trans (E12.out.trans (E13.out.trans E14.out))))), ?_⟩
        (try simp only [Act.put, List.setIfInBounds_toArray, List.set_cons_zero, List.set_cons_succ])
        have Fsum := Lib.hid hc
        clear hc hx
        have hv := Fsum.out
        have hbx := (Fnv.out.ext (E12.out.trans (E13.out.trans E14.out)))
        have hz := hv.size
        have o8 := Own.setCells w14 w10.heap.size c4
        have hS8 : Ext w8 (w14.setCells w10.heap.size 0 c4.toList) := o8.ext (E9.out.trans (E10.out.trans (E11.out.trans (E12.out.trans (E13.out.trans E14.out))))) hXX
        refine md_store (i := 8) (listed' := #[true, true, true, true, true, true, true, true, true]) (by rfl) (by kernel_rfl) (by rfl) _ _ _ (by rfl) w10.heap.size 41 #[.bool false, .slice none 0 0, .bool false, .slice none 0 0] c4 (by rfl) (by rfl) hbx (by rw [hz]; rfl) (by rw [hz]; kernel_rfl) hv.one hS8 (by kernel_rfl) ?_
        (try simp only [Act.put, List.setIfInBounds_toArray, List.set_cons_zero, List.set_cons_succ])
        refine wpAnyH_done (by kernel_rfl) ?_ _
        go_wp2_with fail
        go_meet
        exact ⟨_, _, rfl, NIs.own hv hbx noUn o8, hbx.setCells c4 (by rw [hz]; rfl), hS8⟩
    · (try simp only [Act.put, List.setIfInBounds_toArray, List.set_cons_zero, List.set_cons_succ])
      have E10 := Lib.hid (show Ext w8.drew (w8.drew.alloc (.cells #[.bool false, .slice none 0 0, .bool false, .slice none 0 0] 41)) from (Ext.refl _).alloc _)
      have Fnv := Lib.hid (Blk.new w8.drew 41 #[.bool false, .slice none 0 0, .bool false, .slice none 0 0])
      have hXX : w8.heap.size ≤ w8.drew.heap.size := E9.out.size
      refine md_call (i := 1) (listed' := #[true, true, true, false, true, false, false, true, false]) (by rfl) (by kernel_rfl) (by rfl) (by go_simp) (r03FromInt 1 _ (by omega) (by omega)) (by kernel_rfl) ?_
      rintro e w11 ⟨c1, rfl, hc, hx⟩
      have E11 := Lib.hid (show Ext (w8.drew.alloc (.cells #[.bool false, .slice none 0 0, .bool false, .slice none 0 0] 41)) w11 from hx)
      refine ⟨_, rfl, (E9.out.trans (E10.out.trans E11.out)), ?_⟩
      (try simp only [Act.put, List.setIfInBounds_toArray, List.set_cons_zero, List.set_cons_succ])
      have Fone := Lib.hid hc
      clear hc hx
      refine md_call (i := 3) (listed' := #[true, true, true, true, true, false, false, true, false]) (by rfl) (by kernel_rfl) (by rfl) (by go_simp) (r03Sub (L := 6) (Fone.out.isIn (Nat.le_trans rl1 (by omega))) (FT.out.ext (E1.out.trans (E2.out.trans (E3.out.trans (E4.out.trans (E5.out.trans (E6.out.trans (E7.out.trans (E8.out.trans (E9.out.trans (E10.out.trans E11.out))))))))))) (by omega)) (by kernel_rfl) ?_
      rintro e w12 ⟨c2, rfl, hc, hx⟩
      have E12 := Lib.hid (show Ext w11 w12 from hx)
      refine ⟨_, rfl, (E9.out.trans (E10.out.trans (E11.out.trans E12.out))), ?_⟩
      (try simp only [Act.put, List.setIfInBounds_toArray, List.set_cons_zero, List.set_cons_succ])
      have Fdif := Lib.hid hc
      clear hc hx
      refine md_call (i := 5) (listed' := #[true, true, true, true, true, true, false, true, false]) (by rfl) (by kernel_rfl) (by rfl) (by go_simp) (r03Mul (L := 8) (Fdif.out.isIn (by have := Nm.rl_sub ((1 : Int) : Rat) S; have := rl1; omega)) ((FU.out.ext (E1.out.trans (E2.out.trans (E3.out.trans (E4.out.trans (E5.out.trans (E6.out.trans (E7.out.trans (E8.out.trans (E9.out.trans (E10.out.trans (E11.out.trans E12.out)))))))))))).mono (by omega)) (by omega)) (by kernel_rfl) ?_
      rintro e w13 ⟨c3, rfl, hc, hx⟩
      have E13 := Lib.hid (show Ext w12 w13 from hx)
      refine ⟨_, rfl, (E9.out.trans (E10.out.trans (E11.out.trans (E12.out.trans E13.out)))), ?_⟩
      (try simp only [Act.put, List.setIfInBounds_toArray, List.set_cons_zero, List.set_cons_succ])
      have Fmul := Lib.hid hc
      clear hc hx
      refine md_call (i := 6) (listed' := #[true, true, true, true, true, true, true, true, false]) (by rfl) (by kernel_rfl) (by rfl) (by go_simp) (r03Add (L := 14) ((FT.out.ext (E1.out.trans (E2.out.trans (E3.out.trans (E4.out.trans (E5.out.trans (E6.out.trans (E7.out.trans (E8.out.trans (E9.out.trans (E10.out.trans (E11.out.trans (E12.out.trans E13.out))))))))))))).mono (by omega)) (Fmul.out.isIn (by have := Nm.rl_sub ((1 : Int) : Rat) S; have := Nm.rl_mul (((1 : Int) : Rat) - S) U; have := rl1; omega)) (by omega)) (by kernel_rfl) ?_
      rintro e w14 ⟨c4, rfl, hc, hx⟩
      have E14 := Lib.hid (show Ext w13 w14 from hx)
      refine ⟨_, rfl, (E9.out.trans (E10.out.trans (E11.out.trans (E12.out.trans (E13.out.trans E14.out))))), ?_⟩
      (try simp only [Act.put, List.setIfInBounds_toArray, List.set_cons_zero, List.set_cons_succ])
      have Fsum := Lib.hid hc
      clear hc hx
      have hv := Fsum.out
      have hbx := (Fnv.out.ext (E11.out.trans (E12.out.trans (E13.out.trans E14.out))))
      have hz := hv.size
      have o8 := Own.setCells w14 w8.drew.heap.size c4
      have hS8 : Ext w8 (w14.setCells w8.drew.heap.size 0 c4.toList) := o8.ext (E9.out.trans (E10.out.trans (E11.out.trans (E12.out.trans (E13.out.trans E14.out))))) hXX
      refine md_store (i := 8) (listed' := #[true, true, true, true, true, true, true, true, true]) (by rfl) (by kernel_rfl) (by rfl) _ _ _ (by rfl) w8.drew.heap.size 41 #[.bool false, .slice none 0 0, .bool false, .slice none 0 0] c4 (by rfl) (by rfl) hbx (by rw [hz]; rfl) (by rw [hz]; kernel_rfl) hv.one hS8 (by kernel_rfl) ?_
      (try simp only [Act.put, List.setIfInBounds_toArray, List.set_cons_zero, List.set_cons_succ])
      refine wpAnyH_done (by kernel_rfl) ?_ _
      go_wp2_with fail
      go_meet
      exact ⟨_, _, rfl, NIs.own hv hbx noUn o8, hbx.setCells c4 (by rw [hz]; rfl), hS8⟩
  case rest =>
    obtain ⟨XL, csL, rfl, hL, hb, hx⟩ := hcut
    have E9 := Lib.hid (show Ext w8 wc from hx)
    have FL := Lib.hid hL
    have ZL := hL.size
    have hrL : Nm.rl (S + (((1 : Int) : Rat) - S) * U) ≤ 21 := by
      have h1 := Nm.rl_sub ((1 : Int) : Rat) S
      have h2 := Nm.rl_mul (((1 : Int) : Rat) - S) U
      have h3 := Nm.rl_add S ((((1 : Int) : Rat) - S) * U)
      have h4 := rl1
      omega
    have hrF : Nm.rl (S * U) ≤ 12 := by have := Nm.rl_mul S U; omega
    have FbL := Lib.hid hb
    clear hL hb hx
    have one_eq : ((1 : Int) : Rat) = 1 := rfl
    go_upto_region 6 with fail
    refine wp_region_lit ?_
    refine mv_load (by rfl) _ _ (by rfl) X6 _ _ _ (by rfl) (FbQ.out.ext (E7.out.trans (E8.out.trans E9.out))) Try.underlying46 (by rfl) (by rw [ZQ]; kernel_rfl) ?_
    (try simp only [Act.put, List.setIfInBounds_toArray, List.set_cons_zero, List.set_cons_succ])
    refine mv_load (by rfl) _ _ (by rfl) BT _ _ _ (by rfl) (FbT.out.ext (E2.out.trans (E3.out.trans (E4.out.trans (E5.out.trans (E6.out.trans (E7.out.trans (E8.out.trans E9.out)))))))) Try.underlying41 (by rfl) (by rw [ZT]; kernel_rfl) ?_
    (try simp only [Act.put, List.setIfInBounds_toArray, List.set_cons_zero, List.set_cons_succ])
    refine mv_call (by rfl) (by go_simp) (oSplitQuad (FQ.out.ext (E6.out.trans (E7.out.trans (E8.out.trans E9.out)))) (FT.out.ext (E1.out.trans (E2.out.trans (E3.out.trans (E4.out.trans (E5.out.trans (E6.out.trans (E7.out.trans (E8.out.trans E9.out))))))))) (by omega) (by omega)) ?_
    rintro e w10 ⟨csA, csB, rfl, h1, h2, hx⟩
    refine ⟨_, rfl, ?_⟩
    (try simp only [Act.put, List.setIfInBounds_toArray, List.set_cons_zero, List.set_cons_succ])
    have E10 := Lib.hid (show Ext wc w10 from hx)
    have FA := Lib.hid h1
    have FB := Lib.hid h2
    have ZA := h1.size
    have OA := h1.one
    have ZB := h2.size
    have OB := h2.one
    clear h1 h2 hx
    refine mv_val (v := ?vm8) (w' := w10) (by rfl) ?hm8 ?rm8
    case hm8 => (go_simp <;> with_reducible rfl)
    (try simp only [Act.put, List.setIfInBounds_toArray, List.set_cons_zero, List.set_cons_succ])
    refine mv_val (v := ?vm9) (w' := w10) (by rfl) ?hm9 ?rm9
    case hm9 => (go_simp <;> with_reducible rfl)
    (try simp only [Act.put, List.setIfInBounds_toArray, List.set_cons_zero, List.set_cons_succ])
    refine mv_val (v := ?vm10) (w' := w10) (by rfl) ?hm10 ?rm10
    case hm10 => (go_simp <;> with_reducible rfl)
    (try simp only [Act.put, List.setIfInBounds_toArray, List.set_cons_zero, List.set_cons_succ])
    obtain ⟨q1, q2, q3, q4, q5⟩ := new_var2 w10 46 #[.bool false, .slice none 0 0, .bool false, .slice none 0 0, .bool false, .slice none 0 0, .bool false, .slice none 0 0, .bool false, .slice none 0 0, .bool false, .slice none 0 0, .bool false, .slice none 0 0, .bool false, .slice none 0 0, .bool false, .slice none 0 0, .bool false, .slice none 0 0, .bool false, .slice none 0 0, .bool false, .slice none 0 0] csA csB (by rw [ZA]; rfl) (by rw [ZB]; rfl)
    refine mv_val (v := .pointer (some ⟨w10.heap.size, 0, none⟩)) (w' := w10.alloc (.cells #[.bool false, .slice none 0 0, .bool false, .slice none 0 0, .bool false, .slice none 0 0, .bool false, .slice none 0 0, .bool false, .slice none 0 0, .bool false, .slice none 0 0, .bool false, .slice none 0 0, .bool false, .slice none 0 0, .bool false, .slice none 0 0, .bool false, .slice none 0 0, .bool false, .slice none 0 0, .bool false, .slice none 0 0] 46)) (by rfl) (by go_simp) ?_
    (try simp only [Act.put, List.setIfInBounds_toArray, List.set_cons_zero, List.set_cons_succ])
    refine mv_val (v := .pointer (some ⟨(w10.alloc (.cells #[.bool false, .slice none 0 0, .bool false, .slice none 0 0, .bool false, .slice none 0 0, .bool false, .slice none 0 0, .bool false, .slice none 0 0, .bool false, .slice none 0 0, .bool false, .slice none 0 0, .bool false, .slice none 0 0, .bool false, .slice none 0 0, .bool false, .slice none 0 0, .bool false, .slice none 0 0, .bool false, .slice none 0 0] 46)).heap.size, 0, none⟩)) (w' := (w10.alloc (.cells #[.bool false, .slice none 0 0, .bool false, .slice none 0 0, .bool false, .slice none 0 0, .bool false, .slice none 0 0, .bool false, .slice none 0 0, .bool false, .slice none 0 0, .bool false, .slice none 0 0, .bool false, .slice none 0 0, .bool false, .slice none 0 0, .bool false, .slice none 0 0, .bool false, .slice none 0 0, .bool false, .slice none 0 0] 46)).alloc (.cells #[.bool false, .slice none 0 0, .bool false, .slice none 0 0, .bool false, .slice none 0 0, .bool false, .slice none 0 0, .bool false, .slice none 0 0, .bool false, .slice none 0 0, .bool false, .slice none 0 0, .bool false, .slice none 0 0, .bool false, .slice none 0 0, .bool false, .slice none 0 0, .bool false, .slice none 0 0, .bool false, .slice none 0 0] 46)) (by rfl) (by go_simp) ?_
    (try simp only [Act.put, List.setIfInBounds_toArray, List.set_cons_zero, List.set_cons_succ])
    refine mv_store (by rfl) _ _ _ (by rfl) w10.heap.size 46 #[.bool false, .slice none 0 0, .bool false, .slice none 0 0, .bool false, .slice none 0 0, .bool false, .slice none 0 0, .bool false, .slice none 0 0, .bool false, .slice none 0 0, .bool false, .slice none 0 0, .bool false, .slice none 0 0, .bool false, .slice none 0 0, .bool false, .slice none 0 0, .bool false, .slice none 0 0, .bool false, .slice none 0 0] csA (by rfl) (by rfl) q1 (by rw [ZA]; rfl) (by rw [ZA]; kernel_rfl) OA ?_
    (try simp only [Act.put, List.setIfInBounds_toArray, List.set_cons_zero, List.set_cons_succ])
    refine mv_store (by rfl) _ _ _ (by rfl) (w10.alloc (.cells #[.bool false, .slice none 0 0, .bool false, .slice none 0 0, .bool false, .slice none 0 0, .bool false, .slice none 0 0, .bool false, .slice none 0 0, .bool false, .slice none 0 0, .bool false, .slice none 0 0, .bool false, .slice none 0 0, .bool false, .slice none 0 0, .bool false, .slice none 0 0, .bool false, .slice none 0 0, .bool false, .slice none 0 0] 46)).heap.size 46 #[.bool false, .slice none 0 0, .bool false, .slice none 0 0, .bool false, .slice none 0 0, .bool false, .slice none 0 0, .bool false, .slice none 0 0, .bool false, .slice none 0 0, .bool false, .slice none 0 0, .bool false, .slice none 0 0, .bool false, .slice none 0 0, .bool false, .slice none 0 0, .bool false, .slice none 0 0, .bool false, .slice none 0 0] csB (by rfl) (by rfl) q2 (by rw [ZB]; rfl) (by rw [ZB]; kernel_rfl) OB ?_
    (try simp only [Act.put, List.setIfInBounds_toArray, List.set_cons_zero, List.set_cons_succ])
    clear q1 q2
    generalize (((w10.alloc (.cells #[.bool false, .slice none 0 0, .bool false, .slice none 0 0, .bool false, .slice none 0 0, .bool false, .slice none 0 0, .bool false, .slice none 0 0, .bool false, .slice none 0 0, .bool false, .slice none 0 0, .bool false, .slice none 0 0, .bool false, .slice none 0 0, .bool false, .slice none 0 0, .bool false, .slice none 0 0, .bool false, .slice none 0 0] 46)).alloc (.cells #[.bool false, .slice none 0 0, .bool false, .slice none 0 0, .bool false, .slice none 0 0, .bool false, .slice none 0 0, .bool false, .slice none 0 0, .bool false, .slice none 0 0, .bool false, .slice none 0 0, .bool false, .slice none 0 0, .bool false, .slice none 0 0, .bool false, .slice none 0 0, .bool false, .slice none 0 0, .bool false, .slice none 0 0] 46)).setCells w10.heap.size 0 csA.toList).setCells (w10.alloc (.cells #[.bool false, .slice none 0 0, .bool false, .slice none 0 0, .bool false, .slice none 0 0, .bool false, .slice none 0 0, .bool false, .slice none 0 0, .bool false, .slice none 0 0, .bool false, .slice none 0 0, .bool false, .slice none 0 0, .bool false, .slice none 0 0, .bool false, .slice none 0 0, .bool false, .slice none 0 0, .bool false, .slice none 0 0] 46)).heap.size 0 csB.toList = w11 at *
    generalize (w10.alloc (.cells #[.bool false, .slice none 0 0, .bool false, .slice none 0 0, .bool false, .slice none 0 0, .bool false, .slice none 0 0, .bool false, .slice none 0 0, .bool false, .slice none 0 0, .bool false, .slice none 0 0, .bool false, .slice none 0 0, .bool false, .slice none 0 0, .bool false, .slice none 0 0, .bool false, .slice none 0 0, .bool false, .slice none 0 0] 46)).heap.size = Y11 at *
    generalize w10.heap.size = X11 at *
    have E11 := Lib.hid (show Ext w10 w11 from q3)
    have FbA := Lib.hid q4
    have FbB := Lib.hid q5
    clear q3 q4 q5
    go_upto_region 7 with fail
    refine wp_region_lit ?_
    refine mv_load (by rfl) _ _ (by rfl) BP _ _ _ (by rfl) (FbP.out.ext (E2.out.trans (E3.out.trans (E4.out.trans (E5.out.trans (E6.out.trans (E7.out.trans (E8.out.trans (E9.out.trans (E10.out.trans E11.out)))))))))) Try.underlying43 (by rfl) (by rw [ZP]; kernel_rfl) ?_
    (try simp only [Act.put, List.setIfInBounds_toArray, List.set_cons_zero, List.set_cons_succ])
    refine mv_load (by rfl) _ _ (by rfl) BT _ _ _ (by rfl) (FbT.out.ext (E2.out.trans (E3.out.trans (E4.out.trans (E5.out.trans (E6.out.trans (E7.out.trans (E8.out.trans (E9.out.trans (E10.out.trans E11.out)))))))))) Try.underlying41 (by rfl) (by rw [ZT]; kernel_rfl) ?_
    (try simp only [Act.put, List.setIfInBounds_toArray, List.set_cons_zero, List.set_cons_succ])
    refine mv_call (by rfl) (by go_simp) (oSplitCubic (FP.out.ext (E1.out.trans (E2.out.trans (E3.out.trans (E4.out.trans (E5.out.trans (E6.out.trans (E7.out.trans (E8.out.trans (E9.out.trans (E10.out.trans E11.out))))))))))) (FT.out.ext (E1.out.trans (E2.out.trans (E3.out.trans (E4.out.trans (E5.out.trans (E6.out.trans (E7.out.trans (E8.out.trans (E9.out.trans (E10.out.trans E11.out))))))))))) (by omega) (by omega)) ?_
    rintro e w12 ⟨csC, csD, rfl, h1, h2, hx⟩
    refine ⟨_, rfl, ?_⟩
    (try simp only [Act.put, List.setIfInBounds_toArray, List.set_cons_zero, List.set_cons_succ])
    have E12 := Lib.hid (show Ext w11 w12 from hx)
    have FC := Lib.hid h1
    have FD := Lib.hid h2
    have ZC := h1.size
    have OC := h1.one
    have ZD := h2.size
    have OD := h2.one
    clear h1 h2 hx
    refine mv_val (v := ?vm11) (w' := w12) (by rfl) ?hm11 ?rm11
    case hm11 => (go_simp <;> with_reducible rfl)
    (try simp only [Act.put, List.setIfInBounds_toArray, List.set_cons_zero, List.set_cons_succ])
    refine mv_val (v := ?vm12) (w' := w12) (by rfl) ?hm12 ?rm12
    case hm12 => (go_simp <;> with_reducible rfl)
    (try simp only [Act.put, List.setIfInBounds_toArray, List.set_cons_zero, List.set_cons_succ])
    refine mv_val (v := ?vm13) (w' := w12) (by rfl) ?hm13 ?rm13
    case hm13 => (go_simp <;> with_reducible rfl)
    (try simp only [Act.put, List.setIfInBounds_toArray, List.set_cons_zero, List.set_cons_succ])
    obtain ⟨q1, q2, q3, q4, q5⟩ := new_var2 w12 43 #[.bool false, .slice none 0 0, .bool false, .slice none 0 0, .bool false, .slice none 0 0, .bool false, .slice none 0 0, .bool false, .slice none 0 0, .bool false, .slice none 0 0, .bool false, .slice none 0 0, .bool false, .slice none 0 0, .bool false, .slice none 0 0, .bool false, .slice none 0 0, .bool false, .slice none 0 0, .bool false, .slice none 0 0, .bool false, .slice none 0 0, .bool false, .slice none 0 0, .bool false, .slice none 0 0, .bool false, .slice none 0 0] csC csD (by rw [ZC]; rfl) (by rw [ZD]; rfl)
    refine mv_val (v := .pointer (some ⟨w12.heap.size, 0, none⟩)) (w' := w12.alloc (.cells #[.bool false, .slice none 0 0, .bool false, .slice none 0 0, .bool false, .slice none 0 0, .bool false, .slice none 0 0, .bool false, .slice none 0 0, .bool false, .slice none 0 0, .bool false, .slice none 0 0, .bool false, .slice none 0 0, .bool false, .slice none 0 0, .bool false, .slice none 0 0, .bool false, .slice none 0 0, .bool false, .slice none 0 0, .bool false, .slice none 0 0, .bool false, .slice none 0 0, .bool false, .slice none 0 0, .bool false, .slice none 0 0] 43)) (by rfl) (by go_simp) ?_
    (try simp only [Act.put, List.setIfInBounds_toArray, List.set_cons_zero, List.set_cons_succ])
    refine mv_val (v := .pointer (some ⟨(w12.alloc (.cells #[.bool false, .slice none 0 0, .bool false, .slice none 0 0, .bool false, .slice none 0 0, .bool false, .slice none 0 0, .bool false, .slice none 0 0, .bool false, .slice none 0 0, .bool false, .slice none 0 0, .bool false, .slice none 0 0, .bool false, .slice none 0 0, .bool false, .slice none 0 0, .bool false, .slice none 0 0, .bool false, .slice none 0 0, .bool false, .slice none 0 0, .bool false, .slice none 0 0, .bool false, .slice none 0 0, .bool false, .slice none 0 0] 43)).heap.size, 0, none⟩)) (w' := (w12.alloc (.cells #[.bool false, .slice none 0 0, .bool false, .slice none 0 0, .bool false, .slice none 0 0, .bool false, .slice none 0 0, .bool false, .slice none 0 0, .bool false, .slice none 0 0, .bool false, .slice none 0 0, .bool false, .slice none 0 0, .bool false, .slice none 0 0, .bool false, .slice none 0 0, .bool false, .slice none 0 0, .bool false, .slice none 0 0, .bool false, .slice none 0 0, .bool false, .slice none 0 0, .bool false, .slice none 0 0, .bool false, .slice none 0 0] 43)).alloc (.cells #[.bool false, .slice none 0 0, .bool false, .slice none 0 0, .bool false, .slice none 0 0, .bool false, .slice none 0 0, .bool false, .slice none 0 0, .bool false, .slice none 0 0, .bool false, .slice none 0 0, .bool false, .slice none 0 0, .bool false, .slice none 0 0, .bool false, .slice none 0 0, .bool false, .slice none 0 0, .bool false, .slice none 0 0, .bool false, .slice none 0 0, .bool false, .slice none 0 0, .bool false, .slice none 0 0, .bool false, .slice none 0 0] 43)) (by rfl) (by go_simp) ?_
    (try simp only [Act.put, List.setIfInBounds_toArray, List.set_cons_zero, List.set_cons_succ])
    refine mv_store (by rfl) _ _ _ (by rfl) w12.heap.size 43 #[.bool false, .slice none 0 0, .bool false, .slice none 0 0, .bool false, .slice none 0 0, .bool false, .slice none 0 0, .bool false, .slice none 0 0, .bool false, .slice none 0 0, .bool false, .slice none 0 0, .bool false, .slice none 0 0, .bool false, .slice none 0 0, .bool false, .slice none 0 0, .bool false, .slice none 0 0, .bool false, .slice none 0 0, .bool false, .slice none 0 0, .bool false, .slice none 0 0, .bool false, .slice none 0 0, .bool false, .slice none 0 0] csC (by rfl) (by rfl) q1 (by rw [ZC]; rfl) (by rw [ZC]; kernel_rfl) OC ?_
    (try simp only [Act.put, List.setIfInBounds_toArray, List.set_cons_zero, List.set_cons_succ])
    refine mv_store (by rfl) _ _ _ (by rfl) (w12.alloc (.cells #[.bool false, .slice none 0 0, .bool false, .slice none 0 0, .bool false, .slice none 0 0, .bool false, .slice none 0 0, .bool false, .slice none 0 0, .bool false, .slice none 0 0, .bool false, .slice none 0 0, .bool false, .slice none 0 0, .bool false, .slice none 0 0, .bool false, .slice none 0 0, .bool false, .slice none 0 0, .bool false, .slice none 0 0, .bool false, .slice none 0 0, .bool false, .slice none 0 0, .bool false, .slice none 0 0, .bool false, .slice none 0 0] 43)).heap.size 43 #[.bool false, .slice none 0 0, .bool false, .slice none 0 0, .bool false, .slice none 0 0, .bool false, .slice none 0 0, .bool false, .slice none 0 0, .bool false, .slice none 0 0, .bool false, .slice none 0 0, .bool false, .slice none 0 0, .bool false, .slice none 0 0, .bool false, .slice none 0 0, .bool false, .slice none 0 0, .bool false, .slice none 0 0, .bool false, .slice none 0 0, .bool false, .slice none 0 0, .bool false, .slice none 0 0, .bool false, .slice none 0 0] csD (by rfl) (by rfl) q2 (by rw [ZD]; rfl) (by rw [ZD]; kernel_rfl) OD ?_
    (try simp only [Act.put, List.setIfInBounds_toArray, List.set_cons_zero, List.set_cons_succ])
    clear q1 q2
    generalize (((w12.alloc (.cells #[.bool false, .slice none 0 0, .bool false, .slice none 0 0, .bool false, .slice none 0 0, .bool false, .slice none 0 0, .bool false, .slice none 0 0, .bool false, .slice none 0 0, .bool false, .slice none 0 0, .bool false, .slice none 0 0, .bool false, .slice none 0 0, .bool false, .slice none 0 0, .bool false, .slice none 0 0, .bool false, .slice none 0 0, .bool false, .slice none 0 0, .bool false, .slice none 0 0, .bool false, .slice none 0 0, .bool false, .slice none 0 0] 43)).alloc (.cells #[.bool false, .slice none 0 0, .bool false, .slice none 0 0, .bool false, .slice none 0 0, .bool false, .slice none 0 0, .bool false, .slice none 0 0, .bool false, .slice none 0 0, .bool false, .slice none 0 0, .bool false, .slice none 0 0, .bool false, .slice none 0 0, .bool false, .slice none 0 0, .bool false, .slice none 0 0, .bool false, .slice none 0 0, .bool false, .slice none 0 0, .bool false, .slice none 0 0, .bool false, .slice none 0 0, .bool false, .slice none 0 0] 43)).setCells w12.heap.size 0 csC.toList).setCells (w12.alloc (.cells #[.bool false, .slice none 0 0, .bool false, .slice none 0 0, .bool false, .slice none 0 0, .bool false, .slice none 0 0, .bool false, .slice none 0 0, .bool false, .slice none 0 0, .bool false, .slice none 0 0, .bool false, .slice none 0 0, .bool false, .slice none 0 0, .bool false, .slice none 0 0, .bool false, .slice none 0 0, .bool false, .slice none 0 0, .bool false, .slice none 0 0, .bool false, .slice none 0 0, .bool false, .slice none 0 0, .bool false, .slice none 0 0] 43)).heap.size 0 csD.toList = w13 at *
    generalize (w12.alloc (.cells #[.bool false, .slice none 0 0, .bool false, .slice none 0 0, .bool false, .slice none 0 0, .bool false, .slice none 0 0, .bool false, .slice none 0 0, .bool false, .slice none 0 0, .bool false, .slice none 0 0, .bool false, .slice none 0 0, .bool false, .slice none 0 0, .bool false, .slice none 0 0, .bool false, .slice none 0 0, .bool false, .slice none 0 0, .bool false, .slice none 0 0, .bool false, .slice none 0 0, .bool false, .slice none 0 0, .bool false, .slice none 0 0] 43)).heap.size = Y13 at *
    generalize w12.heap.size = X13 at *
    have E13 := Lib.hid (show Ext w12 w13 from q3)
    have FbC := Lib.hid q4
    have FbD := Lib.hid q5
    clear q3 q4 q5
    have hrQ : Nm.rl A0 ≤ 6 ∧ Nm.rl A1 ≤ 6 ∧ Nm.rl B0 ≤ 6 ∧ Nm.rl B1 ≤ 6 ∧ Nm.rl C0 ≤ 6 ∧ Nm.rl C1 ≤ 6 ∧ Nm.rl D0 ≤ 6 ∧ Nm.rl D1 ≤ 6 := by
      obtain ⟨_, _, _, _, _, _, _, _, _, k0, k1, k2, k3, k4, k5, k6, k7⟩ := FP.out
      exact ⟨(by have := k0.rl; omega), (by have := k1.rl; omega), (by have := k2.rl; omega), (by have := k3.rl; omega), (by have := k4.rl; omega), (by have := k5.rl; omega), (by have := k6.rl; omega), (by have := k7.rl; omega)⟩
    obtain ⟨rA0, rA1, rB0, rB1, rC0, rC1, rD0, rD1⟩ := hrQ
    go_upto_region 8 with fail
    refine wp_region_held_drew (S := fun x => Ext w13 x) (by kernel_rfl) (Ext.refl _).drew (fun _ => ?_)
    have E14 := Lib.hid (show Ext w13 w13.drew from (Ext.refl _).drew)
    refine md_load (i := 0) (listed' := #[true, false, false, false, false, false, false, false, false, false, false, false, false, false, false, false, false, false]) (by rfl) (by kernel_rfl) (by kernel_rfl) (by kernel_rfl) _ _ (by rfl) X11 _ csA _ (by intro _ _ _ h; exact h) (by rfl) (by rfl) (fun x hx => ((FbA.out.ext (E12.out.trans E13.out))).ext hx) Try.underlying46 (by rfl) (by rw [ZA]; kernel_rfl) E14.out (by kernel_rfl) ?_
    (try simp only [Act.put, List.setIfInBounds_toArray, List.set_cons_zero, List.set_cons_succ])
    refine md_load (i := 1) (listed' := #[true, true, false, false, false, false, false, false, false, false, false, false, false, false, false, false, false, false]) (by rfl) (by kernel_rfl) (by kernel_rfl) (by kernel_rfl) _ _ (by rfl) BU _ csU _ (by intro _ _ _ h; exact h) (by rfl) (by rfl) (fun x hx => ((FbU.out.ext (E2.out.trans (E3.out.trans (E4.out.trans (E5.out.trans (E6.out.trans (E7.out.trans (E8.out.trans (E9.out.trans (E10.out.trans (E11.out.trans (E12.out.trans E13.out))))))))))))).ext hx) Try.underlying41 (by rfl) (by rw [ZU]; kernel_rfl) E14.out (by kernel_rfl) ?_
    (try simp only [Act.put, List.setIfInBounds_toArray, List.set_cons_zero, List.set_cons_succ])
    refine md_load (i := 3) (listed' := #[true, true, false, true, false, false, false, false, false, false, false, false, false, false, false, false, false, false]) (by rfl) (by kernel_rfl) (by kernel_rfl) (by kernel_rfl) _ _ (by rfl) X6 _ csQ _ (by intro _ _ _ h; exact h) (by rfl) (by rfl) (fun x hx => ((FbQ.out.ext (E7.out.trans (E8.out.trans (E9.out.trans (E10.out.trans (E11.out.trans (E12.out.trans E13.out)))))))).ext hx) Try.underlying46 (by rfl) (by rw [ZQ]; kernel_rfl) E14.out (by kernel_rfl) ?_
    (try simp only [Act.put, List.setIfInBounds_toArray, List.set_cons_zero, List.set_cons_succ])
    refine md_load (i := 4) (listed' := #[true, true, false, true, true, false, false, false, false, false, false, false, false, false, false, false, false, false]) (by rfl) (by kernel_rfl) (by kernel_rfl) (by kernel_rfl) _ _ (by rfl) X8 _ csF _ (by intro _ _ _ h; exact h) (by rfl) (by rfl) (fun x hx => ((FbF.out.ext (E9.out.trans (E10.out.trans (E11.out.trans (E12.out.trans E13.out)))))).ext hx) Try.underlying41 (by rfl) (by rw [ZF]; kernel_rfl) E14.out (by kernel_rfl) ?_
    (try simp only [Act.put, List.setIfInBounds_toArray, List.set_cons_zero, List.set_cons_succ])
    refine md_call (i := 2) (listed' := #[true, true, true, true, true, false, false, false, false, false, false, false, false, false, false, false, false, false]) (by rfl) (by kernel_rfl) (by rfl) (by go_simp) (oEvalQuad (FA.out.ext (E11.out.trans (E12.out.trans (E13.out.trans E14.out)))) ((FU.out.ext (E1.out.trans (E2.out.trans (E3.out.trans (E4.out.trans (E5.out.trans (E6.out.trans (E7.out.trans (E8.out.trans (E9.out.trans (E10.out.trans (E11.out.trans (E12.out.trans (E13.out.trans E14.out)))))))))))))).mono (by omega)) (by omega) (by omega)) (by kernel_rfl) ?_
    rintro e w15 ⟨cx0, rfl, hc, hx⟩
    have E15 := Lib.hid (show Ext w13.drew w15 from hx)
    refine ⟨_, rfl, (E14.out.trans E15.out), ?_⟩
    (try simp only [Act.put, List.setIfInBounds_toArray, List.set_cons_zero, List.set_cons_succ])
    rw [s1, s1] at hc
    have Fx0 := Lib.hid hc
    clear hc hx
    refine md_call (i := 5) (listed' := #[true, true, true, true, true, true, false, false, false, false, false, false, false, false, false, false, false, false]) (by rfl) (by kernel_rfl) (by rfl) (by go_simp) (oEvalQuad ((FQ.out.ext (E6.out.trans (E7.out.trans (E8.out.trans (E9.out.trans (E10.out.trans (E11.out.trans (E12.out.trans (E13.out.trans (E14.out.trans E15.out)))))))))).mono (M := 12) (by omega)) ((FF.out.ext (E8.out.trans (E9.out.trans (E10.out.trans (E11.out.trans (E12.out.trans (E13.out.trans (E14.out.trans E15.out)))))))).isIn hrF) (by omega) (by omega)) (by kernel_rfl) ?_
    rintro e w16 ⟨cy0, rfl, hc, hx⟩
    have E16 := Lib.hid (show Ext w15 w16 from hx)
    refine ⟨_, rfl, (E14.out.trans (E15.out.trans E16.out)), ?_⟩
    (try simp only [Act.put, List.setIfInBounds_toArray, List.set_cons_zero, List.set_cons_succ])
    have Fy0 := Lib.hid hc
    clear hc hx
    refine md_call (i := 6) (listed' := #[true, true, true, true, true, true, true, false, false, false, false, false, false, false, false, false, false, false]) (by rfl) (by kernel_rfl) (by rfl) (by go_simp) (oSamePoint (L := 202) (Fx0.out.ext E16.out) Fy0.out (rl_quadV (Nat.le_trans rA0 (by omega)) (Nat.le_trans rB0 (by omega)) (Nat.le_trans rC0 (by omega)) (L := 12) hrF) (rl_quadV (Nat.le_trans rA1 (by omega)) (Nat.le_trans rB1 (by omega)) (Nat.le_trans rC1 (by omega)) (L := 12) hrF) (by omega)) (by kernel_rfl) ?_
    rintro e w17 ⟨rfl, hx⟩
    have E17 := Lib.hid (show Ext w16 w17 from hx)
    refine ⟨_, rfl, (E14.out.trans (E15.out.trans (E16.out.trans E17.out))), ?_⟩
    (try simp only [Act.put, List.setIfInBounds_toArray, List.set_cons_zero, List.set_cons_succ])
    refine md_val (i := 7) (v := ?vm14) (listed' := #[true, true, true, true, true, true, true, true, false, false, false, false, false, false, false, false, false, false]) (by rfl) (by kernel_rfl) (by kernel_rfl) (by kernel_rfl) (by intro _ _ _ h; exact h) (by rfl) ?hm14 (E14.out.trans (E15.out.trans (E16.out.trans E17.out))) (by kernel_rfl) ?rm14
    case hm14 => (intro w hSw; (try dsimp only at hSw); go_simp <;> with_reducible rfl)
    (try simp only [Act.put, List.setIfInBounds_toArray, List.set_cons_zero, List.set_cons_succ])
    refine md_val (i := 8) (v := ?vm15) (listed' := #[true, true, true, true, true, true, true, true, true, false, false, false, false, false, false, false, false, false]) (by rfl) (by kernel_rfl) (by kernel_rfl) (by kernel_rfl) (by intro _ _ _ h; exact h) (by rfl) ?hm15 (E14.out.trans (E15.out.trans (E16.out.trans E17.out))) (by kernel_rfl) ?rm15
    case hm15 => (intro w hSw; (try dsimp only at hSw); go_simp <;> with_reducible rfl)
    (try simp only [Act.put, List.setIfInBounds_toArray, List.set_cons_zero, List.set_cons_succ])
    refine md_load (i := 9) (listed' := #[true, true, true, true, true, true, true, true, true, true, false, false, false, false, false, false, false, false]) (by rfl) (by kernel_rfl) (by kernel_rfl) (by kernel_rfl) _ _ (by rfl) Y11 _ csB _ (by intro _ _ _ h; exact h) (by rfl) (by rfl) (fun x hx => ((FbB.out.ext (E12.out.trans E13.out))).ext hx) Try.underlying46 (by rfl) (by rw [ZB]; kernel_rfl) (E14.out.trans (E15.out.trans (E16.out.trans E17.out))) (by kernel_rfl) ?_
    (try simp only [Act.put, List.setIfInBounds_toArray, List.set_cons_zero, List.set_cons_succ])
    refine md_load (i := 10) (listed' := #[true, true, true, true, true, true, true, true, true, true, true, false, false, false, false, false, false, false]) (by rfl) (by kernel_rfl) (by kernel_rfl) (by kernel_rfl) _ _ (by rfl) BU _ csU _ (by intro _ _ _ h; exact h) (by rfl) (by rfl) (fun x hx => ((FbU.out.ext (E2.out.trans (E3.out.trans (E4.out.trans (E5.out.trans (E6.out.trans (E7.out.trans (E8.out.trans (E9.out.trans (E10.out.trans (E11.out.trans (E12.out.trans E13.out))))))))))))).ext hx) Try.underlying41 (by rfl) (by rw [ZU]; kernel_rfl) (E14.out.trans (E15.out.trans (E16.out.trans E17.out))) (by kernel_rfl) ?_
    (try simp only [Act.put, List.setIfInBounds_toArray, List.set_cons_zero, List.set_cons_succ])
    refine md_load (i := 12) (listed' := #[true, true, true, true, true, true, true, true, true, true, true, false, true, false, false, false, false, false]) (by rfl) (by kernel_rfl) (by kernel_rfl) (by kernel_rfl) _ _ (by rfl) X6 _ csQ _ (by intro _ _ _ h; exact h) (by rfl) (by rfl) (fun x hx => ((FbQ.out.ext (E7.out.trans (E8.out.trans (E9.out.trans (E10.out.trans (E11.out.trans (E12.out.trans E13.out)))))))).ext hx) Try.underlying46 (by rfl) (by rw [ZQ]; kernel_rfl) (E14.out.trans (E15.out.trans (E16.out.trans E17.out))) (by kernel_rfl) ?_
    (try simp only [Act.put, List.setIfInBounds_toArray, List.set_cons_zero, List.set_cons_succ])
    refine md_load (i := 13) (listed' := #[true, true, true, true, true, true, true, true, true, true, true, false, true, true, false, false, false, false]) (by rfl) (by kernel_rfl) (by kernel_rfl) (by kernel_rfl) _ _ (by rfl) XL _ csL _ (by intro _ _ _ h; exact h) (by rfl) (by rfl) (fun x hx => ((FbL.out.ext (E10.out.trans (E11.out.trans (E12.out.trans E13.out))))).ext hx) Try.underlying41 (by rfl) (by rw [ZL]; kernel_rfl) (E14.out.trans (E15.out.trans (E16.out.trans E17.out))) (by kernel_rfl) ?_
    (try simp only [Act.put, List.setIfInBounds_toArray, List.set_cons_zero, List.set_cons_succ])
    refine md_call (i := 11) (listed' := #[true, true, true, true, true, true, true, true, true, true, true, true, true, true, false, false, false, false]) (by rfl) (by kernel_rfl) (by rfl) (by go_simp) (oEvalQuad (FB.out.ext (E11.out.trans (E12.out.trans (E13.out.trans (E14.out.trans (E15.out.trans (E16.out.trans E17.out))))))) ((FU.out.ext (E1.out.trans (E2.out.trans (E3.out.trans (E4.out.trans (E5.out.trans (E6.out.trans (E7.out.trans (E8.out.trans (E9.out.trans (E10.out.trans (E11.out.trans (E12.out.trans (E13.out.trans (E14.out.trans (E15.out.trans (E16.out.trans E17.out))))))))))))))))).mono (by omega)) (by omega) (by omega)) (by kernel_rfl) ?_
    rintro e w18 ⟨cx1, rfl, hc, hx⟩
    have E18 := Lib.hid (show Ext w17 w18 from hx)
    refine ⟨_, rfl, (E14.out.trans (E15.out.trans (E16.out.trans (E17.out.trans E18.out)))), ?_⟩
    (try simp only [Act.put, List.setIfInBounds_toArray, List.set_cons_zero, List.set_cons_succ])
    rw [s2, s2] at hc
    have Fx1 := Lib.hid hc
    clear hc hx
    refine md_call (i := 14) (listed' := #[true, true, true, true, true, true, true, true, true, true, true, true, true, true, true, false, false, false]) (by rfl) (by kernel_rfl) (by rfl) (by go_simp) (oEvalQuad ((FQ.out.ext (E6.out.trans (E7.out.trans (E8.out.trans (E9.out.trans (E10.out.trans (E11.out.trans (E12.out.trans (E13.out.trans (E14.out.trans (E15.out.trans (E16.out.trans (E17.out.trans E18.out))))))))))))).mono (M := 21) (by omega)) ((FL.out.ext (E10.out.trans (E11.out.trans (E12.out.trans (E13.out.trans (E14.out.trans (E15.out.trans (E16.out.trans (E17.out.trans E18.out))))))))).isIn hrL) (by omega) (by omega)) (by kernel_rfl) ?_
    rintro e w19 ⟨cy1, rfl, hc, hx⟩
    have E19 := Lib.hid (show Ext w18 w19 from hx)
    refine ⟨_, rfl, (E14.out.trans (E15.out.trans (E16.out.trans (E17.out.trans (E18.out.trans E19.out))))), ?_⟩
    (try simp only [Act.put, List.setIfInBounds_toArray, List.set_cons_zero, List.set_cons_succ])
    rw [one_eq] at hc
    have Fy1 := Lib.hid hc
    clear hc hx
    refine md_call (i := 15) (listed' := #[true, true, true, true, true, true, true, true, true, true, true, true, true, true, true, true, false, false]) (by rfl) (by kernel_rfl) (by rfl) (by go_simp) (oSamePoint (L := 346) (Fx1.out.ext E19.out) Fy1.out (rl_quadV (Nat.le_trans rA0 (by omega)) (Nat.le_trans rB0 (by omega)) (Nat.le_trans rC0 (by omega)) (L := 21) hrL) (rl_quadV (Nat.le_trans rA1 (by omega)) (Nat.le_trans rB1 (by omega)) (Nat.le_trans rC1 (by omega)) (L := 21) hrL) (by omega)) (by kernel_rfl) ?_
    rintro e w20 ⟨rfl, hx⟩
    have E20 := Lib.hid (show Ext w19 w20 from hx)
    refine ⟨_, rfl, (E14.out.trans (E15.out.trans (E16.out.trans (E17.out.trans (E18.out.trans (E19.out.trans E20.out)))))), ?_⟩
    (try simp only [Act.put, List.setIfInBounds_toArray, List.set_cons_zero, List.set_cons_succ])
    refine md_val (i := 16) (v := ?vm16) (listed' := #[true, true, true, true, true, true, true, true, true, true, true, true, true, true, true, true, true, false]) (by rfl) (by kernel_rfl) (by kernel_rfl) (by kernel_rfl) (by intro _ _ _ h; exact h) (by rfl) ?hm16 (E14.out.trans (E15.out.trans (E16.out.trans (E17.out.trans (E18.out.trans (E19.out.trans E20.out)))))) (by kernel_rfl) ?rm16
    case hm16 => (intro w hSw; (try dsimp only at hSw); go_simp <;> with_reducible rfl)
    (try simp only [Act.put, List.setIfInBounds_toArray, List.set_cons_zero, List.set_cons_succ])
    refine md_val (i := 17) (v := ?vm17) (listed' := #[true, true, true, true, true, true, true, true, true, true, true, true, true, true, true, true, true, true]) (by rfl) (by kernel_rfl) (by kernel_rfl) (by kernel_rfl) (by intro _ _ _ h; exact h) (by rfl) ?hm17 (E14.out.trans (E15.out.trans (E16.out.trans (E17.out.trans (E18.out.trans (E19.out.trans E20.out)))))) (by kernel_rfl) ?rm17
    case hm17 => (intro w hSw; (try dsimp only at hSw); go_simp <;> with_reducible rfl)
    (try simp only [Act.put, List.setIfInBounds_toArray, List.set_cons_zero, List.set_cons_succ])
    refine wpAnyH_done (by kernel_rfl) ?_ _
    go_upto_region 10 with fail
    refine wp_region_held_drew (S := fun x => Ext w20 x) (by kernel_rfl) (Ext.refl _).drew (fun _ => ?_)
    have E21 := Lib.hid (show Ext w20 w20.drew from (Ext.refl _).drew)
    refine md_load (i := 0) (listed' := #[true, false, false, false, false, false, false, false, false, false, false, false, false, false, false, false, false, false]) (by rfl) (by kernel_rfl) (by kernel_rfl) (by kernel_rfl) _ _ (by rfl) X13 _ csC _ (by intro _ _ _ h; exact h) (by rfl) (by rfl) (fun x hx => ((FbC.out.ext (E14.out.trans (E15.out.trans (E16.out.trans (E17.out.trans (E18.out.trans (E19.out.trans E20.out)))))))).ext hx) Try.underlying43 (by rfl) (by rw [ZC]; kernel_rfl) E21.out (by kernel_rfl) ?_
    (try simp only [Act.put, List.setIfInBounds_toArray, List.set_cons_zero, List.set_cons_succ])
    refine md_load (i := 1) (listed' := #[true, true, false, false, false, false, false, false, false, false, false, false, false, false, false, false, false, false]) (by rfl) (by kernel_rfl) (by kernel_rfl) (by kernel_rfl) _ _ (by rfl) BU _ csU _ (by intro _ _ _ h; exact h) (by rfl) (by rfl) (fun x hx => ((FbU.out.ext (E2.out.trans (E3.out.trans (E4.out.trans (E5.out.trans (E6.out.trans (E7.out.trans (E8.out.trans (E9.out.trans (E10.out.trans (E11.out.trans (E12.out.trans (E13.out.trans (E14.out.trans (E15.out.trans (E16.out.trans (E17.out.trans (E18.out.trans (E19.out.trans E20.out)))))))))))))))))))).ext hx) Try.underlying41 (by rfl) (by rw [ZU]; kernel_rfl) E21.out (by kernel_rfl) ?_
    (try simp only [Act.put, List.setIfInBounds_toArray, List.set_cons_zero, List.set_cons_succ])
    refine md_load (i := 3) (listed' := #[true, true, false, true, false, false, false, false, false, false, false, false, false, false, false, false, false, false]) (by rfl) (by kernel_rfl) (by kernel_rfl) (by kernel_rfl) _ _ (by rfl) BP _ csP _ (by intro _ _ _ h; exact h) (by rfl) (by rfl) (fun x hx => ((FbP.out.ext (E2.out.trans (E3.out.trans (E4.out.trans (E5.out.trans (E6.out.trans (E7.out.trans (E8.out.trans (E9.out.trans (E10.out.trans (E11.out.trans (E12.out.trans (E13.out.trans (E14.out.trans (E15.out.trans (E16.out.trans (E17.out.trans (E18.out.trans (E19.out.trans E20.out)))))))))))))))))))).ext hx) Try.underlying43 (by rfl) (by rw [ZP]; kernel_rfl) E21.out (by kernel_rfl) ?_
    (try simp only [Act.put, List.setIfInBounds_toArray, List.set_cons_zero, List.set_cons_succ])
    refine md_load (i := 4) (listed' := #[true, true, false, true, true, false, false, false, false, false, false, false, false, false, false, false, false, false]) (by rfl) (by kernel_rfl) (by kernel_rfl) (by kernel_rfl) _ _ (by rfl) X8 _ csF _ (by intro _ _ _ h; exact h) (by rfl) (by rfl) (fun x hx => ((FbF.out.ext (E9.out.trans (E10.out.trans (E11.out.trans (E12.out.trans (E13.out.trans (E14.out.trans (E15.out.trans (E16.out.trans (E17.out.trans (E18.out.trans (E19.out.trans E20.out))))))))))))).ext hx) Try.underlying41 (by rfl) (by rw [ZF]; kernel_rfl) E21.out (by kernel_rfl) ?_
    (try simp only [Act.put, List.setIfInBounds_toArray, List.set_cons_zero, List.set_cons_succ])
    refine md_call (i := 2) (listed' := #[true, true, true, true, true, false, false, false, false, false, false, false, false, false, false, false, false, false]) (by rfl) (by kernel_rfl) (by rfl) (by go_simp) (oEvalCubic (FC.out.ext (E13.out.trans (E14.out.trans (E15.out.trans (E16.out.trans (E17.out.trans (E18.out.trans (E19.out.trans (E20.out.trans E21.out))))))))) ((FU.out.ext (E1.out.trans (E2.out.trans (E3.out.trans (E4.out.trans (E5.out.trans (E6.out.trans (E7.out.trans (E8.out.trans (E9.out.trans (E10.out.trans (E11.out.trans (E12.out.trans (E13.out.trans (E14.out.trans (E15.out.trans (E16.out.trans (E17.out.trans (E18.out.trans (E19.out.trans (E20.out.trans E21.out))))))))))))))))))))).mono (by omega)) (by omega) (by omega)) (by kernel_rfl) ?_
    rintro e w22 ⟨cx0, rfl, hc, hx⟩
    have E22 := Lib.hid (show Ext w20.drew w22 from hx)
    refine ⟨_, rfl, (E21.out.trans E22.out), ?_⟩
    (try simp only [Act.put, List.setIfInBounds_toArray, List.set_cons_zero, List.set_cons_succ])
    rw [s3, s3] at hc
    have Fx0 := Lib.hid hc
    clear hc hx
    refine md_call (i := 5) (listed' := #[true, true, true, true, true, true, false, false, false, false, false, false, false, false, false, false, false, false]) (by rfl) (by kernel_rfl) (by rfl) (by go_simp) (oEvalCubic ((FP.out.ext (E1.out.trans (E2.out.trans (E3.out.trans (E4.out.trans (E5.out.trans (E6.out.trans (E7.out.trans (E8.out.trans (E9.out.trans (E10.out.trans (E11.out.trans (E12.out.trans (E13.out.trans (E14.out.trans (E15.out.trans (E16.out.trans (E17.out.trans (E18.out.trans (E19.out.trans (E20.out.trans (E21.out.trans E22.out)))))))))))))))))))))).mono (M := 12) (by omega)) ((FF.out.ext (E8.out.trans (E9.out.trans (E10.out.trans (E11.out.trans (E12.out.trans (E13.out.trans (E14.out.trans (E15.out.trans (E16.out.trans (E17.out.trans (E18.out.trans (E19.out.trans (E20.out.trans (E21.out.trans E22.out))))))))))))))).isIn hrF) (by omega) (by omega)) (by kernel_rfl) ?_
    rintro e w23 ⟨cy0, rfl, hc, hx⟩
    have E23 := Lib.hid (show Ext w22 w23 from hx)
    refine ⟨_, rfl, (E21.out.trans (E22.out.trans E23.out)), ?_⟩
    (try simp only [Act.put, List.setIfInBounds_toArray, List.set_cons_zero, List.set_cons_succ])
    have Fy0 := Lib.hid hc
    clear hc hx
    refine md_call (i := 6) (listed' := #[true, true, true, true, true, true, true, false, false, false, false, false, false, false, false, false, false, false]) (by rfl) (by kernel_rfl) (by rfl) (by go_simp) (oSamePoint (L := 810) (Fx0.out.ext E23.out) Fy0.out (rl_cubicV (Nat.le_trans rA0 (by omega)) (Nat.le_trans rB0 (by omega)) (Nat.le_trans rC0 (by omega)) (Nat.le_trans rD0 (by omega)) (L := 12) hrF) (rl_cubicV (Nat.le_trans rA1 (by omega)) (Nat.le_trans rB1 (by omega)) (Nat.le_trans rC1 (by omega)) (Nat.le_trans rD1 (by omega)) (L := 12) hrF) (by omega)) (by kernel_rfl) ?_
    rintro e w24 ⟨rfl, hx⟩
    have E24 := Lib.hid (show Ext w23 w24 from hx)
    refine ⟨_, rfl, (E21.out.trans (E22.out.trans (E23.out.trans E24.out))), ?_⟩
    (try simp only [Act.put, List.setIfInBounds_toArray, List.set_cons_zero, List.set_cons_succ])
    refine md_val (i := 7) (v := ?vm18) (listed' := #[true, true, true, true, true, true, true, true, false, false, false, false, false, false, false, false, false, false]) (by rfl) (by kernel_rfl) (by kernel_rfl) (by kernel_rfl) (by intro _ _ _ h; exact h) (by rfl) ?hm18 (E21.out.trans (E22.out.trans (E23.out.trans E24.out))) (by kernel_rfl) ?rm18
    case hm18 => (intro w hSw; (try dsimp only at hSw); go_simp <;> with_reducible rfl)
    (try simp only [Act.put, List.setIfInBounds_toArray, List.set_cons_zero, List.set_cons_succ])
    refine md_val (i := 8) (v := ?vm19) (listed' := #[true, true, true, true, true, true, true, true, true, false, false, false, false, false, false, false, false, false]) (by rfl) (by kernel_rfl) (by kernel_rfl) (by kernel_rfl) (by intro _ _ _ h; exact h) (by rfl) ?hm19 (E21.out.trans (E22.out.trans (E23.out.trans E24.out))) (by kernel_rfl) ?rm19
    case hm19 => (intro w hSw; (try dsimp only at hSw); go_simp <;> with_reducible rfl)
    (try simp only [Act.put, List.setIfInBounds_toArray, List.set_cons_zero, List.set_cons_succ])
    refine md_load (i := 9) (listed' := #[true, true, true, true, true, true, true, true, true, true, false, false, false, false, false, false, false, false]) (by rfl) (by kernel_rfl) (by kernel_rfl) (by kernel_rfl) _ _ (by rfl) Y13 _ csD _ (by intro _ _ _ h; exact h) (by rfl) (by rfl) (fun x hx => ((FbD.out.ext (E14.out.trans (E15.out.trans (E16.out.trans (E17.out.trans (E18.out.trans (E19.out.trans E20.out)))))))).ext hx) Try.underlying43 (by rfl) (by rw [ZD]; kernel_rfl) (E21.out.trans (E22.out.trans (E23.out.trans E24.out))) (by kernel_rfl) ?_
    (try simp only [Act.put, List.setIfInBounds_toArray, List.set_cons_zero, List.set_cons_succ])
    refine md_load (i := 10) (listed' := #[true, true, true, true, true, true, true, true, true, true, true, false, false, false, false, false, false, false]) (by rfl) (by kernel_rfl) (by kernel_rfl) (by kernel_rfl) _ _ (by rfl) BU _ csU _ (by intro _ _ _ h; exact h) (by rfl) (by rfl) (fun x hx => ((FbU.out.ext (E2.out.trans (E3.out.trans (E4.out.trans (E5.out.trans (E6.out.trans (E7.out.trans (E8.out.trans (E9.out.trans (E10.out.trans (E11.out.trans (E12.out.trans (E13.out.trans (E14.out.trans (E15.out.trans (E16.out.trans (E17.out.trans (E18.out.trans (E19.out.trans E20.out)))))))))))))))))))).ext hx) Try.underlying41 (by rfl) (by rw [ZU]; kernel_rfl) (E21.out.trans (E22.out.trans (E23.out.trans E24.out))) (by kernel_rfl) ?_
    (try simp only [Act.put, List.setIfInBounds_toArray, List.set_cons_zero, List.set_cons_succ])
    refine md_load (i := 12) (listed' := #[true, true, true, true, true, true, true, true, true, true, true, false, true, false, false, false, false, false]) (by rfl) (by kernel_rfl) (by kernel_rfl) (by kernel_rfl) _ _ (by rfl) BP _ csP _ (by intro _ _ _ h; exact h) (by rfl) (by rfl) (fun x hx => ((FbP.out.ext (E2.out.trans (E3.out.trans (E4.out.trans (E5.out.trans (E6.out.trans (E7.out.trans (E8.out.trans (E9.out.trans (E10.out.trans (E11.out.trans (E12.out.trans (E13.out.trans (E14.out.trans (E15.out.trans (E16.out.trans (E17.out.trans (E18.out.trans (E19.out.trans E20.out)))))))))))))))))))).ext hx) Try.underlying43 (by rfl) (by rw [ZP]; kernel_rfl) (E21.out.trans (E22.out.trans (E23.out.trans E24.out))) (by kernel_rfl) ?_
    (try simp only [Act.put, List.setIfInBounds_toArray, List.set_cons_zero, List.set_cons_succ])
    refine md_load (i := 13) (listed' := #[true, true, true, true, true, true, true, true, true, true, true, false, true, true, false, false, false, false]) (by rfl) (by kernel_rfl) (by kernel_rfl) (by kernel_rfl) _ _ (by rfl) XL _ csL _ (by intro _ _ _ h; exact h) (by rfl) (by rfl) (fun x hx => ((FbL.out.ext (E10.out.trans (E11.out.trans (E12.out.trans (E13.out.trans (E14.out.trans (E15.out.trans (E16.out.trans (E17.out.trans (E18.out.trans (E19.out.trans E20.out)))))))))))).ext hx) Try.underlying41 (by rfl) (by rw [ZL]; kernel_rfl) (E21.out.trans (E22.out.trans (E23.out.trans E24.out))) (by kernel_rfl) ?_
    (try simp only [Act.put, List.setIfInBounds_toArray, List.set_cons_zero, List.set_cons_succ])
    refine md_call (i := 11) (listed' := #[true, true, true, true, true, true, true, true, true, true, true, true, true, true, false, false, false, false]) (by rfl) (by kernel_rfl) (by rfl) (by go_simp) (oEvalCubic (FD.out.ext (E13.out.trans (E14.out.trans (E15.out.trans (E16.out.trans (E17.out.trans (E18.out.trans (E19.out.trans (E20.out.trans (E21.out.trans (E22.out.trans (E23.out.trans E24.out)))))))))))) ((FU.out.ext (E1.out.trans (E2.out.trans (E3.out.trans (E4.out.trans (E5.out.trans (E6.out.trans (E7.out.trans (E8.out.trans (E9.out.trans (E10.out.trans (E11.out.trans (E12.out.trans (E13.out.trans (E14.out.trans (E15.out.trans (E16.out.trans (E17.out.trans (E18.out.trans (E19.out.trans (E20.out.trans (E21.out.trans (E22.out.trans (E23.out.trans E24.out)))))))))))))))))))))))).mono (by omega)) (by omega) (by omega)) (by kernel_rfl) ?_
    rintro e w25 ⟨cx1, rfl, hc, hx⟩
    have E25 := Lib.hid (show Ext w24 w25 from hx)
    refine ⟨_, rfl, (E21.out.trans (E22.out.trans (E23.out.trans (E24.out.trans E25.out)))), ?_⟩
    (try simp only [Act.put, List.setIfInBounds_toArray, List.set_cons_zero, List.set_cons_succ])
    rw [s4, s4] at hc
    have Fx1 := Lib.hid hc
    clear hc hx
    refine md_call (i := 14) (listed' := #[true, true, true, true, true, true, true, true, true, true, true, true, true, true, true, false, false, false]) (by rfl) (by kernel_rfl) (by rfl) (by go_simp) (oEvalCubic ((FP.out.ext (E1.out.trans (E2.out.trans (E3.out.trans (E4.out.trans (E5.out.trans (E6.out.trans (E7.out.trans (E8.out.trans (E9.out.trans (E10.out.trans (E11.out.trans (E12.out.trans (E13.out.trans (E14.out.trans (E15.out.trans (E16.out.trans (E17.out.trans (E18.out.trans (E19.out.trans (E20.out.trans (E21.out.trans (E22.out.trans (E23.out.trans (E24.out.trans E25.out))))))))))))))))))))))))).mono (M := 21) (by omega)) ((FL.out.ext (E10.out.trans (E11.out.trans (E12.out.trans (E13.out.trans (E14.out.trans (E15.out.trans (E16.out.trans (E17.out.trans (E18.out.trans (E19.out.trans (E20.out.trans (E21.out.trans (E22.out.trans (E23.out.trans (E24.out.trans E25.out)))))))))))))))).isIn hrL) (by omega) (by omega)) (by kernel_rfl) ?_
    rintro e w26 ⟨cy1, rfl, hc, hx⟩
    have E26 := Lib.hid (show Ext w25 w26 from hx)
    refine ⟨_, rfl, (E21.out.trans (E22.out.trans (E23.out.trans (E24.out.trans (E25.out.trans E26.out))))), ?_⟩
    (try simp only [Act.put, List.setIfInBounds_toArray, List.set_cons_zero, List.set_cons_succ])
    rw [one_eq] at hc
    have Fy1 := Lib.hid hc
    clear hc hx
    refine md_call (i := 15) (listed' := #[true, true, true, true, true, true, true, true, true, true, true, true, true, true, true, true, false, false]) (by rfl) (by kernel_rfl) (by rfl) (by go_simp) (oSamePoint (L := 1386) (Fx1.out.ext E26.out) Fy1.out (rl_cubicV (Nat.le_trans rA0 (by omega)) (Nat.le_trans rB0 (by omega)) (Nat.le_trans rC0 (by omega)) (Nat.le_trans rD0 (by omega)) (L := 21) hrL) (rl_cubicV (Nat.le_trans rA1 (by omega)) (Nat.le_trans rB1 (by omega)) (Nat.le_trans rC1 (by omega)) (Nat.le_trans rD1 (by omega)) (L := 21) hrL) (by omega)) (by kernel_rfl) ?_
    rintro e w27 ⟨rfl, hx⟩
    have E27 := Lib.hid (show Ext w26 w27 from hx)
    refine ⟨_, rfl, (E21.out.trans (E22.out.trans (E23.out.trans (E24.out.trans (E25.out.trans (E26.out.trans E27.out)))))), ?_⟩
    (try simp only [Act.put, List.setIfInBounds_toArray, List.set_cons_zero, List.set_cons_succ])
    refine md_val (i := 16) (v := ?vm20) (listed' := #[true, true, true, true, true, true, true, true, true, true, true, true, true, true, true, true, true, false]) (by rfl) (by kernel_rfl) (by kernel_rfl) (by kernel_rfl) (by intro _ _ _ h; exact h) (by rfl) ?hm20 (E21.out.trans (E22.out.trans (E23.out.trans (E24.out.trans (E25.out.trans (E26.out.trans E27.out)))))) (by kernel_rfl) ?rm20
    case hm20 => (intro w hSw; (try dsimp only at hSw); go_simp <;> with_reducible rfl)
    (try simp only [Act.put, List.setIfInBounds_toArray, List.set_cons_zero, List.set_cons_succ])
    refine md_val (i := 17) (v := ?vm21) (listed' := #[true, true, true, true, true, true, true, true, true, true, true, true, true, true, true, true, true, true]) (by rfl) (by kernel_rfl) (by kernel_rfl) (by kernel_rfl) (by intro _ _ _ h; exact h) (by rfl) ?hm21 (E21.out.trans (E22.out.trans (E23.out.trans (E24.out.trans (E25.out.trans (E26.out.trans E27.out)))))) (by kernel_rfl) ?rm21
    case hm21 => (intro w hSw; (try dsimp only at hSw); go_simp <;> with_reducible rfl)
    (try simp only [Act.put, List.setIfInBounds_toArray, List.set_cons_zero, List.set_cons_succ])
    refine wpAnyH_done (by kernel_rfl) ?_ _
    go_upto_region 12 with fail
    refine wp_region_held_drew (S := fun x => Ext w27 x) (by kernel_rfl) (Ext.refl _).drew (fun _ => ?_)
    have E28 := Lib.hid (show Ext w27 w27.drew from (Ext.refl _).drew)
    refine md_load (i := 0) (listed' := #[true, false, false, false, false, false, false, false, false, false, false, false]) (by rfl) (by kernel_rfl) (by kernel_rfl) (by kernel_rfl) _ _ (by rfl) X6 _ csQ _ (by intro _ _ _ h; exact h) (by rfl) (by rfl) (fun x hx => ((FbQ.out.ext (E7.out.trans (E8.out.trans (E9.out.trans (E10.out.trans (E11.out.trans (E12.out.trans (E13.out.trans (E14.out.trans (E15.out.trans (E16.out.trans (E17.out.trans (E18.out.trans (E19.out.trans (E20.out.trans (E21.out.trans (E22.out.trans (E23.out.trans (E24.out.trans (E25.out.trans (E26.out.trans E27.out)))))))))))))))))))))).ext hx) Try.underlying46 (by rfl) (by rw [ZQ]; kernel_rfl) E28.out (by kernel_rfl) ?_
    (try simp only [Act.put, List.setIfInBounds_toArray, List.set_cons_zero, List.set_cons_succ])
    refine md_load (i := 2) (listed' := #[true, false, true, false, false, false, false, false, false, false, false, false]) (by rfl) (by kernel_rfl) (by kernel_rfl) (by kernel_rfl) _ _ (by rfl) BU _ csU _ (by intro _ _ _ h; exact h) (by rfl) (by rfl) (fun x hx => ((FbU.out.ext (E2.out.trans (E3.out.trans (E4.out.trans (E5.out.trans (E6.out.trans (E7.out.trans (E8.out.trans (E9.out.trans (E10.out.trans (E11.out.trans (E12.out.trans (E13.out.trans (E14.out.trans (E15.out.trans (E16.out.trans (E17.out.trans (E18.out.trans (E19.out.trans (E20.out.trans (E21.out.trans (E22.out.trans (E23.out.trans (E24.out.trans (E25.out.trans (E26.out.trans E27.out))))))))))))))))))))))))))).ext hx) Try.underlying41 (by rfl) (by rw [ZU]; kernel_rfl) E28.out (by kernel_rfl) ?_
    (try simp only [Act.put, List.setIfInBounds_toArray, List.set_cons_zero, List.set_cons_succ])
    refine md_load (i := 4) (listed' := #[true, false, true, false, true, false, false, false, false, false, false, false]) (by rfl) (by kernel_rfl) (by kernel_rfl) (by kernel_rfl) _ _ (by rfl) X6 _ csQ _ (by intro _ _ _ h; exact h) (by rfl) (by rfl) (fun x hx => ((FbQ.out.ext (E7.out.trans (E8.out.trans (E9.out.trans (E10.out.trans (E11.out.trans (E12.out.trans (E13.out.trans (E14.out.trans (E15.out.trans (E16.out.trans (E17.out.trans (E18.out.trans (E19.out.trans (E20.out.trans (E21.out.trans (E22.out.trans (E23.out.trans (E24.out.trans (E25.out.trans (E26.out.trans E27.out)))))))))))))))))))))).ext hx) Try.underlying46 (by rfl) (by rw [ZQ]; kernel_rfl) E28.out (by kernel_rfl) ?_
    (try simp only [Act.put, List.setIfInBounds_toArray, List.set_cons_zero, List.set_cons_succ])
    refine md_load (i := 5) (listed' := #[true, false, true, false, true, true, false, false, false, false, false, false]) (by rfl) (by kernel_rfl) (by kernel_rfl) (by kernel_rfl) _ _ (by rfl) BU _ csU _ (by intro _ _ _ h; exact h) (by rfl) (by rfl) (fun x hx => ((FbU.out.ext (E2.out.trans (E3.out.trans (E4.out.trans (E5.out.trans (E6.out.trans (E7.out.trans (E8.out.trans (E9.out.trans (E10.out.trans (E11.out.trans (E12.out.trans (E13.out.trans (E14.out.trans (E15.out.trans (E16.out.trans (E17.out.trans (E18.out.trans (E19.out.trans (E20.out.trans (E21.out.trans (E22.out.trans (E23.out.trans (E24.out.trans (E25.out.trans (E26.out.trans E27.out))))))))))))))))))))))))))).ext hx) Try.underlying41 (by rfl) (by rw [ZU]; kernel_rfl) E28.out (by kernel_rfl) ?_
    (try simp only [Act.put, List.setIfInBounds_toArray, List.set_cons_zero, List.set_cons_succ])
    refine md_call (i := 1) (listed' := #[true, true, true, false, true, true, false, false, false, false, false, false]) (by rfl) (by kernel_rfl) (by rfl) (by go_simp) (oElevate (FQ.out.ext (E6.out.trans (E7.out.trans (E8.out.trans (E9.out.trans (E10.out.trans (E11.out.trans (E12.out.trans (E13.out.trans (E14.out.trans (E15.out.trans (E16.out.trans (E17.out.trans (E18.out.trans (E19.out.trans (E20.out.trans (E21.out.trans (E22.out.trans (E23.out.trans (E24.out.trans (E25.out.trans (E26.out.trans (E27.out.trans E28.out))))))))))))))))))))))) (by omega) (by omega)) (by kernel_rfl) ?_
    rintro e w29 ⟨csE, rfl, hc, hx⟩
    have E29 := Lib.hid (show Ext w27.drew w29 from hx)
    refine ⟨_, rfl, (E28.out.trans E29.out), ?_⟩
    (try simp only [Act.put, List.setIfInBounds_toArray, List.set_cons_zero, List.set_cons_succ])
    have FE := Lib.hid hc
    clear hc hx
    refine md_call (i := 3) (listed' := #[true, true, true, true, true, true, false, false, false, false, false, false]) (by rfl) (by kernel_rfl) (by rfl) (by go_simp) (oEvalCubic FE.out ((FU.out.ext (E1.out.trans (E2.out.trans (E3.out.trans (E4.out.trans (E5.out.trans (E6.out.trans (E7.out.trans (E8.out.trans (E9.out.trans (E10.out.trans (E11.out.trans (E12.out.trans (E13.out.trans (E14.out.trans (E15.out.trans (E16.out.trans (E17.out.trans (E18.out.trans (E19.out.trans (E20.out.trans (E21.out.trans (E22.out.trans (E23.out.trans (E24.out.trans (E25.out.trans (E26.out.trans (E27.out.trans (E28.out.trans E29.out))))))))))))))))))))))))))))).mono (by omega)) (by omega) (by omega)) (by kernel_rfl) ?_
    rintro e w30 ⟨cx2, rfl, hc, hx⟩
    have E30 := Lib.hid (show Ext w29 w30 from hx)
    refine ⟨_, rfl, (E28.out.trans (E29.out.trans E30.out)), ?_⟩
    (try simp only [Act.put, List.setIfInBounds_toArray, List.set_cons_zero, List.set_cons_succ])
    rw [s5, s5] at hc
    have Fx2 := Lib.hid hc
    clear hc hx
    refine md_call (i := 6) (listed' := #[true, true, true, true, true, true, true, false, false, false, false, false]) (by rfl) (by kernel_rfl) (by rfl) (by go_simp) (oEvalQuad (FQ.out.ext (E6.out.trans (E7.out.trans (E8.out.trans (E9.out.trans (E10.out.trans (E11.out.trans (E12.out.trans (E13.out.trans (E14.out.trans (E15.out.trans (E16.out.trans (E17.out.trans (E18.out.trans (E19.out.trans (E20.out.trans (E21.out.trans (E22.out.trans (E23.out.trans (E24.out.trans (E25.out.trans (E26.out.trans (E27.out.trans (E28.out.trans (E29.out.trans E30.out))))))))))))))))))))))))) (FU.out.ext (E1.out.trans (E2.out.trans (E3.out.trans (E4.out.trans (E5.out.trans (E6.out.trans (E7.out.trans (E8.out.trans (E9.out.trans (E10.out.trans (E11.out.trans (E12.out.trans (E13.out.trans (E14.out.trans (E15.out.trans (E16.out.trans (E17.out.trans (E18.out.trans (E19.out.trans (E20.out.trans (E21.out.trans (E22.out.trans (E23.out.trans (E24.out.trans (E25.out.trans (E26.out.trans (E27.out.trans (E28.out.trans (E29.out.trans E30.out)))))))))))))))))))))))))))))) (by omega) (by omega)) (by kernel_rfl) ?_
    rintro e w31 ⟨cy2, rfl, hc, hx⟩
    have E31 := Lib.hid (show Ext w30 w31 from hx)
    refine ⟨_, rfl, (E28.out.trans (E29.out.trans (E30.out.trans E31.out))), ?_⟩
    (try simp only [Act.put, List.setIfInBounds_toArray, List.set_cons_zero, List.set_cons_succ])
    have Fy2 := Lib.hid hc
    clear hc hx
    refine md_call (i := 7) (listed' := #[true, true, true, true, true, true, true, true, false, false, false, false]) (by rfl) (by kernel_rfl) (by rfl) (by go_simp) (oSamePoint (L := 106) (Fx2.out.ext E31.out) Fy2.out (rl_quadV rA0 rB0 rC0 (L := 6) hrU) (rl_quadV rA1 rB1 rC1 (L := 6) hrU) (by omega)) (by kernel_rfl) ?_
    rintro e w32 ⟨rfl, hx⟩
    have E32 := Lib.hid (show Ext w31 w32 from hx)
    refine ⟨_, rfl, (E28.out.trans (E29.out.trans (E30.out.trans (E31.out.trans E32.out)))), ?_⟩
    (try simp only [Act.put, List.setIfInBounds_toArray, List.set_cons_zero, List.set_cons_succ])
    refine md_val (i := 8) (v := ?vm22) (listed' := #[true, true, true, true, true, true, true, true, true, false, false, false]) (by rfl) (by kernel_rfl) (by kernel_rfl) (by kernel_rfl) (by intro _ _ _ h; exact h) (by rfl) ?hm22 (E28.out.trans (E29.out.trans (E30.out.trans (E31.out.trans E32.out)))) (by kernel_rfl) ?rm22
    case hm22 => (intro w hSw; (try dsimp only at hSw); go_simp <;> with_reducible rfl)
    (try simp only [Act.put, List.setIfInBounds_toArray, List.set_cons_zero, List.set_cons_succ])
    refine md_call (i := 9) (listed' := #[true, true, true, true, true, true, true, true, true, true, false, false]) (by rfl) (by kernel_rfl) (by rfl) (by go_simp) (example_any _) (by kernel_rfl) ?_
    rintro e w33 ⟨rfl, hx⟩
    have E33 := Lib.hid (show Ext w32 w33 from hx)
    refine ⟨_, rfl, (E28.out.trans (E29.out.trans (E30.out.trans (E31.out.trans (E32.out.trans E33.out))))), ?_⟩
    (try simp only [Act.put, List.setIfInBounds_toArray, List.set_cons_zero, List.set_cons_succ])
    refine md_val (i := 10) (v := ?vm23) (listed' := #[true, true, true, true, true, true, true, true, true, true, true, false]) (by rfl) (by kernel_rfl) (by kernel_rfl) (by kernel_rfl) (by intro _ _ _ h; exact h) (by rfl) ?hm23 (E28.out.trans (E29.out.trans (E30.out.trans (E31.out.trans (E32.out.trans E33.out))))) (by kernel_rfl) ?rm23
    case hm23 => (intro w hSw; (try dsimp only at hSw); go_simp <;> with_reducible rfl)
    (try simp only [Act.put, List.setIfInBounds_toArray, List.set_cons_zero, List.set_cons_succ])
    refine md_val (i := 11) (v := ?vm24) (listed' := #[true, true, true, true, true, true, true, true, true, true, true, true]) (by rfl) (by kernel_rfl) (by kernel_rfl) (by kernel_rfl) (by intro _ _ _ h; exact h) (by rfl) ?hm24 (E28.out.trans (E29.out.trans (E30.out.trans (E31.out.trans (E32.out.trans E33.out))))) (by kernel_rfl) ?rm24
    case hm24 => (intro w hSw; (try dsimp only at hSw); go_simp <;> with_reducible rfl)
    (try simp only [Act.put, List.setIfInBounds_toArray, List.set_cons_zero, List.set_cons_succ])
    refine wpAnyH_done (by kernel_rfl) ?_ _
    go_wp2_with fail
    go_ret
    exact ⟨rfl, (E1.out.trans (E2.out.trans (E3.out.trans (E4.out.trans (E5.out.trans (E6.out.trans (E7.out.trans (E8.out.trans (E9.out.trans (E10.out.trans (E11.out.trans (E12.out.trans (E13.out.trans (E14.out.trans (E15.out.trans (E16.out.trans (E17.out.trans (E18.out.trans (E19.out.trans (E20.out.trans (E21.out.trans (E22.out.trans (E23.out.trans (E24.out.trans (E25.out.trans (E26.out.trans (E27.out.trans (E28.out.trans (E29.out.trans (E30.out.trans (E31.out.trans (E32.out.trans E33.out))))))))))))))))))))))))))))))))⟩
set_option maxRecDepth 20000 in
set_option maxHeartbeats 8000000 in
theorem walkF0 (csP csT csU : Array Value) (w : World) (ZP : csP.size = 32) (ZT : csT.size = 4) (ZU : csU.size = 4)
    (hs : ∀ W, Calls Try.prog 10 #[.agg csP] W fun e w' => e = .returned (.bool false) ∧ Ext W w') :
    Calls Try.prog 4 #[.agg csP, .agg csT, .agg csU] w fun e w' => e = .returned (.bool true) ∧ Ext w w' := by
  skip
  go_enter Try.func4, Try.ntmps4
  go_upto_region 1 with fail
  have hBP : Blk (((w.alloc (.cells csP 43)).alloc (.cells csT 41)).alloc (.cells csU 41)) w.heap.size 43 csP := Blk.ext (Blk.new_at w _ rfl _ _) (((Ext.refl _).alloc _).alloc _)
  have hBT : Blk (((w.alloc (.cells csP 43)).alloc (.cells csT 41)).alloc (.cells csU 41)) (w.heap.size + 1) 41 csT := Blk.ext (Blk.new_at (w.alloc (.cells csP 43)) _ (by simp) _ _) ((Ext.refl _).alloc _)
  have hBU : Blk (((w.alloc (.cells csP 43)).alloc (.cells csT 41)).alloc (.cells csU 41)) (w.heap.size + 1 + 1) 41 csU := Blk.new_at _ _ (by simp) _ _
  have hE : Ext w (((w.alloc (.cells csP 43)).alloc (.cells csT 41)).alloc (.cells csU 41)) := ((((Ext.refl _).alloc _).alloc _).alloc _)
  generalize (((w.alloc (.cells csP 43)).alloc (.cells csT 41)).alloc (.cells csU 41)) = wa at *
  generalize w.heap.size + 1 + 1 = BU at *
  generalize w.heap.size + 1 = BT at *
  generalize w.heap.size = BP at *
  have E1 := Lib.hid (show Ext w wa from hE)
  have FbP := Lib.hid hBP
  have FbT := Lib.hid hBT
  have FbU := Lib.hid hBU
  clear hE hBP hBT hBU
  refine wp_region_lit ?_
  refine mv_load (by rfl) _ _ (by rfl) BP _ _ _ (by rfl) FbP.out Try.underlying43 (by rfl) (by rw [ZP]; kernel_rfl) ?_
  (try simp only [Act.put, List.setIfInBounds_toArray, List.set_cons_zero, List.set_cons_succ])
  refine mv_call (by rfl) (by go_simp) (hs _) ?_
  rintro e w2 ⟨rfl, hx⟩
  refine ⟨_, rfl, ?_⟩
  (try simp only [Act.put, List.setIfInBounds_toArray, List.set_cons_zero, List.set_cons_succ])
  have E2 := Lib.hid (show Ext wa w2 from hx)
  refine mv_val (v := ?vm1) (w' := w2) (by rfl) ?hm1 ?rm1
  case hm1 => (go_simp <;> with_reducible rfl)
  (try simp only [Act.put, List.setIfInBounds_toArray, List.set_cons_zero, List.set_cons_succ])
  refine mv_val (v := ?vm2) (w' := w2) (by rfl) ?hm2 ?rm2
  case hm2 => (go_simp <;> with_reducible rfl)
  (try simp only [Act.put, List.setIfInBounds_toArray, List.set_cons_zero, List.set_cons_succ])
  refine mv_skip (by rfl) ?_
  (try simp only [Act.put, List.setIfInBounds_toArray, List.set_cons_zero, List.set_cons_succ])
  refine mv_skip (by rfl) ?_
  (try simp only [Act.put, List.setIfInBounds_toArray, List.set_cons_zero, List.set_cons_succ])
  refine mv_skip (by rfl) ?_
  (try simp only [Act.put, List.setIfInBounds_toArray, List.set_cons_zero, List.set_cons_succ])
  refine mv_val (v := ?vm3) (w' := w2) (by rfl) ?hm3 ?rm3
  case hm3 => (go_simp <;> with_reducible rfl)
  (try simp only [Act.put, List.setIfInBounds_toArray, List.set_cons_zero, List.set_cons_succ])
  refine mv_val (v := ?vm4) (w' := w2) (by rfl) ?hm4 ?rm4
  case hm4 => (go_simp <;> with_reducible rfl)
  (try simp only [Act.put, List.setIfInBounds_toArray, List.set_cons_zero, List.set_cons_succ])
  refine mv_skip (by rfl) ?_
  (try simp only [Act.put, List.setIfInBounds_toArray, List.set_cons_zero, List.set_cons_succ])
  refine mv_skip (by rfl) ?_
  (try simp only [Act.put, List.setIfInBounds_toArray, List.set_cons_zero, List.set_cons_succ])
  refine mv_skip (by rfl) ?_
  (try simp only [Act.put, List.setIfInBounds_toArray, List.set_cons_zero, List.set_cons_succ])
  refine mv_val (v := ?vm5) (w' := w2) (by rfl) ?hm5 ?rm5
  case hm5 => (go_simp <;> with_reducible rfl)
  (try simp only [Act.put, List.setIfInBounds_toArray, List.set_cons_zero, List.set_cons_succ])
  go_upto_region 2 with fail
  refine wp_region_lit ?_
  refine mv_call (by rfl) (by go_simp) (example_any _) ?_
  rintro e w3 ⟨rfl, hx⟩
  refine ⟨_, rfl, ?_⟩
  (try simp only [Act.put, List.setIfInBounds_toArray, List.set_cons_zero, List.set_cons_succ])
  have E3 := Lib.hid (show Ext w2 w3 from hx)
  refine mv_val (v := ?vm6) (w' := w3) (by rfl) ?hm6 ?rm6
  case hm6 => (go_simp <;> with_reducible rfl)
  (try simp only [Act.put, List.setIfInBounds_toArray, List.set_cons_zero, List.set_cons_succ])
  go_wp2_with fail
  go_ret
  exact ⟨rfl, (E1.out.trans (E2.out.trans E3.out))⟩

set_option maxRecDepth 20000 in
set_option maxHeartbeats 8000000 in
theorem walkF1 (csP csT csU : Array Value) (w : World) (ZP : csP.size = 32) (ZT : csT.size = 4) (ZU : csU.size = 4)
    (hs : ∀ W, Calls Try.prog 10 #[.agg csP] W fun e w' => e = .returned (.bool true) ∧ Ext W w') (hs1 : ∀ W, Calls Try.prog 11 #[.agg csT] W fun e w' => e = .returned (.bool false) ∧ Ext W w') :
    Calls Try.prog 4 #[.agg csP, .agg csT, .agg csU] w fun e w' => e = .returned (.bool true) ∧ Ext w w' := by
  skip
  go_enter Try.func4, Try.ntmps4
  go_upto_region 1 with fail
  have hBP : Blk (((w.alloc (.cells csP 43)).alloc (.cells csT 41)).alloc (.cells csU 41)) w.heap.size 43 csP := Blk.ext (Blk.new_at w _ rfl _ _) (((Ext.refl _).alloc _).alloc _)
  have hBT : Blk (((w.alloc (.cells csP 43)).alloc (.cells csT 41)).alloc (.cells csU 41)) (w.heap.size + 1) 41 csT := Blk.ext (Blk.new_at (w.alloc (.cells csP 43)) _ (by simp) _ _) ((Ext.refl _).alloc _)
  have hBU : Blk (((w.alloc (.cells csP 43)).alloc (.cells csT 41)).alloc (.cells csU 41)) (w.heap.size + 1 + 1) 41 csU := Blk.new_at _ _ (by simp) _ _
  have hE : Ext w (((w.alloc (.cells csP 43)).alloc (.cells csT 41)).alloc (.cells csU 41)) := ((((Ext.refl _).alloc _).alloc _).alloc _)
  generalize (((w.alloc (.cells csP 43)).alloc (.cells csT 41)).alloc (.cells csU 41)) = wa at *
  generalize w.heap.size + 1 + 1 = BU at *
  generalize w.heap.size + 1 = BT at *
  generalize w.heap.size = BP at *
  have E1 := Lib.hid (show Ext w wa from hE)
  have FbP := Lib.hid hBP
  have FbT := Lib.hid hBT
  have FbU := Lib.hid hBU
  clear hE hBP hBT hBU
  refine wp_region_lit ?_
  refine mv_load (by rfl) _ _ (by rfl) BP _ _ _ (by rfl) FbP.out Try.underlying43 (by rfl) (by rw [ZP]; kernel_rfl) ?_
  (try simp only [Act.put, List.setIfInBounds_toArray, List.set_cons_zero, List.set_cons_succ])
  refine mv_call (by rfl) (by go_simp) (hs _) ?_
  rintro e w2 ⟨rfl, hx⟩
  refine ⟨_, rfl, ?_⟩
  (try simp only [Act.put, List.setIfInBounds_toArray, List.set_cons_zero, List.set_cons_succ])
  have E2 := Lib.hid (show Ext wa w2 from hx)
  refine mv_val (v := ?vm1) (w' := w2) (by rfl) ?hm1 ?rm1
  case hm1 => (go_simp <;> with_reducible rfl)
  (try simp only [Act.put, List.setIfInBounds_toArray, List.set_cons_zero, List.set_cons_succ])
  refine mv_val (v := ?vm2) (w' := w2) (by rfl) ?hm2 ?rm2
  case hm2 => (go_simp <;> with_reducible rfl)
  (try simp only [Act.put, List.setIfInBounds_toArray, List.set_cons_zero, List.set_cons_succ])
  refine mv_load (by rfl) _ _ (by rfl) BT _ _ _ (by rfl) (FbT.out.ext E2.out) Try.underlying41 (by rfl) (by rw [ZT]; kernel_rfl) ?_
  (try simp only [Act.put, List.setIfInBounds_toArray, List.set_cons_zero, List.set_cons_succ])
  refine mv_call (by rfl) (by go_simp) (hs1 _) ?_
  rintro e w3 ⟨rfl, hx⟩
  refine ⟨_, rfl, ?_⟩
  (try simp only [Act.put, List.setIfInBounds_toArray, List.set_cons_zero, List.set_cons_succ])
  have E3 := Lib.hid (show Ext w2 w3 from hx)
  refine mv_val (v := ?vm3) (w' := w3) (by rfl) ?hm3 ?rm3
  case hm3 => (go_simp <;> with_reducible rfl)
  (try simp only [Act.put, List.setIfInBounds_toArray, List.set_cons_zero, List.set_cons_succ])
  refine mv_val (v := ?vm4) (w' := w3) (by rfl) ?hm4 ?rm4
  case hm4 => (go_simp <;> with_reducible rfl)
  (try simp only [Act.put, List.setIfInBounds_toArray, List.set_cons_zero, List.set_cons_succ])
  refine mv_val (v := ?vm5) (w' := w3) (by rfl) ?hm5 ?rm5
  case hm5 => (go_simp <;> with_reducible rfl)
  (try simp only [Act.put, List.setIfInBounds_toArray, List.set_cons_zero, List.set_cons_succ])
  refine mv_skip (by rfl) ?_
  (try simp only [Act.put, List.setIfInBounds_toArray, List.set_cons_zero, List.set_cons_succ])
  refine mv_skip (by rfl) ?_
  (try simp only [Act.put, List.setIfInBounds_toArray, List.set_cons_zero, List.set_cons_succ])
  refine mv_skip (by rfl) ?_
  (try simp only [Act.put, List.setIfInBounds_toArray, List.set_cons_zero, List.set_cons_succ])
  refine mv_val (v := ?vm6) (w' := w3) (by rfl) ?hm6 ?rm6
  case hm6 => (go_simp <;> with_reducible rfl)
  (try simp only [Act.put, List.setIfInBounds_toArray, List.set_cons_zero, List.set_cons_succ])
  go_upto_region 2 with fail
  refine wp_region_lit ?_
  refine mv_call (by rfl) (by go_simp) (example_any _) ?_
  rintro e w4 ⟨rfl, hx⟩
  refine ⟨_, rfl, ?_⟩
  (try simp only [Act.put, List.setIfInBounds_toArray, List.set_cons_zero, List.set_cons_succ])
  have E4 := Lib.hid (show Ext w3 w4 from hx)
  refine mv_val (v := ?vm7) (w' := w4) (by rfl) ?hm7 ?rm7
  case hm7 => (go_simp <;> with_reducible rfl)
  (try simp only [Act.put, List.setIfInBounds_toArray, List.set_cons_zero, List.set_cons_succ])
  go_wp2_with fail
  go_ret
  exact ⟨rfl, (E1.out.trans (E2.out.trans (E3.out.trans E4.out)))⟩

set_option maxRecDepth 20000 in
set_option maxHeartbeats 8000000 in
theorem walkF2 (csP csT csU : Array Value) (w : World) (ZP : csP.size = 32) (ZT : csT.size = 4) (ZU : csU.size = 4)
    (hs : ∀ W, Calls Try.prog 10 #[.agg csP] W fun e w' => e = .returned (.bool true) ∧ Ext W w') (hs1 : ∀ W, Calls Try.prog 11 #[.agg csT] W fun e w' => e = .returned (.bool true) ∧ Ext W w')
    (hs2 : ∀ W, Calls Try.prog 11 #[.agg csU] W fun e w' => e = .returned (.bool false) ∧ Ext W w') :
    Calls Try.prog 4 #[.agg csP, .agg csT, .agg csU] w fun e w' => e = .returned (.bool true) ∧ Ext w w' := by
  skip
  go_enter Try.func4, Try.ntmps4
  go_upto_region 1 with fail
  have hBP : Blk (((w.alloc (.cells csP 43)).alloc (.cells csT 41)).alloc (.cells csU 41)) w.heap.size 43 csP := Blk.ext (Blk.new_at w _ rfl _ _) (((Ext.refl _).alloc _).alloc _)
  have hBT : Blk (((w.alloc (.cells csP 43)).alloc (.cells csT 41)).alloc (.cells csU 41)) (w.heap.size + 1) 41 csT := Blk.ext (Blk.new_at (w.alloc (.cells csP 43)) _ (by simp) _ _) ((Ext.refl _).alloc _)
  have hBU : Blk (((w.alloc (.cells csP 43)).alloc (.cells csT 41)).alloc (.cells csU 41)) (w.heap.size + 1 + 1) 41 csU := Blk.new_at _ _ (by simp) _ _
  have hE : Ext w (((w.alloc (.cells csP 43)).alloc (.cells csT 41)).alloc (.cells csU 41)) := ((((Ext.refl _).alloc _).alloc _).alloc _)
  generalize (((w.alloc (.cells csP 43)).alloc (.cells csT 41)).alloc (.cells csU 41)) = wa at *
  generalize w.heap.size + 1 + 1 = BU at *
  generalize w.heap.size + 1 = BT at *
  generalize w.heap.size = BP at *
  have E1 := Lib.hid (show Ext w wa from hE)
  have FbP := Lib.hid hBP
  have FbT := Lib.hid hBT
  have FbU := Lib.hid hBU
  clear hE hBP hBT hBU
  refine wp_region_lit ?_
  refine mv_load (by rfl) _ _ (by rfl) BP _ _ _ (by rfl) FbP.out Try.underlying43 (by rfl) (by rw [ZP]; kernel_rfl) ?_
  (try simp only [Act.put, List.setIfInBounds_toArray, List.set_cons_zero, List.set_cons_succ])
  refine mv_call (by rfl) (by go_simp) (hs _) ?_
  rintro e w2 ⟨rfl, hx⟩
  refine ⟨_, rfl, ?_⟩
  (try simp only [Act.put, List.setIfInBounds_toArray, List.set_cons_zero, List.set_cons_succ])
  have E2 := Lib.hid (show Ext wa w2 from hx)
  refine mv_val (v := ?vm1) (w' := w2) (by rfl) ?hm1 ?rm1
  case hm1 => (go_simp <;> with_reducible rfl)
  (try simp only [Act.put, List.setIfInBounds_toArray, List.set_cons_zero, List.set_cons_succ])
  refine mv_val (v := ?vm2) (w' := w2) (by rfl) ?hm2 ?rm2
  case hm2 => (go_simp <;> with_reducible rfl)
  (try simp only [Act.put, List.setIfInBounds_toArray, List.set_cons_zero, List.set_cons_succ])
  refine mv_load (by rfl) _ _ (by rfl) BT _ _ _ (by rfl) (FbT.out.ext E2.out) Try.underlying41 (by rfl) (by rw [ZT]; kernel_rfl) ?_
  (try simp only [Act.put, List.setIfInBounds_toArray, List.set_cons_zero, List.set_cons_succ])
  refine mv_call (by rfl) (by go_simp) (hs1 _) ?_
  rintro e w3 ⟨rfl, hx⟩
  refine ⟨_, rfl, ?_⟩
  (try simp only [Act.put, List.setIfInBounds_toArray, List.set_cons_zero, List.set_cons_succ])
  have E3 := Lib.hid (show Ext w2 w3 from hx)
  refine mv_val (v := ?vm3) (w' := w3) (by rfl) ?hm3 ?rm3
  case hm3 => (go_simp <;> with_reducible rfl)
  (try simp only [Act.put, List.setIfInBounds_toArray, List.set_cons_zero, List.set_cons_succ])
  refine mv_val (v := ?vm4) (w' := w3) (by rfl) ?hm4 ?rm4
  case hm4 => (go_simp <;> with_reducible rfl)
  (try simp only [Act.put, List.setIfInBounds_toArray, List.set_cons_zero, List.set_cons_succ])
  refine mv_val (v := ?vm5) (w' := w3) (by rfl) ?hm5 ?rm5
  case hm5 => (go_simp <;> with_reducible rfl)
  (try simp only [Act.put, List.setIfInBounds_toArray, List.set_cons_zero, List.set_cons_succ])
  refine mv_load (by rfl) _ _ (by rfl) BU _ _ _ (by rfl) (FbU.out.ext (E2.out.trans E3.out)) Try.underlying41 (by rfl) (by rw [ZU]; kernel_rfl) ?_
  (try simp only [Act.put, List.setIfInBounds_toArray, List.set_cons_zero, List.set_cons_succ])
  refine mv_call (by rfl) (by go_simp) (hs2 _) ?_
  rintro e w4 ⟨rfl, hx⟩
  refine ⟨_, rfl, ?_⟩
  (try simp only [Act.put, List.setIfInBounds_toArray, List.set_cons_zero, List.set_cons_succ])
  have E4 := Lib.hid (show Ext w3 w4 from hx)
  refine mv_val (v := ?vm6) (w' := w4) (by rfl) ?hm6 ?rm6
  case hm6 => (go_simp <;> with_reducible rfl)
  (try simp only [Act.put, List.setIfInBounds_toArray, List.set_cons_zero, List.set_cons_succ])
  refine mv_val (v := ?vm7) (w' := w4) (by rfl) ?hm7 ?rm7
  case hm7 => (go_simp <;> with_reducible rfl)
  (try simp only [Act.put, List.setIfInBounds_toArray, List.set_cons_zero, List.set_cons_succ])
  go_upto_region 2 with fail
  refine wp_region_lit ?_
  refine mv_call (by rfl) (by go_simp) (example_any _) ?_
  rintro e w5 ⟨rfl, hx⟩
  refine ⟨_, rfl, ?_⟩
  (try simp only [Act.put, List.setIfInBounds_toArray, List.set_cons_zero, List.set_cons_succ])
  have E5 := Lib.hid (show Ext w4 w5 from hx)
  refine mv_val (v := ?vm8) (w' := w5) (by rfl) ?hm8 ?rm8
  case hm8 => (go_simp <;> with_reducible rfl)
  (try simp only [Act.put, List.setIfInBounds_toArray, List.set_cons_zero, List.set_cons_succ])
  go_wp2_with fail
  go_ret
  exact ⟨rfl, (E1.out.trans (E2.out.trans (E3.out.trans (E4.out.trans E5.out))))⟩

theorem walk (a0 a1 b0 b1 c0 c1 d0 d1 t u : RV) (w : World) (hr : (a0.Raw w ∧ a1.Raw w) ∧ (b0.Raw w ∧ b1.Raw w) ∧ (c0.Raw w ∧ c1.Raw w) ∧ (d0.Raw w ∧ d1.Raw w)) (ht : t.Raw w) (hu : u.Raw w) :
    Calls Try.prog 4 #[.agg #[.bool a0.n, .slice a0.p a0.l a0.c, .bool a0.m, .slice a0.p2 a0.l2 a0.c2, .bool a1.n, .slice a1.p a1.l a1.c, .bool a1.m, .slice a1.p2 a1.l2 a1.c2, .bool b0.n, .slice b0.p b0.l b0.c, .bool b0.m, .slice b0.p2 b0.l2 b0.c2, .bool b1.n, .slice b1.p b1.l b1.c, .bool b1.m, .slice b1.p2 b1.l2 b1.c2, .bool c0.n, .slice c0.p c0.l c0.c, .bool c0.m, .slice c0.p2 c0.l2 c0.c2, .bool c1.n, .slice c1.p c1.l c1.c, .bool c1.m, .slice c1.p2 c1.l2 c1.c2, .bool d0.n, .slice d0.p d0.l d0.c, .bool d0.m, .slice d0.p2 d0.l2 d0.c2, .bool d1.n, .slice d1.p d1.l d1.c, .bool d1.m, .slice d1.p2 d1.l2 d1.c2], .agg #[.bool t.n, .slice t.p t.l t.c, .bool t.m, .slice t.p2 t.l2 t.c2], .agg #[.bool u.n, .slice u.p u.l u.c, .bool u.m, .slice u.p2 u.l2 u.c2]] w fun e w' => e = .returned (.bool true) ∧ Ext w w' := by
  have hs := fun W => shortCurve_any a0 a1 b0 b1 c0 c1 d0 d1 W
  have hs1 := fun W => xshort_any t W
  have hs2 := fun W => xshort_any u W
  cases h0 : shortC a0 a1 b0 b1 c0 c1 d0 d1 with
  | false => rw [h0] at hs; exact walkF0 _ _ _ w rfl rfl rfl hs
  | true =>
    rw [h0] at hs
    cases h1 : t.short with
    | false => rw [h1] at hs1; exact walkF1 _ _ _ w rfl rfl rfl hs hs1
    | true =>
      rw [h1] at hs1
      cases h2 : u.short with
      | false => rw [h2] at hs2; exact walkF2 _ _ _ w rfl rfl rfl hs hs1 hs2
      | true =>
        rw [h2] at hs2
        have hb := shortC_spec h0
        obtain ⟨⟨r0, r1⟩, ⟨r2, r3⟩, ⟨r4, r5⟩, ⟨r6, r7⟩⟩ := hr
        obtain ⟨q0, k0⟩ := r0.val; obtain ⟨q1, k1⟩ := r1.val; obtain ⟨q2, k2⟩ := r2.val; obtain ⟨q3, k3⟩ := r3.val; obtain ⟨q4, k4⟩ := r4.val; obtain ⟨q5, k5⟩ := r5.val; obtain ⟨q6, k6⟩ := r6.val; obtain ⟨q7, k7⟩ := r7.val
        obtain ⟨qt, kt⟩ := ht.val
        obtain ⟨qu, ku⟩ := hu.val
        have bt := short_spec h1
        have bu := short_spec h2
        obtain ⟨⟨x0, y0⟩, ⟨x1, y1⟩, ⟨x2, y2⟩, ⟨x3, y3⟩, ⟨x4, y4⟩, ⟨x5, y5⟩, ⟨x6, y6⟩, ⟨x7, y7⟩⟩ := hb
        exact walkT _ _ _ q0 q1 q2 q3 q4 q5 q6 q7 qt qu w ⟨a0, a1, b0, b1, c0, c1, d0, d1, rfl, k0 6 x0 y0, k1 6 x1 y1, k2 6 x2 y2, k3 6 x3 y3, k4 6 x4 y4, k5 6 x5 y5, k6 6 x6 y6, k7 6 x7 y7⟩ ⟨t, rfl, kt 6 bt.1 bt.2⟩ ⟨u, rfl, ku 6 bu.1 bu.2⟩ hs hs1 hs2

set_option maxRecDepth 100000 in
theorem lifted (os : Os) (started : os.Started) (H : Type) (enc : TypeId × Value → H) :
    ReturnsInHanded {} Try.checked os 4 .any (Rows.flattenSplitSpec.pre6 enc Try.prog Try.f4 Rows.flattenSplitRow.domain false) (Rows.flattenSplitSpec.post enc Try.prog Try.f4 false true false false) := by
  refine returnsInHanded_of_change (C := Try.checked) own started (by kernel_rfl) Try.func4
    (ChangeSpec.witness6 (enc := enc) (C := Try.checked) false ⟨#[], #[.agg #[.bool false, .slice none 0 0, .bool false, .slice none 0 0, .bool false, .slice none 0 0, .bool false, .slice none 0 0, .bool false, .slice none 0 0, .bool false, .slice none 0 0, .bool false, .slice none 0 0, .bool false, .slice none 0 0, .bool false, .slice none 0 0, .bool false, .slice none 0 0, .bool false, .slice none 0 0, .bool false, .slice none 0 0, .bool false, .slice none 0 0, .bool false, .slice none 0 0, .bool false, .slice none 0 0, .bool false, .slice none 0 0], .agg #[.bool false, .slice none 0 0, .bool false, .slice none 0 0], .agg #[.bool false, .slice none 0 0, .bool false, .slice none 0 0]], []⟩ 8 (by kernel_rfl) (by kernel_rfl) (by kernel_rfl) (by kernel_rfl)) ?_
  intro W base args ds gs before hval0 hW hcnd _
  have hval : ∀ (j : Nat) t v, Try.f4.params[j]? = some t → args[j]? = some v → Value.okWide Try.prog W .any base t v := hval0
  have hW' := hW
  obtain ⟨p, q, hA0, hV, rfl, hfz, hnd⟩ := hW
  have hA : DataW.TrodAll enc Try.prog W 0 (fun _ => true) true Try.f4.params.toList args.toList ds p := hA0
  rw [Try.params4] at hA hval
  obtain ⟨v0, vs0, d0, ds0, p0, q0, hargs, rfl, rfl, h0, r0⟩ := trodAll_cons hA
  obtain ⟨v1, vs1, d1, ds1, p1, q1, rfl, rfl, rfl, h1, r1⟩ := trodAll_cons r0
  obtain ⟨v2, vs2, d2, ds2, p2, q2, rfl, rfl, rfl, h2, r2⟩ := trodAll_cons r1
  obtain ⟨rfl, rfl, rfl⟩ := trodAll_nil r2
  obtain rfl : args = #[v0, v1, v2] := by cases args; simp_all
  obtain ⟨rfl, rfl⟩ := trodVars_none hV
  have k0 := h0
  have lt0 : ∀ x ∈ p0, x.block < W.heap.size := by obtain ⟨m, hm⟩ := k0; exact DataW.trod_lt m _ _ _ hm
  obtain ⟨⟨l0⟩, rfl, _⟩ := okWide_array Try.underlying43 (hval 0 43 v0 rfl rfl)
  obtain ⟨a0, a1, b0, b1, c0, c1, d0, d1, rfl, g0⟩ : ∃ a0 a1 b0 b1 c0 c1 d0 d1 : RV, l0 = [.bool a0.n, .slice a0.p a0.l a0.c, .bool a0.m, .slice a0.p2 a0.l2 a0.c2, .bool a1.n, .slice a1.p a1.l a1.c, .bool a1.m, .slice a1.p2 a1.l2 a1.c2, .bool b0.n, .slice b0.p b0.l b0.c, .bool b0.m, .slice b0.p2 b0.l2 b0.c2, .bool b1.n, .slice b1.p b1.l b1.c, .bool b1.m, .slice b1.p2 b1.l2 b1.c2, .bool c0.n, .slice c0.p c0.l c0.c, .bool c0.m, .slice c0.p2 c0.l2 c0.c2, .bool c1.n, .slice c1.p c1.l c1.c, .bool c1.m, .slice c1.p2 c1.l2 c1.c2, .bool d0.n, .slice d0.p d0.l d0.c, .bool d0.m, .slice d0.p2 d0.l2 d0.c2, .bool d1.n, .slice d1.p d1.l d1.c, .bool d1.m, .slice d1.p2 d1.l2 d1.c2] ∧ (a0.Raw W ∧ a1.Raw W) ∧ (b0.Raw W ∧ b1.Raw W) ∧ (c0.Raw W ∧ c1.Raw W) ∧ (d0.Raw W ∧ d1.Raw W) := by
    obtain ⟨m, hm⟩ := h0
    exact rp4_open hm
  have k1 := h1
  have lt1 : ∀ x ∈ p1, x.block < W.heap.size := by obtain ⟨m, hm⟩ := k1; exact DataW.trod_lt m _ _ _ hm
  obtain ⟨⟨l1⟩, rfl, _⟩ := okWide_struct Try.underlying41 (hval 1 41 v1 rfl rfl)
  obtain ⟨t, rfl, g1⟩ : ∃ a : RV, l1 = [.bool a.n, .slice a.p a.l a.c, .bool a.m, .slice a.p2 a.l2 a.c2] ∧ a.Raw W := by
    obtain ⟨m, hm⟩ := h1
    exact rat_open hm
  have k2 := h2
  have lt2 : ∀ x ∈ p2, x.block < W.heap.size := by obtain ⟨m, hm⟩ := k2; exact DataW.trod_lt m _ _ _ hm
  obtain ⟨⟨l2⟩, rfl, _⟩ := okWide_struct Try.underlying41 (hval 2 41 v2 rfl rfl)
  obtain ⟨u, rfl, g2⟩ : ∃ a : RV, l2 = [.bool a.n, .slice a.p a.l a.c, .bool a.m, .slice a.p2 a.l2 a.c2] ∧ a.Raw W := by
    obtain ⟨m, hm⟩ := h2
    exact rat_open hm
  clear hA0 hval0
  refine (walk a0 a1 b0 b1 c0 c1 d0 d1 t u W g0 g1 g2).mono fun e W' ⟨he, hx⟩ => ?_
  subst he
  have bel := hx.below
  exact ⟨_, rfl, _, _, _, [], _, [], hW', trodAll_mk1 (shut_bool Try.underlying4 _), (trodAll_cons_mk (Below.trod laidOut (by kernel_rfl) (of_decide_eq_true (by kernel_rfl)) k0 bel lt0) (trodAll_cons_mk (Below.trod laidOut (by kernel_rfl) (of_decide_eq_true (by kernel_rfl)) k1 bel lt1) (trodAll_cons_mk (Below.trod laidOut (by kernel_rfl) (of_decide_eq_true (by kernel_rfl)) k2 bel lt2) trodAll_mk0))), rfl, bel.frame _, fun h => by cases h⟩

theorem proved : Rows.FlattenSplitSaid :=
  OpenClaim.holds_of_wide 4 Try.f4 rfl rfl rfl rfl rfl rfl rfl ⟨rfl, rfl, rfl, rfl, rfl⟩ rfl rfl rfl rfl rfl (by kernel_rfl) Try.func4 (by kernel_rfl)
    (of_decide_eq_true (by kernel_rfl)) (by unfold Func.isWrapper; first | (rw [if_pos (by decide +kernel)]; kernel_rfl) | (rw [if_neg (by decide +kernel)]; exact ⟨rfl, rfl⟩))
    (fun os started H enc _ => lifted os started H enc)
#print axioms proved

end Go.Proofs.Ytllpkoinjompcaa.split
