/- FlattenContained: points of a curve for parameters from 0 to 1 lie within its bounds, whose corners lie within the box of the control points. -/
import Derived.Test.YtllpkoinjompcaaM8
namespace Go.Proofs.Ytllpkoinjompcaa.contained
open Go.ChangeShapes Go.WideShapes Go.ChangeAt Go.RowKit
attribute [local go_sem ↓] Go.wp_at_zero Go.wp_at_succ run_eql_point run_neq_point run_max_ii run_min_ii

theorem rl_cubicV {a b c d t : Rat} {L : Nat} (ha : Nm.rl a ≤ L) (hb : Nm.rl b ≤ L) (hc : Nm.rl c ≤ L) (hd : Nm.rl d ≤ L) (ht : Nm.rl t ≤ L) : Nm.rl (cubicV a b c d t) ≤ 64 * L + 42 := by
  have h1 := rl_quadV3 ha hb hc ht
  have h2 := rl_quadV3 hb hc hd ht
  have h3 : Nm.rl (cubicV a b c d t) ≤ 4 * (16 * L + 10) + 2 := rl_lerpV (L := 16 * L + 10) h1 h2 (by omega)
  omega
theorem r03CmpS {L : Nat} {w : World} {cs ct : Array Value} {q r : Rat} {s : Int} (hs : s = rcmp q r) (hp : NIn L w cs q) (hq : NIn L w ct r) (hL : L ≤ 60000) :
    Calls Try.prog 23 #[.agg cs, .agg ct] w fun e w' => e = .returned (.int .i64 s) ∧ Ext w w' := by
  subst hs
  exact r03Cmp hp hq hL
theorem isPt {L : Nat} {w : World} {cs : Array Value} {x y : Rat} (h : PtIs w cs x y) (hx : Nm.rl x ≤ L) (hy : Nm.rl y ≤ L) : PtIn L w cs x y := by
  obtain ⟨a, b, e, ha, hb⟩ := h
  exact ⟨a, b, e, ha.isIn hx, hb.isIn hy⟩
theorem rl_top {a b c : Rat} {L : Nat} (ha : Nm.rl a ≤ L) (hb : Nm.rl b ≤ L) (hc : Nm.rl c ≤ L) : Nm.rl (quadV a b c (qTop a b c)) ≤ 16 * (6 * L + 8) + 10 := by
  have h1 := Nm.rl_sub a b
  have h2 := Nm.rl_sub c b
  have h3 := Nm.rl_add (a - b) (c - b)
  have h4 := Nm.rl_div (a - b) ((a - b) + (c - b))
  have h5 : Nm.rl (qTop a b c) ≤ 6 * L + 8 := by unfold qTop; omega
  exact rl_quadV3 (L := 6 * L + 8) (by omega) (by omega) (by omega) h5
theorem rl_qlo {a b c : Rat} {L : Nat} (ha : Nm.rl a ≤ L) (hb : Nm.rl b ≤ L) (hc : Nm.rl c ≤ L) : Nm.rl (quadLo a b c) ≤ 16 * (6 * L + 8) + 10 := by
  have h1 := rl_top ha hb hc
  unfold quadLo
  split
  · exact rl_lower h1 (rl_lower (by omega) (by omega))
  · exact rl_lower (by omega) (by omega)
theorem rl_qhi {a b c : Rat} {L : Nat} (ha : Nm.rl a ≤ L) (hb : Nm.rl b ≤ L) (hc : Nm.rl c ≤ L) : Nm.rl (quadHi a b c) ≤ 16 * (6 * L + 8) + 10 := by
  have h1 := rl_top ha hb hc
  unfold quadHi
  split
  · exact rl_upper h1 (rl_upper (by omega) (by omega))
  · exact rl_upper (by omega) (by omega)
theorem rl_foldLo {L : Nat} (xs : List Rat) : ∀ a, Nm.rl a ≤ L → (∀ x ∈ xs, Nm.rl x ≤ L) → Nm.rl (xs.foldl (fun l q => lower q l) a) ≤ L := by
  induction xs with
  | nil => intro a h _; exact h
  | cons y ys ih => intro a h hx; exact ih _ (rl_lower (hx y (List.mem_cons_self ..)) h) (fun x k => hx x (List.mem_cons_of_mem _ k))
theorem rl_foldHi {L : Nat} (xs : List Rat) : ∀ a, Nm.rl a ≤ L → (∀ x ∈ xs, Nm.rl x ≤ L) → Nm.rl (xs.foldl (fun l q => upper q l) a) ≤ L := by
  induction xs with
  | nil => intro a h _; exact h
  | cons y ys ih => intro a h hx; exact ih _ (rl_upper (hx y (List.mem_cons_self ..)) h) (fun x k => hx x (List.mem_cons_of_mem _ k))
theorem rl_half : Nm.rl ((1 : Rat) / 2) ≤ 6 := Nat.le_trans rl12 (by omega)
theorem rl_cubXs {a b c d : Rat} (ha : Nm.rl a ≤ 6) (hb : Nm.rl b ≤ 6) (hc : Nm.rl c ≤ 6) (hd : Nm.rl d ≤ 6) : ∀ x ∈ cubXs a b c d, Nm.rl x ≤ 426 := by
  have h1 := rl_lerpV (L := 6) ha hb rl_half
  have h2 := rl_lerpV (L := 6) hb hc rl_half
  have h3 := rl_lerpV (L := 6) hc hd rl_half
  have hh := rl_half
  have h4 := rl_lerpV (L := 26) (t := 1 / 2) h1 h2 (by omega)
  have h5 := rl_lerpV (L := 26) (t := 1 / 2) h2 h3 (by omega)
  have h6 := rl_lerpV (L := 106) (t := 1 / 2) h4 h5 (by omega)
  intro x hx
  simp only [cubXs, List.mem_cons, List.not_mem_nil, or_false] at hx
  rcases hx with rfl | rfl | rfl | rfl | rfl | rfl | rfl | rfl <;> omega
theorem rl_clo {a b c d : Rat} (ha : Nm.rl a ≤ 6) (hb : Nm.rl b ≤ 6) (hc : Nm.rl c ≤ 6) (hd : Nm.rl d ≤ 6) : Nm.rl (boxLo (cubXs a b c d)) ≤ 426 := by
  have h := rl_cubXs ha hb hc hd
  exact rl_foldLo _ _ (h _ (by simp [cubXs])) (fun x hx => h x (List.mem_cons_of_mem _ hx))
theorem rl_chi {a b c d : Rat} (ha : Nm.rl a ≤ 6) (hb : Nm.rl b ≤ 6) (hc : Nm.rl c ≤ 6) (hd : Nm.rl d ≤ 6) : Nm.rl (boxHi (cubXs a b c d)) ≤ 426 := by
  have h := rl_cubXs ha hb hc hd
  exact rl_foldHi _ _ (h _ (by simp [cubXs])) (fun x hx => h x (List.mem_cons_of_mem _ hx))
theorem cubicB {w : World} {cp : Array Value} {A0 A1 B0 B1 C0 C1 D0 D1 : Rat} (hP : C4In 6 w cp A0 A1 B0 B1 C0 C1 D0 D1) :
    Calls Try.prog 25 #[.agg cp] w fun e w' => ∃ c1 c2, e = .returned (.tuple #[.agg c1, .agg c2]) ∧ PtIs w' c1 (boxLo (cubXs A0 B0 C0 D0)) (boxLo (cubXs A1 B1 C1 D1)) ∧ PtIs w' c2 (boxHi (cubXs A0 B0 C0 D0)) (boxHi (cubXs A1 B1 C1 D1)) ∧ Ext w w' :=
  cubicBounds_any 6 cp A0 A1 B0 B1 C0 C1 D0 D1 w hP (by omega) (by omega)
theorem short_spec {a : RV} (h : a.short = true) : a.l ≤ 6 ∧ a.l2 ≤ 6 := by
  unfold RV.short at h
  simpa using h
theorem shortC_spec {a0 a1 b0 b1 c0 c1 d0 d1 : RV} (h : shortC a0 a1 b0 b1 c0 c1 d0 d1 = true) : (a0.l ≤ 6 ∧ a0.l2 ≤ 6) ∧ (a1.l ≤ 6 ∧ a1.l2 ≤ 6) ∧ (b0.l ≤ 6 ∧ b0.l2 ≤ 6) ∧ (b1.l ≤ 6 ∧ b1.l2 ≤ 6) ∧ (c0.l ≤ 6 ∧ c0.l2 ≤ 6) ∧ (c1.l ≤ 6 ∧ c1.l2 ≤ 6) ∧ (d0.l ≤ 6 ∧ d0.l2 ≤ 6) ∧ (d1.l ≤ 6 ∧ d1.l2 ≤ 6) := by
  unfold shortC at h
  simp only [Bool.and_eq_true] at h
  obtain ⟨⟨⟨⟨h0, h1⟩, h2, h3⟩, h4, h5⟩, h6, h7⟩ := h
  exact ⟨short_spec h0, short_spec h1, short_spec h2, short_spec h3, short_spec h4, short_spec h5, short_spec h6, short_spec h7⟩

set_option maxRecDepth 20000 in
set_option maxHeartbeats 8000000 in
theorem walkT (csP csT : Array Value) (A0 A1 B0 B1 C0 C1 D0 D1 U : Rat) (w : World) (hP : C4In 6 w csP A0 A1 B0 B1 C0 C1 D0 D1) (hT : NIn 6 w csT U) (h0 : 0 ≤ U) (h1 : U ≤ 1) (s0 s1 : Int) (HS0 : Hid (s0 = rcmp U ((0 : Int) : Rat))) (HS1 : Hid (s1 = rcmp U ((1 : Int) : Rat))) (hu0 : ¬ s0 < 0) (hu1 : ¬ 0 < s1)
    (hs : ∀ W, Calls Try.prog 10 #[.agg csP] W fun e w' => e = .returned (.bool true) ∧ Ext W w') (hs1 : ∀ W, Calls Try.prog 11 #[.agg csT] W fun e w' => e = .returned (.bool true) ∧ Ext W w') :
    Calls Try.prog 5 #[.agg csP, .agg csT] w fun e w' => e = .returned (.bool true) ∧ Ext w w' := by
  have hrS := hT.rl (by omega)
  have ZP := hP.size
  have ZT := hT.size
  have hrP : Nm.rl A0 ≤ 6 ∧ Nm.rl A1 ≤ 6 ∧ Nm.rl B0 ≤ 6 ∧ Nm.rl B1 ≤ 6 ∧ Nm.rl C0 ≤ 6 ∧ Nm.rl C1 ≤ 6 ∧ Nm.rl D0 ≤ 6 ∧ Nm.rl D1 ≤ 6 := by
    obtain ⟨_, _, _, _, _, _, _, _, _, k0, k1, k2, k3, k4, k5, k6, k7⟩ := hP
    exact ⟨(by have := k0.rl; omega), (by have := k1.rl; omega), (by have := k2.rl; omega), (by have := k3.rl; omega), (by have := k4.rl; omega), (by have := k5.rl; omega), (by have := k6.rl; omega), (by have := k7.rl; omega)⟩
  obtain ⟨ra0, ra1, rb0, rb1, rc0, rc1, rd0, rd1⟩ := hrP
  have FP := Lib.hid hP
  have FT := Lib.hid hT
  clear hP hT
  go_enter Try.func5, Try.ntmps5
  go_upto_region 1 with fail
  have hbx0 : Blk ((w.alloc (.cells csP 43)).alloc (.cells csT 41)) (w.heap.size) 43 csP := Blk.ext (Blk.new_at w _ (by simp) _ _) ((Ext.refl _).alloc _)
  have hbx1 : Blk ((w.alloc (.cells csP 43)).alloc (.cells csT 41)) (w.heap.size + 1) 41 csT := Blk.ext (Blk.new_at (w.alloc (.cells csP 43)) _ (by simp) _ _) (Ext.refl _)
  have hE : Ext w ((w.alloc (.cells csP 43)).alloc (.cells csT 41)) := (((Ext.refl _).alloc _).alloc _)
  generalize ((w.alloc (.cells csP 43)).alloc (.cells csT 41)) = wa at *
  generalize w.heap.size + 1 = bx1 at *
  have E1 := Lib.hid (show Ext w wa from hE)
  have Fbx0 := Lib.hid hbx0
  have Fbx1 := Lib.hid hbx1
  clear hE hbx0 hbx1
  refine wp_region_held_drew (S := fun x => Ext wa x) (by kernel_rfl) (Ext.refl _).drew (fun _ => ?_)
  have E2 := Lib.hid (show Ext wa wa.drew from (Ext.refl _).drew)
  refine md_load (i := 0) (listed' := #[true, false, false, false, false, false, false, false, false, false, false, false, false, false, false, false, false, false, false, false]) (by rfl) (by kernel_rfl) (by kernel_rfl) (by kernel_rfl) _ _ (by rfl) w.heap.size _ csP _ (by intro _ _ _ h; exact h) (by rfl) (by rfl) (fun x hx => (Fbx0.out).ext hx) Try.underlying43 (by rfl) (by rw [show (csP : Array Value).size = 32 from ZP]; kernel_rfl) E2.out (by kernel_rfl) ?_
  (try simp only [Act.put, sIT, sC0, sCS])
  refine md_call (i := 1) (listed' := #[true, true, false, false, false, false, false, false, false, false, false, false, false, false, false, false, false, false, false, false]) (by rfl) (by kernel_rfl) (by rfl) (by go_simp) (hs _) (by kernel_rfl) ?_
  rintro e w3 ⟨rfl, hx⟩
  have E3 := Lib.hid (show Ext wa.drew w3 from hx)
  clear hx
  refine ⟨_, rfl, (E2.out.trans E3.out), ?_⟩
  (try simp only [Act.put, sIT, sC0, sCS])
  refine md_val (i := 2) (v := ?vm1) (listed' := #[true, true, true, false, false, false, false, false, false, false, false, false, false, false, false, false, false, false, false, false]) (by rfl) (by kernel_rfl) (by kernel_rfl) (by kernel_rfl) (by intro _ _ _ h; exact h) (by rfl) ?hm1 (E2.out.trans E3.out) (by kernel_rfl) ?rm1
  case hm1 => (intro w hSw; (try dsimp only at hSw); go_simp <;> with_reducible rfl)
  (try simp only [Act.put, sIT, sC0, sCS])
  refine md_val (i := 3) (v := ?vm2) (listed' := #[true, true, true, true, false, false, false, false, false, false, false, false, false, false, false, false, false, false, false, false]) (by rfl) (by kernel_rfl) (by kernel_rfl) (by kernel_rfl) (by intro _ _ _ h; exact h) (by rfl) ?hm2 (E2.out.trans E3.out) (by kernel_rfl) ?rm2
  case hm2 => (intro w hSw; (try dsimp only at hSw); go_simp <;> with_reducible rfl)
  (try simp only [Act.put, sIT, sC0, sCS])
  refine md_load (i := 4) (listed' := #[true, true, true, true, true, false, false, false, false, false, false, false, false, false, false, false, false, false, false, false]) (by rfl) (by kernel_rfl) (by kernel_rfl) (by kernel_rfl) _ _ (by rfl) bx1 _ csT _ (by intro _ _ _ h; exact h) (by rfl) (by rfl) (fun x hx => (Fbx1.out).ext hx) Try.underlying41 (by rfl) (by rw [show (csT : Array Value).size = 4 from ZT]; kernel_rfl) (E2.out.trans E3.out) (by kernel_rfl) ?_
  (try simp only [Act.put, sIT, sC0, sCS])
  refine md_call (i := 5) (listed' := #[true, true, true, true, true, true, false, false, false, false, false, false, false, false, false, false, false, false, false, false]) (by rfl) (by kernel_rfl) (by rfl) (by go_simp) (hs1 _) (by kernel_rfl) ?_
  rintro e w4 ⟨rfl, hx⟩
  have E4 := Lib.hid (show Ext w3 w4 from hx)
  clear hx
  refine ⟨_, rfl, (E2.out.trans (E3.out.trans E4.out)), ?_⟩
  (try simp only [Act.put, sIT, sC0, sCS])
  refine md_val (i := 6) (v := ?vm3) (listed' := #[true, true, true, true, true, true, true, false, false, false, false, false, false, false, false, false, false, false, false, false]) (by rfl) (by kernel_rfl) (by kernel_rfl) (by kernel_rfl) (by intro _ _ _ h; exact h) (by rfl) ?hm3 (E2.out.trans (E3.out.trans E4.out)) (by kernel_rfl) ?rm3
  case hm3 => (intro w hSw; (try dsimp only at hSw); go_simp <;> with_reducible rfl)
  (try simp only [Act.put, sIT, sC0, sCS])
  refine md_val (i := 7) (v := ?vm4) (listed' := #[true, true, true, true, true, true, true, true, false, false, false, false, false, false, false, false, false, false, false, false]) (by rfl) (by kernel_rfl) (by kernel_rfl) (by kernel_rfl) (by intro _ _ _ h; exact h) (by rfl) ?hm4 (E2.out.trans (E3.out.trans E4.out)) (by kernel_rfl) ?rm4
  case hm4 => (intro w hSw; (try dsimp only at hSw); go_simp <;> with_reducible rfl)
  (try simp only [Act.put, sIT, sC0, sCS])
  refine md_val (i := 8) (v := ?vm5) (listed' := #[true, true, true, true, true, true, true, true, true, false, false, false, false, false, false, false, false, false, false, false]) (by rfl) (by kernel_rfl) (by kernel_rfl) (by kernel_rfl) (by intro _ _ _ h; exact h) (by rfl) ?hm5 (E2.out.trans (E3.out.trans E4.out)) (by kernel_rfl) ?rm5
  case hm5 => (intro w hSw; (try dsimp only at hSw); go_simp <;> with_reducible rfl)
  (try simp only [Act.put, sIT, sC0, sCS])
  refine md_load (i := 9) (listed' := #[true, true, true, true, true, true, true, true, true, true, false, false, false, false, false, false, false, false, false, false]) (by rfl) (by kernel_rfl) (by kernel_rfl) (by kernel_rfl) _ _ (by rfl) bx1 _ csT _ (by intro _ _ _ h; exact h) (by rfl) (by rfl) (fun x hx => (Fbx1.out).ext hx) Try.underlying41 (by rfl) (by rw [show (csT : Array Value).size = 4 from ZT]; kernel_rfl) (E2.out.trans (E3.out.trans E4.out)) (by kernel_rfl) ?_
  (try simp only [Act.put, sIT, sC0, sCS])
  refine md_call (i := 10) (listed' := #[true, true, true, true, true, true, true, true, true, true, true, false, false, false, false, false, false, false, false, false]) (by rfl) (by kernel_rfl) (by rfl) (by go_simp) (r03FromInt 0 _ (by omega) (by omega)) (by kernel_rfl) ?_
  rintro e w5 ⟨n0, rfl, h_n0, hx⟩
  have E5 := Lib.hid (show Ext w4 w5 from hx)
  have Fn0 := Lib.hid h_n0
  have Z_n0 := h_n0.size
  have O_n0 := h_n0.one
  clear h_n0
  clear hx
  refine ⟨_, rfl, (E2.out.trans (E3.out.trans (E4.out.trans E5.out))), ?_⟩
  (try simp only [Act.put, sIT, sC0, sCS])
  refine md_call (i := 11) (listed' := #[true, true, true, true, true, true, true, true, true, true, true, true, false, false, false, false, false, false, false, false]) (by rfl) (by kernel_rfl) (by rfl) (by go_simp) (r03CmpS HS0.out (L := 6) (FT.out.ext (E1.out.trans (E2.out.trans (E3.out.trans (E4.out.trans E5.out))))) (Fn0.out.isIn (Nat.le_trans (rlI 0 (by decide)) (by omega))) (by omega)) (by kernel_rfl) ?_
  rintro e w6 ⟨rfl, hx⟩
  have E6 := Lib.hid (show Ext w5 w6 from hx)
  clear hx
  refine ⟨_, rfl, (E2.out.trans (E3.out.trans (E4.out.trans (E5.out.trans E6.out)))), ?_⟩
  (try simp only [Act.put, sIT, sC0, sCS])
  refine md_val (i := 12) (v := ?vm6) (listed' := #[true, true, true, true, true, true, true, true, true, true, true, true, true, false, false, false, false, false, false, false]) (by rfl) (by kernel_rfl) (by kernel_rfl) (by kernel_rfl) (by intro _ _ _ h; exact h) (by rfl) ?hm6 (E2.out.trans (E3.out.trans (E4.out.trans (E5.out.trans E6.out)))) (by kernel_rfl) ?rm6
  case hm6 => (intro w hSw; (try dsimp only at hSw); go_simp <;> with_reducible rfl)
  (try simp only [Act.put, sIT, sC0, sCS])
  refine md_val (i := 13) (v := ?vm7) (listed' := #[true, true, true, true, true, true, true, true, true, true, true, true, true, true, false, false, false, false, false, false]) (by rfl) (by kernel_rfl) (by kernel_rfl) (by kernel_rfl) (by intro _ _ _ h; exact h) (by rfl) ?hm7 (E2.out.trans (E3.out.trans (E4.out.trans (E5.out.trans E6.out)))) (by kernel_rfl) ?rm7
  case hm7 => (intro w hSw; (try dsimp only at hSw); go_simp <;> with_reducible rfl)
  (try simp only [Act.put, sIT, sC0, sCS])
  refine md_val (i := 14) (v := ?vm8) (listed' := #[true, true, true, true, true, true, true, true, true, true, true, true, true, true, true, false, false, false, false, false]) (by rfl) (by kernel_rfl) (by kernel_rfl) (by kernel_rfl) (by intro _ _ _ h; exact h) (by rfl) ?hm8 (E2.out.trans (E3.out.trans (E4.out.trans (E5.out.trans E6.out)))) (by kernel_rfl) ?rm8
  case hm8 => (intro w hSw; (try dsimp only at hSw); go_simp <;> with_reducible rfl)
  (try simp only [Act.put, sIT, sC0, sCS])
  refine md_load (i := 15) (listed' := #[true, true, true, true, true, true, true, true, true, true, true, true, true, true, true, true, false, false, false, false]) (by rfl) (by kernel_rfl) (by kernel_rfl) (by kernel_rfl) _ _ (by rfl) bx1 _ csT _ (by intro _ _ _ h; exact h) (by rfl) (by rfl) (fun x hx => (Fbx1.out).ext hx) Try.underlying41 (by rfl) (by rw [show (csT : Array Value).size = 4 from ZT]; kernel_rfl) (E2.out.trans (E3.out.trans (E4.out.trans (E5.out.trans E6.out)))) (by kernel_rfl) ?_
  (try simp only [Act.put, sIT, sC0, sCS])
  refine md_call (i := 16) (listed' := #[true, true, true, true, true, true, true, true, true, true, true, true, true, true, true, true, true, false, false, false]) (by rfl) (by kernel_rfl) (by rfl) (by go_simp) (r03FromInt 1 _ (by omega) (by omega)) (by kernel_rfl) ?_
  rintro e w7 ⟨n1, rfl, h_n1, hx⟩
  have E7 := Lib.hid (show Ext w6 w7 from hx)
  have Fn1 := Lib.hid h_n1
  have Z_n1 := h_n1.size
  have O_n1 := h_n1.one
  clear h_n1
  clear hx
  refine ⟨_, rfl, (E2.out.trans (E3.out.trans (E4.out.trans (E5.out.trans (E6.out.trans E7.out))))), ?_⟩
  (try simp only [Act.put, sIT, sC0, sCS])
  refine md_call (i := 17) (listed' := #[true, true, true, true, true, true, true, true, true, true, true, true, true, true, true, true, true, true, false, false]) (by rfl) (by kernel_rfl) (by rfl) (by go_simp) (r03CmpS HS1.out (L := 6) (FT.out.ext (E1.out.trans (E2.out.trans (E3.out.trans (E4.out.trans (E5.out.trans (E6.out.trans E7.out))))))) (Fn1.out.isIn (Nat.le_trans (rlI 1 (by decide)) (by omega))) (by omega)) (by kernel_rfl) ?_
  rintro e w8 ⟨rfl, hx⟩
  have E8 := Lib.hid (show Ext w7 w8 from hx)
  clear hx
  refine ⟨_, rfl, (E2.out.trans (E3.out.trans (E4.out.trans (E5.out.trans (E6.out.trans (E7.out.trans E8.out)))))), ?_⟩
  (try simp only [Act.put, sIT, sC0, sCS])
  refine md_val (i := 18) (v := ?vm9) (listed' := #[true, true, true, true, true, true, true, true, true, true, true, true, true, true, true, true, true, true, true, false]) (by rfl) (by kernel_rfl) (by kernel_rfl) (by kernel_rfl) (by intro _ _ _ h; exact h) (by rfl) ?hm9 (E2.out.trans (E3.out.trans (E4.out.trans (E5.out.trans (E6.out.trans (E7.out.trans E8.out)))))) (by kernel_rfl) ?rm9
  case hm9 => (intro w hSw; (try dsimp only at hSw); go_simp <;> with_reducible rfl)
  (try simp only [Act.put, sIT, sC0, sCS])
  refine md_val (i := 19) (v := ?vm10) (listed' := #[true, true, true, true, true, true, true, true, true, true, true, true, true, true, true, true, true, true, true, true]) (by rfl) (by kernel_rfl) (by kernel_rfl) (by kernel_rfl) (by intro _ _ _ h; exact h) (by rfl) ?hm10 (E2.out.trans (E3.out.trans (E4.out.trans (E5.out.trans (E6.out.trans (E7.out.trans E8.out)))))) (by kernel_rfl) ?rm10
  case hm10 => (intro w hSw; (try dsimp only at hSw); go_simp <;> with_reducible rfl)
  (try simp only [Act.put, sIT, sC0, sCS])
  refine wpAnyH_done (by kernel_rfl) ?_ _
  go_upto_region 3 with fail
  refine wp_region_lit ?_
  refine mv_load (by rfl) _ _ (by rfl) w.heap.size _ csP _ (by rfl) (Fbx0.out.ext (E2.out.trans (E3.out.trans (E4.out.trans (E5.out.trans (E6.out.trans (E7.out.trans E8.out))))))) Try.underlying43 (by rfl) (by rw [show (csP : Array Value).size = 32 from ZP]; kernel_rfl) ?_
  (try simp only [Act.put, sIT, sC0, sCS])
  refine mv_call (by rfl) (by go_simp) (oExactQuad (FP.out.ext (E1.out.trans (E2.out.trans (E3.out.trans (E4.out.trans (E5.out.trans (E6.out.trans (E7.out.trans E8.out))))))))) ?_
  rintro e w9 ⟨csQ, rfl, h_csQ, hx⟩
  have E9 := Lib.hid (show Ext w8 w9 from hx)
  have FQ := Lib.hid h_csQ
  have Z_csQ := h_csQ.size
  have O_csQ := h_csQ.one
  clear h_csQ
  clear hx
  refine ⟨_, rfl, ?_⟩
  (try simp only [Act.put, sIT, sC0, sCS])
  refine mv_val (v := .pointer (some ⟨w9.heap.size, 0, none⟩)) (w' := w9.alloc (.cells #[.bool false, .slice none 0 0, .bool false, .slice none 0 0, .bool false, .slice none 0 0, .bool false, .slice none 0 0, .bool false, .slice none 0 0, .bool false, .slice none 0 0, .bool false, .slice none 0 0, .bool false, .slice none 0 0, .bool false, .slice none 0 0, .bool false, .slice none 0 0, .bool false, .slice none 0 0, .bool false, .slice none 0 0] 46)) (by rfl) (by go_simp) ?_
  (try simp only [Act.put, sIT, sC0, sCS])
  refine mv_store (by rfl) _ _ _ (by rfl) w9.heap.size 46 #[.bool false, .slice none 0 0, .bool false, .slice none 0 0, .bool false, .slice none 0 0, .bool false, .slice none 0 0, .bool false, .slice none 0 0, .bool false, .slice none 0 0, .bool false, .slice none 0 0, .bool false, .slice none 0 0, .bool false, .slice none 0 0, .bool false, .slice none 0 0, .bool false, .slice none 0 0, .bool false, .slice none 0 0] csQ (by rfl) (by rfl) (Blk.new w9 _ _) (by rw [show (csQ : Array Value).size = 24 from Z_csQ]; rfl) (by rw [show (csQ : Array Value).size = 24 from Z_csQ]; kernel_rfl) O_csQ ?_
  (try simp only [Act.put])
  obtain ⟨xq1, xq2⟩ := new_var w9 46 #[.bool false, .slice none 0 0, .bool false, .slice none 0 0, .bool false, .slice none 0 0, .bool false, .slice none 0 0, .bool false, .slice none 0 0, .bool false, .slice none 0 0, .bool false, .slice none 0 0, .bool false, .slice none 0 0, .bool false, .slice none 0 0, .bool false, .slice none 0 0, .bool false, .slice none 0 0, .bool false, .slice none 0 0] csQ (by rw [show (csQ : Array Value).size = 24 from Z_csQ]; rfl)
  generalize (w9.alloc (.cells #[.bool false, .slice none 0 0, .bool false, .slice none 0 0, .bool false, .slice none 0 0, .bool false, .slice none 0 0, .bool false, .slice none 0 0, .bool false, .slice none 0 0, .bool false, .slice none 0 0, .bool false, .slice none 0 0, .bool false, .slice none 0 0, .bool false, .slice none 0 0, .bool false, .slice none 0 0, .bool false, .slice none 0 0] 46)).setCells w9.heap.size 0 (csQ : Array Value).toList = w10 at *
  generalize w9.heap.size = X10 at *
  have E10 := Lib.hid (show Ext w9 w10 from xq1)
  have FV5 := Lib.hid xq2
  clear xq1 xq2
  go_upto_region 4 with fail
  refine wp_region_lit ?_
  refine mv_load (by rfl) _ _ (by rfl) X10 _ csQ _ (by rfl) FV5.out Try.underlying46 (by rfl) (by rw [show (csQ : Array Value).size = 24 from Z_csQ]; kernel_rfl) ?_
  (try simp only [Act.put, sIT, sC0, sCS])
  refine mv_call (by rfl) (by go_simp) (quadBounds_any 6 _ A0 A1 B0 B1 C0 C1 _ (FQ.out.ext E10.out) (by omega) (by omega)) ?_
  rintro e w11 ⟨qa, qb, rfl, h_qa, h_qb, hx⟩
  have E11 := Lib.hid (show Ext w10 w11 from hx)
  have Fqa := Lib.hid h_qa
  have Z_qa := h_qa.size
  have O_qa := h_qa.one
  clear h_qa
  have Fqb := Lib.hid h_qb
  have Z_qb := h_qb.size
  have O_qb := h_qb.one
  clear h_qb
  clear hx
  refine ⟨_, rfl, ?_⟩
  (try simp only [Act.put, sIT, sC0, sCS])
  refine mv_val (v := ?vm11) (w' := w11) (by rfl) ?hm11 ?rm11
  case hm11 => (go_simp <;> with_reducible rfl)
  (try simp only [Act.put, sIT, sC0, sCS])
  refine mv_val (v := ?vm12) (w' := w11) (by rfl) ?hm12 ?rm12
  case hm12 => (go_simp <;> with_reducible rfl)
  (try simp only [Act.put, sIT, sC0, sCS])
  refine mv_val (v := ?vm13) (w' := w11) (by rfl) ?hm13 ?rm13
  case hm13 => (go_simp <;> with_reducible rfl)
  (try simp only [Act.put, sIT, sC0, sCS])
  obtain ⟨xq1, xq2, xq3, xq4, xq5⟩ := new_var2 w11 42 #[.bool false, .slice none 0 0, .bool false, .slice none 0 0, .bool false, .slice none 0 0, .bool false, .slice none 0 0] qa qb (by rw [Z_qa]; rfl) (by rw [Z_qb]; rfl)
  refine mv_val (v := .pointer (some ⟨w11.heap.size, 0, none⟩)) (w' := w11.alloc (.cells #[.bool false, .slice none 0 0, .bool false, .slice none 0 0, .bool false, .slice none 0 0, .bool false, .slice none 0 0] 42)) (by rfl) (by go_simp) ?_
  (try simp only [Act.put, sIT, sC0, sCS])
  refine mv_val (v := .pointer (some ⟨(w11.alloc (.cells #[.bool false, .slice none 0 0, .bool false, .slice none 0 0, .bool false, .slice none 0 0, .bool false, .slice none 0 0] 42)).heap.size, 0, none⟩)) (w' := (w11.alloc (.cells #[.bool false, .slice none 0 0, .bool false, .slice none 0 0, .bool false, .slice none 0 0, .bool false, .slice none 0 0] 42)).alloc (.cells #[.bool false, .slice none 0 0, .bool false, .slice none 0 0, .bool false, .slice none 0 0, .bool false, .slice none 0 0] 42)) (by rfl) (by go_simp) ?_
  (try simp only [Act.put, sIT, sC0, sCS])
  refine mv_store (by rfl) _ _ _ (by rfl) w11.heap.size 42 #[.bool false, .slice none 0 0, .bool false, .slice none 0 0, .bool false, .slice none 0 0, .bool false, .slice none 0 0] qa (by rfl) (by rfl) xq1 (by rw [Z_qa]; rfl) (by rw [Z_qa]; kernel_rfl) O_qa ?_
  (try simp only [Act.put])
  refine mv_store (by rfl) _ _ _ (by rfl) (w11.alloc (.cells #[.bool false, .slice none 0 0, .bool false, .slice none 0 0, .bool false, .slice none 0 0, .bool false, .slice none 0 0] 42)).heap.size 42 #[.bool false, .slice none 0 0, .bool false, .slice none 0 0, .bool false, .slice none 0 0, .bool false, .slice none 0 0] qb (by rfl) (by rfl) xq2 (by rw [Z_qb]; rfl) (by rw [Z_qb]; kernel_rfl) O_qb ?_
  (try simp only [Act.put])
  clear xq1 xq2
  generalize (((w11.alloc (.cells #[.bool false, .slice none 0 0, .bool false, .slice none 0 0, .bool false, .slice none 0 0, .bool false, .slice none 0 0] 42)).alloc (.cells #[.bool false, .slice none 0 0, .bool false, .slice none 0 0, .bool false, .slice none 0 0, .bool false, .slice none 0 0] 42)).setCells w11.heap.size 0 qa.toList).setCells (w11.alloc (.cells #[.bool false, .slice none 0 0, .bool false, .slice none 0 0, .bool false, .slice none 0 0, .bool false, .slice none 0 0] 42)).heap.size 0 qb.toList = w12 at *
  generalize (w11.alloc (.cells #[.bool false, .slice none 0 0, .bool false, .slice none 0 0, .bool false, .slice none 0 0, .bool false, .slice none 0 0] 42)).heap.size = Y12 at *
  generalize w11.heap.size = X12 at *
  have E12 := Lib.hid (show Ext w11 w12 from xq3)
  have FV6 := Lib.hid xq4
  have FV7 := Lib.hid xq5
  clear xq3 xq4 xq5
  go_upto_region 5 with fail
  refine wp_region_lit ?_
  refine mv_load (by rfl) _ _ (by rfl) w.heap.size _ csP _ (by rfl) (Fbx0.out.ext (E2.out.trans (E3.out.trans (E4.out.trans (E5.out.trans (E6.out.trans (E7.out.trans (E8.out.trans (E9.out.trans (E10.out.trans (E11.out.trans E12.out))))))))))) Try.underlying43 (by rfl) (by rw [show (csP : Array Value).size = 32 from ZP]; kernel_rfl) ?_
  (try simp only [Act.put, sIT, sC0, sCS])
  refine mv_call (by rfl) (by go_simp) (cubicB (FP.out.ext (E1.out.trans (E2.out.trans (E3.out.trans (E4.out.trans (E5.out.trans (E6.out.trans (E7.out.trans (E8.out.trans (E9.out.trans (E10.out.trans (E11.out.trans E12.out))))))))))))) ?_
  rintro e w13 ⟨ca, cb, rfl, h_ca, h_cb, hx⟩
  have E13 := Lib.hid (show Ext w12 w13 from hx)
  have Fca := Lib.hid h_ca
  have Z_ca := h_ca.size
  have O_ca := h_ca.one
  clear h_ca
  have Fcb := Lib.hid h_cb
  have Z_cb := h_cb.size
  have O_cb := h_cb.one
  clear h_cb
  clear hx
  refine ⟨_, rfl, ?_⟩
  (try simp only [Act.put, sIT, sC0, sCS])
  refine mv_val (v := ?vm14) (w' := w13) (by rfl) ?hm14 ?rm14
  case hm14 => (go_simp <;> with_reducible rfl)
  (try simp only [Act.put, sIT, sC0, sCS])
  refine mv_val (v := ?vm15) (w' := w13) (by rfl) ?hm15 ?rm15
  case hm15 => (go_simp <;> with_reducible rfl)
  (try simp only [Act.put, sIT, sC0, sCS])
  refine mv_val (v := ?vm16) (w' := w13) (by rfl) ?hm16 ?rm16
  case hm16 => (go_simp <;> with_reducible rfl)
  (try simp only [Act.put, sIT, sC0, sCS])
  obtain ⟨xq1, xq2, xq3, xq4, xq5⟩ := new_var2 w13 42 #[.bool false, .slice none 0 0, .bool false, .slice none 0 0, .bool false, .slice none 0 0, .bool false, .slice none 0 0] ca cb (by rw [Z_ca]; rfl) (by rw [Z_cb]; rfl)
  refine mv_val (v := .pointer (some ⟨w13.heap.size, 0, none⟩)) (w' := w13.alloc (.cells #[.bool false, .slice none 0 0, .bool false, .slice none 0 0, .bool false, .slice none 0 0, .bool false, .slice none 0 0] 42)) (by rfl) (by go_simp) ?_
  (try simp only [Act.put, sIT, sC0, sCS])
  refine mv_val (v := .pointer (some ⟨(w13.alloc (.cells #[.bool false, .slice none 0 0, .bool false, .slice none 0 0, .bool false, .slice none 0 0, .bool false, .slice none 0 0] 42)).heap.size, 0, none⟩)) (w' := (w13.alloc (.cells #[.bool false, .slice none 0 0, .bool false, .slice none 0 0, .bool false, .slice none 0 0, .bool false, .slice none 0 0] 42)).alloc (.cells #[.bool false, .slice none 0 0, .bool false, .slice none 0 0, .bool false, .slice none 0 0, .bool false, .slice none 0 0] 42)) (by rfl) (by go_simp) ?_
  (try simp only [Act.put, sIT, sC0, sCS])
  refine mv_store (by rfl) _ _ _ (by rfl) w13.heap.size 42 #[.bool false, .slice none 0 0, .bool false, .slice none 0 0, .bool false, .slice none 0 0, .bool false, .slice none 0 0] ca (by rfl) (by rfl) xq1 (by rw [Z_ca]; rfl) (by rw [Z_ca]; kernel_rfl) O_ca ?_
  (try simp only [Act.put])
  refine mv_store (by rfl) _ _ _ (by rfl) (w13.alloc (.cells #[.bool false, .slice none 0 0, .bool false, .slice none 0 0, .bool false, .slice none 0 0, .bool false, .slice none 0 0] 42)).heap.size 42 #[.bool false, .slice none 0 0, .bool false, .slice none 0 0, .bool false, .slice none 0 0, .bool false, .slice none 0 0] cb (by rfl) (by rfl) xq2 (by rw [Z_cb]; rfl) (by rw [Z_cb]; kernel_rfl) O_cb ?_
  (try simp only [Act.put])
  clear xq1 xq2
  generalize (((w13.alloc (.cells #[.bool false, .slice none 0 0, .bool false, .slice none 0 0, .bool false, .slice none 0 0, .bool false, .slice none 0 0] 42)).alloc (.cells #[.bool false, .slice none 0 0, .bool false, .slice none 0 0, .bool false, .slice none 0 0, .bool false, .slice none 0 0] 42)).setCells w13.heap.size 0 ca.toList).setCells (w13.alloc (.cells #[.bool false, .slice none 0 0, .bool false, .slice none 0 0, .bool false, .slice none 0 0, .bool false, .slice none 0 0] 42)).heap.size 0 cb.toList = w14 at *
  generalize (w13.alloc (.cells #[.bool false, .slice none 0 0, .bool false, .slice none 0 0, .bool false, .slice none 0 0, .bool false, .slice none 0 0] 42)).heap.size = Y14 at *
  generalize w13.heap.size = X14 at *
  have E14 := Lib.hid (show Ext w13 w14 from xq3)
  have FV8 := Lib.hid xq4
  have FV9 := Lib.hid xq5
  clear xq3 xq4 xq5
  have ql0 := rl_qlo (L := 6) ra0 rb0 rc0
  have qh0 := rl_qhi (L := 6) ra0 rb0 rc0
  have cl0 := rl_clo ra0 rb0 rc0 rd0
  have ch0 := rl_chi ra0 rb0 rc0 rd0
  have vq0 := rl_quadV3 (t := U) (L := 6) ra0 rb0 rc0 hrS
  have vc0 := rl_cubicV (t := U) (L := 6) ra0 rb0 rc0 rd0 hrS
  have ql1 := rl_qlo (L := 6) ra1 rb1 rc1
  have qh1 := rl_qhi (L := 6) ra1 rb1 rc1
  have cl1 := rl_clo ra1 rb1 rc1 rd1
  have ch1 := rl_chi ra1 rb1 rc1 rd1
  have vq1 := rl_quadV3 (t := U) (L := 6) ra1 rb1 rc1 hrS
  have vc1 := rl_cubicV (t := U) (L := 6) ra1 rb1 rc1 rd1 hrS
  go_upto_region 6 with fail
  refine wp_region_held_drew (S := fun x => Ext w14 x) (by kernel_rfl) (Ext.refl _).drew (fun _ => ?_)
  have E15 := Lib.hid (show Ext w14 w14.drew from (Ext.refl _).drew)
  refine md_load (i := 0) (listed' := #[true, false, false, false, false, false, false, false, false, false, false, false, false, false, false, false, false, false, false, false, false, false, false, false, false, false, false, false, false, false, false, false, false, false, false, false, false, false, false, false, false, false, false, false, false, false, false, false]) (by rfl) (by kernel_rfl) (by kernel_rfl) (by kernel_rfl) _ _ (by rfl) X10 _ csQ _ (by intro _ _ _ h; exact h) (by rfl) (by rfl) (fun x hx => ((FV5.out.ext (E11.out.trans (E12.out.trans (E13.out.trans E14.out))))).ext hx) Try.underlying46 (by rfl) (by rw [show (csQ : Array Value).size = 24 from Z_csQ]; kernel_rfl) E15.out (by kernel_rfl) ?_
  (try simp only [Act.put, sIT, sC0, sCS])
  refine md_load (i := 1) (listed' := #[true, true, false, false, false, false, false, false, false, false, false, false, false, false, false, false, false, false, false, false, false, false, false, false, false, false, false, false, false, false, false, false, false, false, false, false, false, false, false, false, false, false, false, false, false, false, false, false]) (by rfl) (by kernel_rfl) (by kernel_rfl) (by kernel_rfl) _ _ (by rfl) bx1 _ csT _ (by intro _ _ _ h; exact h) (by rfl) (by rfl) (fun x hx => ((Fbx1.out.ext (E2.out.trans (E3.out.trans (E4.out.trans (E5.out.trans (E6.out.trans (E7.out.trans (E8.out.trans (E9.out.trans (E10.out.trans (E11.out.trans (E12.out.trans (E13.out.trans E14.out)))))))))))))).ext hx) Try.underlying41 (by rfl) (by rw [show (csT : Array Value).size = 4 from ZT]; kernel_rfl) E15.out (by kernel_rfl) ?_
  (try simp only [Act.put, sIT, sC0, sCS])
  refine md_load (i := 3) (listed' := #[true, true, false, true, false, false, false, false, false, false, false, false, false, false, false, false, false, false, false, false, false, false, false, false, false, false, false, false, false, false, false, false, false, false, false, false, false, false, false, false, false, false, false, false, false, false, false, false]) (by rfl) (by kernel_rfl) (by kernel_rfl) (by kernel_rfl) _ _ (by rfl) X12 _ qa _ (by intro _ _ _ h; exact h) (by rfl) (by rfl) (fun x hx => ((FV6.out.ext (E13.out.trans E14.out))).ext hx) Try.underlying42 (by rfl) (by rw [show (qa : Array Value).size = 8 from Z_qa]; kernel_rfl) E15.out (by kernel_rfl) ?_
  (try simp only [Act.put, sIT, sC0, sCS])
  refine md_load (i := 4) (listed' := #[true, true, false, true, true, false, false, false, false, false, false, false, false, false, false, false, false, false, false, false, false, false, false, false, false, false, false, false, false, false, false, false, false, false, false, false, false, false, false, false, false, false, false, false, false, false, false, false]) (by rfl) (by kernel_rfl) (by kernel_rfl) (by kernel_rfl) _ _ (by rfl) Y12 _ qb _ (by intro _ _ _ h; exact h) (by rfl) (by rfl) (fun x hx => ((FV7.out.ext (E13.out.trans E14.out))).ext hx) Try.underlying42 (by rfl) (by rw [show (qb : Array Value).size = 8 from Z_qb]; kernel_rfl) E15.out (by kernel_rfl) ?_
  (try simp only [Act.put, sIT, sC0, sCS])
  refine md_call (i := 2) (listed' := #[true, true, true, true, true, false, false, false, false, false, false, false, false, false, false, false, false, false, false, false, false, false, false, false, false, false, false, false, false, false, false, false, false, false, false, false, false, false, false, false, false, false, false, false, false, false, false, false]) (by rfl) (by kernel_rfl) (by rfl) (by go_simp) (oEvalQuad (FQ.out.ext (E10.out.trans (E11.out.trans (E12.out.trans (E13.out.trans (E14.out.trans E15.out)))))) (FT.out.ext (E1.out.trans (E2.out.trans (E3.out.trans (E4.out.trans (E5.out.trans (E6.out.trans (E7.out.trans (E8.out.trans (E9.out.trans (E10.out.trans (E11.out.trans (E12.out.trans (E13.out.trans (E14.out.trans E15.out))))))))))))))) (by omega) (by omega)) (by kernel_rfl) ?_
  rintro e w16 ⟨eq, rfl, h_eq, hx⟩
  have E16 := Lib.hid (show Ext w14.drew w16 from hx)
  have Feq := Lib.hid h_eq
  have Z_eq := h_eq.size
  have O_eq := h_eq.one
  clear h_eq
  clear hx
  refine ⟨_, rfl, (E15.out.trans E16.out), ?_⟩
  (try simp only [Act.put, sIT, sC0, sCS])
  refine md_call (i := 5) (listed' := #[true, true, true, true, true, true, false, false, false, false, false, false, false, false, false, false, false, false, false, false, false, false, false, false, false, false, false, false, false, false, false, false, false, false, false, false, false, false, false, false, false, false, false, false, false, false, false, false]) (by rfl) (by kernel_rfl) (by rfl) (by go_simp) (inBox_any 2000 _ _ _ _ _ _ _ _ _ _ (isPt Feq.out (by omega) (by omega)) (isPt (Fqa.out.ext (E12.out.trans (E13.out.trans (E14.out.trans (E15.out.trans E16.out))))) (by omega) (by omega)) (isPt (Fqb.out.ext (E12.out.trans (E13.out.trans (E14.out.trans (E15.out.trans E16.out))))) (by omega) (by omega)) (quadLo_le A0 B0 C0 U h0 h1) (quadHi_ge A0 B0 C0 U h0 h1) (quadLo_le A1 B1 C1 U h0 h1) (quadHi_ge A1 B1 C1 U h0 h1) (by omega)) (by kernel_rfl) ?_
  rintro e w17 ⟨rfl, hx⟩
  have E17 := Lib.hid (show Ext w16 w17 from hx)
  clear hx
  refine ⟨_, rfl, (E15.out.trans (E16.out.trans E17.out)), ?_⟩
  (try simp only [Act.put, sIT, sC0, sCS])
  refine md_val (i := 6) (v := ?vm17) (listed' := #[true, true, true, true, true, true, true, false, false, false, false, false, false, false, false, false, false, false, false, false, false, false, false, false, false, false, false, false, false, false, false, false, false, false, false, false, false, false, false, false, false, false, false, false, false, false, false, false]) (by rfl) (by kernel_rfl) (by kernel_rfl) (by kernel_rfl) (by intro _ _ _ h; exact h) (by rfl) ?hm17 (E15.out.trans (E16.out.trans E17.out)) (by kernel_rfl) ?rm17
  case hm17 => (intro w hSw; (try dsimp only at hSw); go_simp <;> with_reducible rfl)
  (try simp only [Act.put, sIT, sC0, sCS])
  refine md_val (i := 7) (v := ?vm18) (listed' := #[true, true, true, true, true, true, true, true, false, false, false, false, false, false, false, false, false, false, false, false, false, false, false, false, false, false, false, false, false, false, false, false, false, false, false, false, false, false, false, false, false, false, false, false, false, false, false, false]) (by rfl) (by kernel_rfl) (by kernel_rfl) (by kernel_rfl) (by intro _ _ _ h; exact h) (by rfl) ?hm18 (E15.out.trans (E16.out.trans E17.out)) (by kernel_rfl) ?rm18
  case hm18 => (intro w hSw; (try dsimp only at hSw); go_simp <;> with_reducible rfl)
  (try simp only [Act.put, sIT, sC0, sCS])
  refine md_load (i := 8) (listed' := #[true, true, true, true, true, true, true, true, true, false, false, false, false, false, false, false, false, false, false, false, false, false, false, false, false, false, false, false, false, false, false, false, false, false, false, false, false, false, false, false, false, false, false, false, false, false, false, false]) (by rfl) (by kernel_rfl) (by kernel_rfl) (by kernel_rfl) _ _ (by rfl) w.heap.size _ csP _ (by intro _ _ _ h; exact h) (by rfl) (by rfl) (fun x hx => ((Fbx0.out.ext (E2.out.trans (E3.out.trans (E4.out.trans (E5.out.trans (E6.out.trans (E7.out.trans (E8.out.trans (E9.out.trans (E10.out.trans (E11.out.trans (E12.out.trans (E13.out.trans E14.out)))))))))))))).ext hx) Try.underlying43 (by rfl) (by rw [show (csP : Array Value).size = 32 from ZP]; kernel_rfl) (E15.out.trans (E16.out.trans E17.out)) (by kernel_rfl) ?_
  (try simp only [Act.put, sIT, sC0, sCS])
  refine md_load (i := 9) (listed' := #[true, true, true, true, true, true, true, true, true, true, false, false, false, false, false, false, false, false, false, false, false, false, false, false, false, false, false, false, false, false, false, false, false, false, false, false, false, false, false, false, false, false, false, false, false, false, false, false]) (by rfl) (by kernel_rfl) (by kernel_rfl) (by kernel_rfl) _ _ (by rfl) bx1 _ csT _ (by intro _ _ _ h; exact h) (by rfl) (by rfl) (fun x hx => ((Fbx1.out.ext (E2.out.trans (E3.out.trans (E4.out.trans (E5.out.trans (E6.out.trans (E7.out.trans (E8.out.trans (E9.out.trans (E10.out.trans (E11.out.trans (E12.out.trans (E13.out.trans E14.out)))))))))))))).ext hx) Try.underlying41 (by rfl) (by rw [show (csT : Array Value).size = 4 from ZT]; kernel_rfl) (E15.out.trans (E16.out.trans E17.out)) (by kernel_rfl) ?_
  (try simp only [Act.put, sIT, sC0, sCS])
  refine md_load (i := 11) (listed' := #[true, true, true, true, true, true, true, true, true, true, false, true, false, false, false, false, false, false, false, false, false, false, false, false, false, false, false, false, false, false, false, false, false, false, false, false, false, false, false, false, false, false, false, false, false, false, false, false]) (by rfl) (by kernel_rfl) (by kernel_rfl) (by kernel_rfl) _ _ (by rfl) X14 _ ca _ (by intro _ _ _ h; exact h) (by rfl) (by rfl) (fun x hx => (FV8.out).ext hx) Try.underlying42 (by rfl) (by rw [show (ca : Array Value).size = 8 from Z_ca]; kernel_rfl) (E15.out.trans (E16.out.trans E17.out)) (by kernel_rfl) ?_
  (try simp only [Act.put, sIT, sC0, sCS])
  refine md_load (i := 12) (listed' := #[true, true, true, true, true, true, true, true, true, true, false, true, true, false, false, false, false, false, false, false, false, false, false, false, false, false, false, false, false, false, false, false, false, false, false, false, false, false, false, false, false, false, false, false, false, false, false, false]) (by rfl) (by kernel_rfl) (by kernel_rfl) (by kernel_rfl) _ _ (by rfl) Y14 _ cb _ (by intro _ _ _ h; exact h) (by rfl) (by rfl) (fun x hx => (FV9.out).ext hx) Try.underlying42 (by rfl) (by rw [show (cb : Array Value).size = 8 from Z_cb]; kernel_rfl) (E15.out.trans (E16.out.trans E17.out)) (by kernel_rfl) ?_
  (try simp only [Act.put, sIT, sC0, sCS])
  refine md_call (i := 10) (listed' := #[true, true, true, true, true, true, true, true, true, true, true, true, true, false, false, false, false, false, false, false, false, false, false, false, false, false, false, false, false, false, false, false, false, false, false, false, false, false, false, false, false, false, false, false, false, false, false, false]) (by rfl) (by kernel_rfl) (by rfl) (by go_simp) (oEvalCubic (FP.out.ext (E1.out.trans (E2.out.trans (E3.out.trans (E4.out.trans (E5.out.trans (E6.out.trans (E7.out.trans (E8.out.trans (E9.out.trans (E10.out.trans (E11.out.trans (E12.out.trans (E13.out.trans (E14.out.trans (E15.out.trans (E16.out.trans E17.out))))))))))))))))) (FT.out.ext (E1.out.trans (E2.out.trans (E3.out.trans (E4.out.trans (E5.out.trans (E6.out.trans (E7.out.trans (E8.out.trans (E9.out.trans (E10.out.trans (E11.out.trans (E12.out.trans (E13.out.trans (E14.out.trans (E15.out.trans (E16.out.trans E17.out))))))))))))))))) (by omega) (by omega)) (by kernel_rfl) ?_
  rintro e w18 ⟨ec, rfl, h_ec, hx⟩
  have E18 := Lib.hid (show Ext w17 w18 from hx)
  have Fec := Lib.hid h_ec
  have Z_ec := h_ec.size
  have O_ec := h_ec.one
  clear h_ec
  clear hx
  refine ⟨_, rfl, (E15.out.trans (E16.out.trans (E17.out.trans E18.out))), ?_⟩
  (try simp only [Act.put, sIT, sC0, sCS])
  refine md_call (i := 13) (listed' := #[true, true, true, true, true, true, true, true, true, true, true, true, true, true, false, false, false, false, false, false, false, false, false, false, false, false, false, false, false, false, false, false, false, false, false, false, false, false, false, false, false, false, false, false, false, false, false, false]) (by rfl) (by kernel_rfl) (by rfl) (by go_simp) (inBox_any 2000 _ _ _ _ _ _ _ _ _ _ (isPt Fec.out (by omega) (by omega)) (isPt (Fca.out.ext (E14.out.trans (E15.out.trans (E16.out.trans (E17.out.trans E18.out))))) (by omega) (by omega)) (isPt (Fcb.out.ext (E14.out.trans (E15.out.trans (E16.out.trans (E17.out.trans E18.out))))) (by omega) (by omega)) (cubLo_le A0 B0 C0 D0 U h0 h1) (cubHi_ge A0 B0 C0 D0 U h0 h1) (cubLo_le A1 B1 C1 D1 U h0 h1) (cubHi_ge A1 B1 C1 D1 U h0 h1) (by omega)) (by kernel_rfl) ?_
  rintro e w19 ⟨rfl, hx⟩
  have E19 := Lib.hid (show Ext w18 w19 from hx)
  clear hx
  refine ⟨_, rfl, (E15.out.trans (E16.out.trans (E17.out.trans (E18.out.trans E19.out)))), ?_⟩
  (try simp only [Act.put, sIT, sC0, sCS])
  refine md_val (i := 14) (v := ?vm19) (listed' := #[true, true, true, true, true, true, true, true, true, true, true, true, true, true, true, false, false, false, false, false, false, false, false, false, false, false, false, false, false, false, false, false, false, false, false, false, false, false, false, false, false, false, false, false, false, false, false, false]) (by rfl) (by kernel_rfl) (by kernel_rfl) (by kernel_rfl) (by intro _ _ _ h; exact h) (by rfl) ?hm19 (E15.out.trans (E16.out.trans (E17.out.trans (E18.out.trans E19.out)))) (by kernel_rfl) ?rm19
  case hm19 => (intro w hSw; (try dsimp only at hSw); go_simp <;> with_reducible rfl)
  (try simp only [Act.put, sIT, sC0, sCS])
  refine md_val (i := 15) (v := ?vm20) (listed' := #[true, true, true, true, true, true, true, true, true, true, true, true, true, true, true, true, false, false, false, false, false, false, false, false, false, false, false, false, false, false, false, false, false, false, false, false, false, false, false, false, false, false, false, false, false, false, false, false]) (by rfl) (by kernel_rfl) (by kernel_rfl) (by kernel_rfl) (by intro _ _ _ h; exact h) (by rfl) ?hm20 (E15.out.trans (E16.out.trans (E17.out.trans (E18.out.trans E19.out)))) (by kernel_rfl) ?rm20
  case hm20 => (intro w hSw; (try dsimp only at hSw); go_simp <;> with_reducible rfl)
  (try simp only [Act.put, sIT, sC0, sCS])
  refine md_val (i := 16) (v := ?vm21) (listed' := #[true, true, true, true, true, true, true, true, true, true, true, true, true, true, true, true, true, false, false, false, false, false, false, false, false, false, false, false, false, false, false, false, false, false, false, false, false, false, false, false, false, false, false, false, false, false, false, false]) (by rfl) (by kernel_rfl) (by kernel_rfl) (by kernel_rfl) (by intro _ _ _ h; exact h) (by rfl) ?hm21 (E15.out.trans (E16.out.trans (E17.out.trans (E18.out.trans E19.out)))) (by kernel_rfl) ?rm21
  case hm21 => (intro w hSw; (try dsimp only at hSw); go_simp <;> with_reducible rfl)
  (try simp only [Act.put, sIT, sC0, sCS])
  refine md_val (i := 17) (v := ?vm22) (listed' := #[true, true, true, true, true, true, true, true, true, true, true, true, true, true, true, true, true, true, false, false, false, false, false, false, false, false, false, false, false, false, false, false, false, false, false, false, false, false, false, false, false, false, false, false, false, false, false, false]) (by rfl) (by kernel_rfl) (by kernel_rfl) (by kernel_rfl) (by intro _ _ _ h; exact h) (by rfl) ?hm22 (E15.out.trans (E16.out.trans (E17.out.trans (E18.out.trans E19.out)))) (by kernel_rfl) ?rm22
  case hm22 => (intro w hSw; (try dsimp only at hSw); go_simp <;> with_reducible rfl)
  (try simp only [Act.put, sIT, sC0, sCS])
  refine md_part (i := 18) (listed' := #[true, true, true, true, true, true, true, true, true, true, true, true, true, true, true, true, true, true, true, false, false, false, false, false, false, false, false, false, false, false, false, false, false, false, false, false, false, false, false, false, false, false, false, false, false, false, false, false]) (by rfl) (by kernel_rfl) (by kernel_rfl) (by kernel_rfl) _ _ (by rfl) X10 0 8 _ csQ _ (by intro _ _ _ h; exact h) (by rfl) (by rfl) (fun x hx => ((FV5.out.ext (E11.out.trans (E12.out.trans (E13.out.trans E14.out))))).ext hx) Try.underlying42 (by rfl) (by kernel_rfl) (by rw [show (csQ : Array Value).size = 24 from Z_csQ]; omega) (E15.out.trans (E16.out.trans (E17.out.trans (E18.out.trans E19.out)))) (by kernel_rfl) ?_
  (try simp only [Act.put, sIT, sC0, sCS])
  refine md_load (i := 19) (listed' := #[true, true, true, true, true, true, true, true, true, true, true, true, true, true, true, true, true, true, true, true, false, false, false, false, false, false, false, false, false, false, false, false, false, false, false, false, false, false, false, false, false, false, false, false, false, false, false, false]) (by rfl) (by kernel_rfl) (by kernel_rfl) (by kernel_rfl) _ _ (by rfl) X12 _ qa _ (by intro _ _ _ h; exact h) (by rfl) (by rfl) (fun x hx => ((FV6.out.ext (E13.out.trans E14.out))).ext hx) Try.underlying42 (by rfl) (by rw [show (qa : Array Value).size = 8 from Z_qa]; kernel_rfl) (E15.out.trans (E16.out.trans (E17.out.trans (E18.out.trans E19.out)))) (by kernel_rfl) ?_
  (try simp only [Act.put, sIT, sC0, sCS])
  refine md_load (i := 20) (listed' := #[true, true, true, true, true, true, true, true, true, true, true, true, true, true, true, true, true, true, true, true, true, false, false, false, false, false, false, false, false, false, false, false, false, false, false, false, false, false, false, false, false, false, false, false, false, false, false, false]) (by rfl) (by kernel_rfl) (by kernel_rfl) (by kernel_rfl) _ _ (by rfl) Y12 _ qb _ (by intro _ _ _ h; exact h) (by rfl) (by rfl) (fun x hx => ((FV7.out.ext (E13.out.trans E14.out))).ext hx) Try.underlying42 (by rfl) (by rw [show (qb : Array Value).size = 8 from Z_qb]; kernel_rfl) (E15.out.trans (E16.out.trans (E17.out.trans (E18.out.trans E19.out)))) (by kernel_rfl) ?_
  (try simp only [Act.put, sIT, sC0, sCS])
  refine md_call (i := 21) (listed' := #[true, true, true, true, true, true, true, true, true, true, true, true, true, true, true, true, true, true, true, true, true, true, false, false, false, false, false, false, false, false, false, false, false, false, false, false, false, false, false, false, false, false, false, false, false, false, false, false]) (by rfl) (by kernel_rfl) (by rfl) (by go_simp) (inBox_any 2000 _ _ _ _ _ _ _ _ _ _ ((FQ.out.ext (E10.out.trans (E11.out.trans (E12.out.trans (E13.out.trans (E14.out.trans (E15.out.trans (E16.out.trans (E17.out.trans (E18.out.trans E19.out)))))))))).p0.mono (by omega)) (isPt (Fqa.out.ext (E12.out.trans (E13.out.trans (E14.out.trans (E15.out.trans (E16.out.trans (E17.out.trans (E18.out.trans E19.out)))))))) (by omega) (by omega)) (isPt (Fqb.out.ext (E12.out.trans (E13.out.trans (E14.out.trans (E15.out.trans (E16.out.trans (E17.out.trans (E18.out.trans E19.out)))))))) (by omega) (by omega)) (quadLo_le_ends A0 B0 C0).1 (quadHi_ge_ends A0 B0 C0).1 (quadLo_le_ends A1 B1 C1).1 (quadHi_ge_ends A1 B1 C1).1 (by omega)) (by kernel_rfl) ?_
  rintro e w20 ⟨rfl, hx⟩
  have E20 := Lib.hid (show Ext w19 w20 from hx)
  clear hx
  refine ⟨_, rfl, (E15.out.trans (E16.out.trans (E17.out.trans (E18.out.trans (E19.out.trans E20.out))))), ?_⟩
  (try simp only [Act.put, sIT, sC0, sCS])
  refine md_val (i := 22) (v := ?vm23) (listed' := #[true, true, true, true, true, true, true, true, true, true, true, true, true, true, true, true, true, true, true, true, true, true, true, false, false, false, false, false, false, false, false, false, false, false, false, false, false, false, false, false, false, false, false, false, false, false, false, false]) (by rfl) (by kernel_rfl) (by kernel_rfl) (by kernel_rfl) (by intro _ _ _ h; exact h) (by rfl) ?hm23 (E15.out.trans (E16.out.trans (E17.out.trans (E18.out.trans (E19.out.trans E20.out))))) (by kernel_rfl) ?rm23
  case hm23 => (intro w hSw; (try dsimp only at hSw); go_simp <;> with_reducible rfl)
  (try simp only [Act.put, sIT, sC0, sCS])
  refine md_val (i := 23) (v := ?vm24) (listed' := #[true, true, true, true, true, true, true, true, true, true, true, true, true, true, true, true, true, true, true, true, true, true, true, true, false, false, false, false, false, false, false, false, false, false, false, false, false, false, false, false, false, false, false, false, false, false, false, false]) (by rfl) (by kernel_rfl) (by kernel_rfl) (by kernel_rfl) (by intro _ _ _ h; exact h) (by rfl) ?hm24 (E15.out.trans (E16.out.trans (E17.out.trans (E18.out.trans (E19.out.trans E20.out))))) (by kernel_rfl) ?rm24
  case hm24 => (intro w hSw; (try dsimp only at hSw); go_simp <;> with_reducible rfl)
  (try simp only [Act.put, sIT, sC0, sCS])
  refine md_val (i := 24) (v := ?vm25) (listed' := #[true, true, true, true, true, true, true, true, true, true, true, true, true, true, true, true, true, true, true, true, true, true, true, true, true, false, false, false, false, false, false, false, false, false, false, false, false, false, false, false, false, false, false, false, false, false, false, false]) (by rfl) (by kernel_rfl) (by kernel_rfl) (by kernel_rfl) (by intro _ _ _ h; exact h) (by rfl) ?hm25 (E15.out.trans (E16.out.trans (E17.out.trans (E18.out.trans (E19.out.trans E20.out))))) (by kernel_rfl) ?rm25
  case hm25 => (intro w hSw; (try dsimp only at hSw); go_simp <;> with_reducible rfl)
  (try simp only [Act.put, sIT, sC0, sCS])
  refine md_val (i := 25) (v := ?vm26) (listed' := #[true, true, true, true, true, true, true, true, true, true, true, true, true, true, true, true, true, true, true, true, true, true, true, true, true, true, false, false, false, false, false, false, false, false, false, false, false, false, false, false, false, false, false, false, false, false, false, false]) (by rfl) (by kernel_rfl) (by kernel_rfl) (by kernel_rfl) (by intro _ _ _ h; exact h) (by rfl) ?hm26 (E15.out.trans (E16.out.trans (E17.out.trans (E18.out.trans (E19.out.trans E20.out))))) (by kernel_rfl) ?rm26
  case hm26 => (intro w hSw; (try dsimp only at hSw); go_simp <;> with_reducible rfl)
  (try simp only [Act.put, sIT, sC0, sCS])
  refine md_part (i := 26) (listed' := #[true, true, true, true, true, true, true, true, true, true, true, true, true, true, true, true, true, true, true, true, true, true, true, true, true, true, true, false, false, false, false, false, false, false, false, false, false, false, false, false, false, false, false, false, false, false, false, false]) (by rfl) (by kernel_rfl) (by kernel_rfl) (by kernel_rfl) _ _ (by rfl) X10 16 8 _ csQ _ (by intro _ _ _ h; exact h) (by rfl) (by rfl) (fun x hx => ((FV5.out.ext (E11.out.trans (E12.out.trans (E13.out.trans E14.out))))).ext hx) Try.underlying42 (by rfl) (by kernel_rfl) (by rw [show (csQ : Array Value).size = 24 from Z_csQ]; omega) (E15.out.trans (E16.out.trans (E17.out.trans (E18.out.trans (E19.out.trans E20.out))))) (by kernel_rfl) ?_
  (try simp only [Act.put, sIT, sC0, sCS])
  refine md_load (i := 27) (listed' := #[true, true, true, true, true, true, true, true, true, true, true, true, true, true, true, true, true, true, true, true, true, true, true, true, true, true, true, true, false, false, false, false, false, false, false, false, false, false, false, false, false, false, false, false, false, false, false, false]) (by rfl) (by kernel_rfl) (by kernel_rfl) (by kernel_rfl) _ _ (by rfl) X12 _ qa _ (by intro _ _ _ h; exact h) (by rfl) (by rfl) (fun x hx => ((FV6.out.ext (E13.out.trans E14.out))).ext hx) Try.underlying42 (by rfl) (by rw [show (qa : Array Value).size = 8 from Z_qa]; kernel_rfl) (E15.out.trans (E16.out.trans (E17.out.trans (E18.out.trans (E19.out.trans E20.out))))) (by kernel_rfl) ?_
  (try simp only [Act.put, sIT, sC0, sCS])
  refine md_load (i := 28) (listed' := #[true, true, true, true, true, true, true, true, true, true, true, true, true, true, true, true, true, true, true, true, true, true, true, true, true, true, true, true, true, false, false, false, false, false, false, false, false, false, false, false, false, false, false, false, false, false, false, false]) (by rfl) (by kernel_rfl) (by kernel_rfl) (by kernel_rfl) _ _ (by rfl) Y12 _ qb _ (by intro _ _ _ h; exact h) (by rfl) (by rfl) (fun x hx => ((FV7.out.ext (E13.out.trans E14.out))).ext hx) Try.underlying42 (by rfl) (by rw [show (qb : Array Value).size = 8 from Z_qb]; kernel_rfl) (E15.out.trans (E16.out.trans (E17.out.trans (E18.out.trans (E19.out.trans E20.out))))) (by kernel_rfl) ?_
  (try simp only [Act.put, sIT, sC0, sCS])
  refine md_call (i := 29) (listed' := #[true, true, true, true, true, true, true, true, true, true, true, true, true, true, true, true, true, true, true, true, true, true, true, true, true, true, true, true, true, true, false, false, false, false, false, false, false, false, false, false, false, false, false, false, false, false, false, false]) (by rfl) (by kernel_rfl) (by rfl) (by go_simp) (inBox_any 2000 _ _ _ _ _ _ _ _ _ _ ((FQ.out.ext (E10.out.trans (E11.out.trans (E12.out.trans (E13.out.trans (E14.out.trans (E15.out.trans (E16.out.trans (E17.out.trans (E18.out.trans (E19.out.trans E20.out))))))))))).p2.mono (by omega)) (isPt (Fqa.out.ext (E12.out.trans (E13.out.trans (E14.out.trans (E15.out.trans (E16.out.trans (E17.out.trans (E18.out.trans (E19.out.trans E20.out))))))))) (by omega) (by omega)) (isPt (Fqb.out.ext (E12.out.trans (E13.out.trans (E14.out.trans (E15.out.trans (E16.out.trans (E17.out.trans (E18.out.trans (E19.out.trans E20.out))))))))) (by omega) (by omega)) (quadLo_le_ends A0 B0 C0).2 (quadHi_ge_ends A0 B0 C0).2 (quadLo_le_ends A1 B1 C1).2 (quadHi_ge_ends A1 B1 C1).2 (by omega)) (by kernel_rfl) ?_
  rintro e w21 ⟨rfl, hx⟩
  have E21 := Lib.hid (show Ext w20 w21 from hx)
  clear hx
  refine ⟨_, rfl, (E15.out.trans (E16.out.trans (E17.out.trans (E18.out.trans (E19.out.trans (E20.out.trans E21.out)))))), ?_⟩
  (try simp only [Act.put, sIT, sC0, sCS])
  refine md_val (i := 30) (v := ?vm27) (listed' := #[true, true, true, true, true, true, true, true, true, true, true, true, true, true, true, true, true, true, true, true, true, true, true, true, true, true, true, true, true, true, true, false, false, false, false, false, false, false, false, false, false, false, false, false, false, false, false, false]) (by rfl) (by kernel_rfl) (by kernel_rfl) (by kernel_rfl) (by intro _ _ _ h; exact h) (by rfl) ?hm27 (E15.out.trans (E16.out.trans (E17.out.trans (E18.out.trans (E19.out.trans (E20.out.trans E21.out)))))) (by kernel_rfl) ?rm27
  case hm27 => (intro w hSw; (try dsimp only at hSw); go_simp <;> with_reducible rfl)
  (try simp only [Act.put, sIT, sC0, sCS])
  refine md_val (i := 31) (v := ?vm28) (listed' := #[true, true, true, true, true, true, true, true, true, true, true, true, true, true, true, true, true, true, true, true, true, true, true, true, true, true, true, true, true, true, true, true, false, false, false, false, false, false, false, false, false, false, false, false, false, false, false, false]) (by rfl) (by kernel_rfl) (by kernel_rfl) (by kernel_rfl) (by intro _ _ _ h; exact h) (by rfl) ?hm28 (E15.out.trans (E16.out.trans (E17.out.trans (E18.out.trans (E19.out.trans (E20.out.trans E21.out)))))) (by kernel_rfl) ?rm28
  case hm28 => (intro w hSw; (try dsimp only at hSw); go_simp <;> with_reducible rfl)
  (try simp only [Act.put, sIT, sC0, sCS])
  refine md_val (i := 32) (v := ?vm29) (listed' := #[true, true, true, true, true, true, true, true, true, true, true, true, true, true, true, true, true, true, true, true, true, true, true, true, true, true, true, true, true, true, true, true, true, false, false, false, false, false, false, false, false, false, false, false, false, false, false, false]) (by rfl) (by kernel_rfl) (by kernel_rfl) (by kernel_rfl) (by intro _ _ _ h; exact h) (by rfl) ?hm29 (E15.out.trans (E16.out.trans (E17.out.trans (E18.out.trans (E19.out.trans (E20.out.trans E21.out)))))) (by kernel_rfl) ?rm29
  case hm29 => (intro w hSw; (try dsimp only at hSw); go_simp <;> with_reducible rfl)
  (try simp only [Act.put, sIT, sC0, sCS])
  refine md_val (i := 33) (v := ?vm30) (listed' := #[true, true, true, true, true, true, true, true, true, true, true, true, true, true, true, true, true, true, true, true, true, true, true, true, true, true, true, true, true, true, true, true, true, true, false, false, false, false, false, false, false, false, false, false, false, false, false, false]) (by rfl) (by kernel_rfl) (by kernel_rfl) (by kernel_rfl) (by intro _ _ _ h; exact h) (by rfl) ?hm30 (E15.out.trans (E16.out.trans (E17.out.trans (E18.out.trans (E19.out.trans (E20.out.trans E21.out)))))) (by kernel_rfl) ?rm30
  case hm30 => (intro w hSw; (try dsimp only at hSw); go_simp <;> with_reducible rfl)
  (try simp only [Act.put, sIT, sC0, sCS])
  refine md_part (i := 34) (listed' := #[true, true, true, true, true, true, true, true, true, true, true, true, true, true, true, true, true, true, true, true, true, true, true, true, true, true, true, true, true, true, true, true, true, true, true, false, false, false, false, false, false, false, false, false, false, false, false, false]) (by rfl) (by kernel_rfl) (by kernel_rfl) (by kernel_rfl) _ _ (by rfl) w.heap.size 0 8 _ csP _ (by intro _ _ _ h; exact h) (by rfl) (by rfl) (fun x hx => ((Fbx0.out.ext (E2.out.trans (E3.out.trans (E4.out.trans (E5.out.trans (E6.out.trans (E7.out.trans (E8.out.trans (E9.out.trans (E10.out.trans (E11.out.trans (E12.out.trans (E13.out.trans E14.out)))))))))))))).ext hx) Try.underlying42 (by rfl) (by kernel_rfl) (by rw [show (csP : Array Value).size = 32 from ZP]; omega) (E15.out.trans (E16.out.trans (E17.out.trans (E18.out.trans (E19.out.trans (E20.out.trans E21.out)))))) (by kernel_rfl) ?_
  (try simp only [Act.put, sIT, sC0, sCS])
  refine md_load (i := 35) (listed' := #[true, true, true, true, true, true, true, true, true, true, true, true, true, true, true, true, true, true, true, true, true, true, true, true, true, true, true, true, true, true, true, true, true, true, true, true, false, false, false, false, false, false, false, false, false, false, false, false]) (by rfl) (by kernel_rfl) (by kernel_rfl) (by kernel_rfl) _ _ (by rfl) X14 _ ca _ (by intro _ _ _ h; exact h) (by rfl) (by rfl) (fun x hx => (FV8.out).ext hx) Try.underlying42 (by rfl) (by rw [show (ca : Array Value).size = 8 from Z_ca]; kernel_rfl) (E15.out.trans (E16.out.trans (E17.out.trans (E18.out.trans (E19.out.trans (E20.out.trans E21.out)))))) (by kernel_rfl) ?_
  (try simp only [Act.put, sIT, sC0, sCS])
  refine md_load (i := 36) (listed' := #[true, true, true, true, true, true, true, true, true, true, true, true, true, true, true, true, true, true, true, true, true, true, true, true, true, true, true, true, true, true, true, true, true, true, true, true, true, false, false, false, false, false, false, false, false, false, false, false]) (by rfl) (by kernel_rfl) (by kernel_rfl) (by kernel_rfl) _ _ (by rfl) Y14 _ cb _ (by intro _ _ _ h; exact h) (by rfl) (by rfl) (fun x hx => (FV9.out).ext hx) Try.underlying42 (by rfl) (by rw [show (cb : Array Value).size = 8 from Z_cb]; kernel_rfl) (E15.out.trans (E16.out.trans (E17.out.trans (E18.out.trans (E19.out.trans (E20.out.trans E21.out)))))) (by kernel_rfl) ?_
  (try simp only [Act.put, sIT, sC0, sCS])
  refine md_call (i := 37) (listed' := #[true, true, true, true, true, true, true, true, true, true, true, true, true, true, true, true, true, true, true, true, true, true, true, true, true, true, true, true, true, true, true, true, true, true, true, true, true, true, false, false, false, false, false, false, false, false, false, false]) (by rfl) (by kernel_rfl) (by rfl) (by go_simp) (inBox_any 2000 _ _ _ _ _ _ _ _ _ _ ((FP.out.ext (E1.out.trans (E2.out.trans (E3.out.trans (E4.out.trans (E5.out.trans (E6.out.trans (E7.out.trans (E8.out.trans (E9.out.trans (E10.out.trans (E11.out.trans (E12.out.trans (E13.out.trans (E14.out.trans (E15.out.trans (E16.out.trans (E17.out.trans (E18.out.trans (E19.out.trans (E20.out.trans E21.out))))))))))))))))))))).p0.mono (by omega)) (isPt (Fca.out.ext (E14.out.trans (E15.out.trans (E16.out.trans (E17.out.trans (E18.out.trans (E19.out.trans (E20.out.trans E21.out)))))))) (by omega) (by omega)) (isPt (Fcb.out.ext (E14.out.trans (E15.out.trans (E16.out.trans (E17.out.trans (E18.out.trans (E19.out.trans (E20.out.trans E21.out)))))))) (by omega) (by omega)) (cubLo_mem (by simp [cubXs])) (cubHi_mem (by simp [cubXs])) (cubLo_mem (by simp [cubXs])) (cubHi_mem (by simp [cubXs])) (by omega)) (by kernel_rfl) ?_
  rintro e w22 ⟨rfl, hx⟩
  have E22 := Lib.hid (show Ext w21 w22 from hx)
  clear hx
  refine ⟨_, rfl, (E15.out.trans (E16.out.trans (E17.out.trans (E18.out.trans (E19.out.trans (E20.out.trans (E21.out.trans E22.out))))))), ?_⟩
  (try simp only [Act.put, sIT, sC0, sCS])
  refine md_val (i := 38) (v := ?vm31) (listed' := #[true, true, true, true, true, true, true, true, true, true, true, true, true, true, true, true, true, true, true, true, true, true, true, true, true, true, true, true, true, true, true, true, true, true, true, true, true, true, true, false, false, false, false, false, false, false, false, false]) (by rfl) (by kernel_rfl) (by kernel_rfl) (by kernel_rfl) (by intro _ _ _ h; exact h) (by rfl) ?hm31 (E15.out.trans (E16.out.trans (E17.out.trans (E18.out.trans (E19.out.trans (E20.out.trans (E21.out.trans E22.out))))))) (by kernel_rfl) ?rm31
  case hm31 => (intro w hSw; (try dsimp only at hSw); go_simp <;> with_reducible rfl)
  (try simp only [Act.put, sIT, sC0, sCS])
  refine md_val (i := 39) (v := ?vm32) (listed' := #[true, true, true, true, true, true, true, true, true, true, true, true, true, true, true, true, true, true, true, true, true, true, true, true, true, true, true, true, true, true, true, true, true, true, true, true, true, true, true, true, false, false, false, false, false, false, false, false]) (by rfl) (by kernel_rfl) (by kernel_rfl) (by kernel_rfl) (by intro _ _ _ h; exact h) (by rfl) ?hm32 (E15.out.trans (E16.out.trans (E17.out.trans (E18.out.trans (E19.out.trans (E20.out.trans (E21.out.trans E22.out))))))) (by kernel_rfl) ?rm32
  case hm32 => (intro w hSw; (try dsimp only at hSw); go_simp <;> with_reducible rfl)
  (try simp only [Act.put, sIT, sC0, sCS])
  refine md_val (i := 40) (v := ?vm33) (listed' := #[true, true, true, true, true, true, true, true, true, true, true, true, true, true, true, true, true, true, true, true, true, true, true, true, true, true, true, true, true, true, true, true, true, true, true, true, true, true, true, true, true, false, false, false, false, false, false, false]) (by rfl) (by kernel_rfl) (by kernel_rfl) (by kernel_rfl) (by intro _ _ _ h; exact h) (by rfl) ?hm33 (E15.out.trans (E16.out.trans (E17.out.trans (E18.out.trans (E19.out.trans (E20.out.trans (E21.out.trans E22.out))))))) (by kernel_rfl) ?rm33
  case hm33 => (intro w hSw; (try dsimp only at hSw); go_simp <;> with_reducible rfl)
  (try simp only [Act.put, sIT, sC0, sCS])
  refine md_val (i := 41) (v := ?vm34) (listed' := #[true, true, true, true, true, true, true, true, true, true, true, true, true, true, true, true, true, true, true, true, true, true, true, true, true, true, true, true, true, true, true, true, true, true, true, true, true, true, true, true, true, true, false, false, false, false, false, false]) (by rfl) (by kernel_rfl) (by kernel_rfl) (by kernel_rfl) (by intro _ _ _ h; exact h) (by rfl) ?hm34 (E15.out.trans (E16.out.trans (E17.out.trans (E18.out.trans (E19.out.trans (E20.out.trans (E21.out.trans E22.out))))))) (by kernel_rfl) ?rm34
  case hm34 => (intro w hSw; (try dsimp only at hSw); go_simp <;> with_reducible rfl)
  (try simp only [Act.put, sIT, sC0, sCS])
  refine md_part (i := 42) (listed' := #[true, true, true, true, true, true, true, true, true, true, true, true, true, true, true, true, true, true, true, true, true, true, true, true, true, true, true, true, true, true, true, true, true, true, true, true, true, true, true, true, true, true, true, false, false, false, false, false]) (by rfl) (by kernel_rfl) (by kernel_rfl) (by kernel_rfl) _ _ (by rfl) w.heap.size 24 8 _ csP _ (by intro _ _ _ h; exact h) (by rfl) (by rfl) (fun x hx => ((Fbx0.out.ext (E2.out.trans (E3.out.trans (E4.out.trans (E5.out.trans (E6.out.trans (E7.out.trans (E8.out.trans (E9.out.trans (E10.out.trans (E11.out.trans (E12.out.trans (E13.out.trans E14.out)))))))))))))).ext hx) Try.underlying42 (by rfl) (by kernel_rfl) (by rw [show (csP : Array Value).size = 32 from ZP]; omega) (E15.out.trans (E16.out.trans (E17.out.trans (E18.out.trans (E19.out.trans (E20.out.trans (E21.out.trans E22.out))))))) (by kernel_rfl) ?_
  (try simp only [Act.put, sIT, sC0, sCS])
  refine md_load (i := 43) (listed' := #[true, true, true, true, true, true, true, true, true, true, true, true, true, true, true, true, true, true, true, true, true, true, true, true, true, true, true, true, true, true, true, true, true, true, true, true, true, true, true, true, true, true, true, true, false, false, false, false]) (by rfl) (by kernel_rfl) (by kernel_rfl) (by kernel_rfl) _ _ (by rfl) X14 _ ca _ (by intro _ _ _ h; exact h) (by rfl) (by rfl) (fun x hx => (FV8.out).ext hx) Try.underlying42 (by rfl) (by rw [show (ca : Array Value).size = 8 from Z_ca]; kernel_rfl) (E15.out.trans (E16.out.trans (E17.out.trans (E18.out.trans (E19.out.trans (E20.out.trans (E21.out.trans E22.out))))))) (by kernel_rfl) ?_
  (try simp only [Act.put, sIT, sC0, sCS])
  refine md_load (i := 44) (listed' := #[true, true, true, true, true, true, true, true, true, true, true, true, true, true, true, true, true, true, true, true, true, true, true, true, true, true, true, true, true, true, true, true, true, true, true, true, true, true, true, true, true, true, true, true, true, false, false, false]) (by rfl) (by kernel_rfl) (by kernel_rfl) (by kernel_rfl) _ _ (by rfl) Y14 _ cb _ (by intro _ _ _ h; exact h) (by rfl) (by rfl) (fun x hx => (FV9.out).ext hx) Try.underlying42 (by rfl) (by rw [show (cb : Array Value).size = 8 from Z_cb]; kernel_rfl) (E15.out.trans (E16.out.trans (E17.out.trans (E18.out.trans (E19.out.trans (E20.out.trans (E21.out.trans E22.out))))))) (by kernel_rfl) ?_
  (try simp only [Act.put, sIT, sC0, sCS])
  refine md_call (i := 45) (listed' := #[true, true, true, true, true, true, true, true, true, true, true, true, true, true, true, true, true, true, true, true, true, true, true, true, true, true, true, true, true, true, true, true, true, true, true, true, true, true, true, true, true, true, true, true, true, true, false, false]) (by rfl) (by kernel_rfl) (by rfl) (by go_simp) (inBox_any 2000 _ _ _ _ _ _ _ _ _ _ ((FP.out.ext (E1.out.trans (E2.out.trans (E3.out.trans (E4.out.trans (E5.out.trans (E6.out.trans (E7.out.trans (E8.out.trans (E9.out.trans (E10.out.trans (E11.out.trans (E12.out.trans (E13.out.trans (E14.out.trans (E15.out.trans (E16.out.trans (E17.out.trans (E18.out.trans (E19.out.trans (E20.out.trans (E21.out.trans E22.out)))))))))))))))))))))).p3.mono (by omega)) (isPt (Fca.out.ext (E14.out.trans (E15.out.trans (E16.out.trans (E17.out.trans (E18.out.trans (E19.out.trans (E20.out.trans (E21.out.trans E22.out))))))))) (by omega) (by omega)) (isPt (Fcb.out.ext (E14.out.trans (E15.out.trans (E16.out.trans (E17.out.trans (E18.out.trans (E19.out.trans (E20.out.trans (E21.out.trans E22.out))))))))) (by omega) (by omega)) (cubLo_mem (by simp [cubXs])) (cubHi_mem (by simp [cubXs])) (cubLo_mem (by simp [cubXs])) (cubHi_mem (by simp [cubXs])) (by omega)) (by kernel_rfl) ?_
  rintro e w23 ⟨rfl, hx⟩
  have E23 := Lib.hid (show Ext w22 w23 from hx)
  clear hx
  refine ⟨_, rfl, (E15.out.trans (E16.out.trans (E17.out.trans (E18.out.trans (E19.out.trans (E20.out.trans (E21.out.trans (E22.out.trans E23.out)))))))), ?_⟩
  (try simp only [Act.put, sIT, sC0, sCS])
  refine md_val (i := 46) (v := ?vm35) (listed' := #[true, true, true, true, true, true, true, true, true, true, true, true, true, true, true, true, true, true, true, true, true, true, true, true, true, true, true, true, true, true, true, true, true, true, true, true, true, true, true, true, true, true, true, true, true, true, true, false]) (by rfl) (by kernel_rfl) (by kernel_rfl) (by kernel_rfl) (by intro _ _ _ h; exact h) (by rfl) ?hm35 (E15.out.trans (E16.out.trans (E17.out.trans (E18.out.trans (E19.out.trans (E20.out.trans (E21.out.trans (E22.out.trans E23.out)))))))) (by kernel_rfl) ?rm35
  case hm35 => (intro w hSw; (try dsimp only at hSw); go_simp <;> with_reducible rfl)
  (try simp only [Act.put, sIT, sC0, sCS])
  refine md_val (i := 47) (v := ?vm36) (listed' := #[true, true, true, true, true, true, true, true, true, true, true, true, true, true, true, true, true, true, true, true, true, true, true, true, true, true, true, true, true, true, true, true, true, true, true, true, true, true, true, true, true, true, true, true, true, true, true, true]) (by rfl) (by kernel_rfl) (by kernel_rfl) (by kernel_rfl) (by intro _ _ _ h; exact h) (by rfl) ?hm36 (E15.out.trans (E16.out.trans (E17.out.trans (E18.out.trans (E19.out.trans (E20.out.trans (E21.out.trans (E22.out.trans E23.out)))))))) (by kernel_rfl) ?rm36
  case hm36 => (intro w hSw; (try dsimp only at hSw); go_simp <;> with_reducible rfl)
  (try simp only [Act.put, sIT, sC0, sCS])
  refine wpAnyH_done (by kernel_rfl) ?_ _
  have Gbx0 := (Fbx0.out.ext (E2.out.trans (E3.out.trans (E4.out.trans (E5.out.trans (E6.out.trans (E7.out.trans (E8.out.trans (E9.out.trans (E10.out.trans (E11.out.trans (E12.out.trans (E13.out.trans (E14.out.trans (E15.out.trans (E16.out.trans (E17.out.trans (E18.out.trans (E19.out.trans (E20.out.trans (E21.out.trans (E22.out.trans E23.out))))))))))))))))))))))
  have G_P := (FP.out.ext (E1.out.trans (E2.out.trans (E3.out.trans (E4.out.trans (E5.out.trans (E6.out.trans (E7.out.trans (E8.out.trans (E9.out.trans (E10.out.trans (E11.out.trans (E12.out.trans (E13.out.trans (E14.out.trans (E15.out.trans (E16.out.trans (E17.out.trans (E18.out.trans (E19.out.trans (E20.out.trans (E21.out.trans (E22.out.trans E23.out)))))))))))))))))))))))
  have GV5 := (FV5.out.ext (E11.out.trans (E12.out.trans (E13.out.trans (E14.out.trans (E15.out.trans (E16.out.trans (E17.out.trans (E18.out.trans (E19.out.trans (E20.out.trans (E21.out.trans (E22.out.trans E23.out)))))))))))))
  have G_Q := (FQ.out.ext (E10.out.trans (E11.out.trans (E12.out.trans (E13.out.trans (E14.out.trans (E15.out.trans (E16.out.trans (E17.out.trans (E18.out.trans (E19.out.trans (E20.out.trans (E21.out.trans (E22.out.trans E23.out))))))))))))))
  have GV6 := (FV6.out.ext (E13.out.trans (E14.out.trans (E15.out.trans (E16.out.trans (E17.out.trans (E18.out.trans (E19.out.trans (E20.out.trans (E21.out.trans (E22.out.trans E23.out)))))))))))
  have G_qa := (Fqa.out.ext (E12.out.trans (E13.out.trans (E14.out.trans (E15.out.trans (E16.out.trans (E17.out.trans (E18.out.trans (E19.out.trans (E20.out.trans (E21.out.trans (E22.out.trans E23.out))))))))))))
  have GV7 := (FV7.out.ext (E13.out.trans (E14.out.trans (E15.out.trans (E16.out.trans (E17.out.trans (E18.out.trans (E19.out.trans (E20.out.trans (E21.out.trans (E22.out.trans E23.out)))))))))))
  have G_qb := (Fqb.out.ext (E12.out.trans (E13.out.trans (E14.out.trans (E15.out.trans (E16.out.trans (E17.out.trans (E18.out.trans (E19.out.trans (E20.out.trans (E21.out.trans (E22.out.trans E23.out))))))))))))
  have GV8 := (FV8.out.ext (E15.out.trans (E16.out.trans (E17.out.trans (E18.out.trans (E19.out.trans (E20.out.trans (E21.out.trans (E22.out.trans E23.out)))))))))
  have G_ca := (Fca.out.ext (E14.out.trans (E15.out.trans (E16.out.trans (E17.out.trans (E18.out.trans (E19.out.trans (E20.out.trans (E21.out.trans (E22.out.trans E23.out))))))))))
  have GV9 := (FV9.out.ext (E15.out.trans (E16.out.trans (E17.out.trans (E18.out.trans (E19.out.trans (E20.out.trans (E21.out.trans (E22.out.trans E23.out)))))))))
  have G_cb := (Fcb.out.ext (E14.out.trans (E15.out.trans (E16.out.trans (E17.out.trans (E18.out.trans (E19.out.trans (E20.out.trans (E21.out.trans (E22.out.trans E23.out))))))))))
  have HEX := Lib.hid (E1.out.trans (E2.out.trans (E3.out.trans (E4.out.trans (E5.out.trans (E6.out.trans (E7.out.trans (E8.out.trans (E9.out.trans (E10.out.trans (E11.out.trans (E12.out.trans (E13.out.trans (E14.out.trans (E15.out.trans (E16.out.trans (E17.out.trans (E18.out.trans (E19.out.trans (E20.out.trans (E21.out.trans (E22.out.trans E23.out))))))))))))))))))))))
  clear Fbx0 FV5 FV6 FV7 FV8 FV9 FP FQ Fqa Fqb Fca Fcb
  obtain ⟨a0, a1, b0, b1, c0, c1, d0, d1, rfl, ia0, ia1, ib0, ib1, ic0, ic1, id0, id1⟩ := G_P
  obtain ⟨a0q, a1q, b0q, b1q, c0q, c1q, rfl, ia0q, ia1q, ib0q, ib1q, ic0q, ic1q⟩ := G_Q
  obtain ⟨ya0, ya1, rfl, iya0, iya1⟩ := G_qa
  obtain ⟨yb0, yb1, rfl, iyb0, iyb1⟩ := G_qb
  obtain ⟨za0, za1, rfl, iza0, iza1⟩ := G_ca
  obtain ⟨zb0, zb1, rfl, izb0, izb1⟩ := G_cb
  have HBP := Lib.hid Gbx0
  have Ja0 := Lib.hid ia0
  have Ja1 := Lib.hid ia1
  have Jb0 := Lib.hid ib0
  have Jb1 := Lib.hid ib1
  have Jc0 := Lib.hid ic0
  have Jc1 := Lib.hid ic1
  have Jd0 := Lib.hid id0
  have Jd1 := Lib.hid id1
  clear Gbx0 ia0 ia1 ib0 ib1 ic0 ic1 id0 id1
  have HBQ := Lib.hid GV5
  have Ja0q := Lib.hid ia0q
  have Ja1q := Lib.hid ia1q
  have Jb0q := Lib.hid ib0q
  have Jb1q := Lib.hid ib1q
  have Jc0q := Lib.hid ic0q
  have Jc1q := Lib.hid ic1q
  clear GV5 ia0q ia1q ib0q ib1q ic0q ic1q
  have HBqa := Lib.hid GV6
  have Jya0 := Lib.hid iya0
  have Jya1 := Lib.hid iya1
  clear GV6 iya0 iya1
  have HBqb := Lib.hid GV7
  have Jyb0 := Lib.hid iyb0
  have Jyb1 := Lib.hid iyb1
  clear GV7 iyb0 iyb1
  have HBca := Lib.hid GV8
  have Jza0 := Lib.hid iza0
  have Jza1 := Lib.hid iza1
  clear GV8 iza0 iza1
  have HBcb := Lib.hid GV9
  have Jzb0 := Lib.hid izb0
  have Jzb1 := Lib.hid izb1
  clear GV9 izb0 izb1
  go_wp2_with fail
  go_loopg [92] 2 (fun g i wr => (g = 2 ∧ i = .int .i64 0 ∧ Ext w23 wr) ∨ (g = 1 ∧ i = .int .i64 1 ∧ Ext w23 wr) ∨ (g = 0 ∧ i = .int .i64 2 ∧ Ext w23 wr))
  case atStart => exact Or.inl ⟨rfl, rfl, Ext.refl _⟩
  case round =>
    rcases hrel with ⟨rfl, rfl, hst⟩ | ⟨rfl, rfl, hst⟩ | ⟨rfl, rfl, hst⟩
    · have hst' := hst
      clear hst
      have E1 := Lib.hid (show Ext w23 wr from hst')
      clear hst'
      go_upto_region 11 with fail
      refine wp_region_held_drew (S := fun x => Ext wr x) (by kernel_rfl) (Ext.refl _).drew (fun _ => ?_)
      have E2 := Lib.hid (show Ext wr wr.drew from (Ext.refl _).drew)
      refine md_val (i := 0) (v := ?vm37) (listed' := #[true, false, false, false, false, false, false, false, false, false, false, false, false, false, false, false, false, false, false, false, false, false, false, false, false, false, false, false, false, false, false, false, false, false, false, false, false, false, false, false, false, false, false, false, false, false, false, false]) (by rfl) (by kernel_rfl) (by kernel_rfl) (by kernel_rfl) (by intro _ _ _ h; exact h) (by rfl) ?hm37 E2.out (by kernel_rfl) ?rm37
      case hm37 => (intro w hSw; (try dsimp only at hSw); go_simp <;> with_reducible rfl)
      (try simp only [Act.put, sIT, sC0, sCS])
      refine md_val (i := 1) (v := ?vm38) (listed' := #[true, true, false, false, false, false, false, false, false, false, false, false, false, false, false, false, false, false, false, false, false, false, false, false, false, false, false, false, false, false, false, false, false, false, false, false, false, false, false, false, false, false, false, false, false, false, false, false]) (by rfl) (by kernel_rfl) (by kernel_rfl) (by kernel_rfl) (by intro _ _ _ h; exact h) (by rfl) ?hm38 E2.out (by kernel_rfl) ?rm38
      case hm38 => (intro w hSw; (try dsimp only at hSw); go_simp <;> with_reducible rfl)
      (try simp only [Act.put, sIT, sC0, sCS])
      refine md_range (i := 2) (listed' := #[true, true, true, false, false, false, false, false, false, false, false, false, false, false, false, false, false, false, false, false, false, false, false, false, false, false, false, false, false, false, false, false, false, false, false, false, false, false, false, false, false, false, false, false, false, false, false, false]) (by rfl) (by kernel_rfl) (by kernel_rfl) (by kernel_rfl) _ _ (by rfl) X12 0 [.bool ya0.n, .slice ya0.p ya0.l ya0.c, .bool ya0.m, .slice ya0.p2 ya0.l2 ya0.c2] _ (by intro _ _ _ h; exact h) (by rfl) (by rfl) (fun x hx => (((HBqa.out.ext E1.out)).ext hx).part 0 4) Try.underlying41 (by rfl) (by kernel_rfl) E2.out (by kernel_rfl) ?_
      (try simp only [Act.put, sIT, sC0, sCS])
      refine md_val (i := 3) (v := ?vm39) (listed' := #[true, true, true, true, false, false, false, false, false, false, false, false, false, false, false, false, false, false, false, false, false, false, false, false, false, false, false, false, false, false, false, false, false, false, false, false, false, false, false, false, false, false, false, false, false, false, false, false]) (by rfl) (by kernel_rfl) (by kernel_rfl) (by kernel_rfl) (by intro _ _ _ h; exact h) (by rfl) ?hm39 E2.out (by kernel_rfl) ?rm39
      case hm39 => (intro w hSw; (try dsimp only at hSw); go_simp <;> with_reducible rfl)
      (try simp only [Act.put, sIT, sC0, sCS])
      refine md_val (i := 4) (v := ?vm40) (listed' := #[true, true, true, true, true, false, false, false, false, false, false, false, false, false, false, false, false, false, false, false, false, false, false, false, false, false, false, false, false, false, false, false, false, false, false, false, false, false, false, false, false, false, false, false, false, false, false, false]) (by rfl) (by kernel_rfl) (by kernel_rfl) (by kernel_rfl) (by intro _ _ _ h; exact h) (by rfl) ?hm40 E2.out (by kernel_rfl) ?rm40
      case hm40 => (intro w hSw; (try dsimp only at hSw); go_simp <;> with_reducible rfl)
      (try simp only [Act.put, sIT, sC0, sCS])
      refine md_range (i := 5) (listed' := #[true, true, true, true, true, true, false, false, false, false, false, false, false, false, false, false, false, false, false, false, false, false, false, false, false, false, false, false, false, false, false, false, false, false, false, false, false, false, false, false, false, false, false, false, false, false, false, false]) (by rfl) (by kernel_rfl) (by kernel_rfl) (by kernel_rfl) _ _ (by rfl) Y12 0 [.bool yb0.n, .slice yb0.p yb0.l yb0.c, .bool yb0.m, .slice yb0.p2 yb0.l2 yb0.c2] _ (by intro _ _ _ h; exact h) (by rfl) (by rfl) (fun x hx => (((HBqb.out.ext E1.out)).ext hx).part 0 4) Try.underlying41 (by rfl) (by kernel_rfl) E2.out (by kernel_rfl) ?_
      (try simp only [Act.put, sIT, sC0, sCS])
      refine md_val (i := 6) (v := ?vm41) (listed' := #[true, true, true, true, true, true, true, false, false, false, false, false, false, false, false, false, false, false, false, false, false, false, false, false, false, false, false, false, false, false, false, false, false, false, false, false, false, false, false, false, false, false, false, false, false, false, false, false]) (by rfl) (by kernel_rfl) (by kernel_rfl) (by kernel_rfl) (by intro _ _ _ h; exact h) (by rfl) ?hm41 E2.out (by kernel_rfl) ?rm41
      case hm41 => (intro w hSw; (try dsimp only at hSw); go_simp <;> with_reducible rfl)
      (try simp only [Act.put, sIT, sC0, sCS])
      refine md_val (i := 7) (v := ?vm42) (listed' := #[true, true, true, true, true, true, true, true, false, false, false, false, false, false, false, false, false, false, false, false, false, false, false, false, false, false, false, false, false, false, false, false, false, false, false, false, false, false, false, false, false, false, false, false, false, false, false, false]) (by rfl) (by kernel_rfl) (by kernel_rfl) (by kernel_rfl) (by intro _ _ _ h; exact h) (by rfl) ?hm42 E2.out (by kernel_rfl) ?rm42
      case hm42 => (intro w hSw; (try dsimp only at hSw); go_simp <;> with_reducible rfl)
      (try simp only [Act.put, sIT, sC0, sCS])
      refine md_val (i := 8) (v := ?vm43) (listed' := #[true, true, true, true, true, true, true, true, true, false, false, false, false, false, false, false, false, false, false, false, false, false, false, false, false, false, false, false, false, false, false, false, false, false, false, false, false, false, false, false, false, false, false, false, false, false, false, false]) (by rfl) (by kernel_rfl) (by kernel_rfl) (by kernel_rfl) (by intro _ _ _ h; exact h) (by rfl) ?hm43 E2.out (by kernel_rfl) ?rm43
      case hm43 => (intro w hSw; (try dsimp only at hSw); go_simp <;> with_reducible rfl)
      (try simp only [Act.put, sIT, sC0, sCS])
      refine md_range (i := 9) (listed' := #[true, true, true, true, true, true, true, true, true, true, false, false, false, false, false, false, false, false, false, false, false, false, false, false, false, false, false, false, false, false, false, false, false, false, false, false, false, false, false, false, false, false, false, false, false, false, false, false]) (by rfl) (by kernel_rfl) (by kernel_rfl) (by kernel_rfl) _ _ (by rfl) X10 0 [.bool a0q.n, .slice a0q.p a0q.l a0q.c, .bool a0q.m, .slice a0q.p2 a0q.l2 a0q.c2] _ (by intro _ _ _ h; exact h) (by rfl) (by rfl) (fun x hx => (((HBQ.out.ext E1.out)).ext hx).part 0 4) Try.underlying41 (by rfl) (by kernel_rfl) E2.out (by kernel_rfl) ?_
      (try simp only [Act.put, sIT, sC0, sCS])
      refine md_val (i := 10) (v := ?vm44) (listed' := #[true, true, true, true, true, true, true, true, true, true, true, false, false, false, false, false, false, false, false, false, false, false, false, false, false, false, false, false, false, false, false, false, false, false, false, false, false, false, false, false, false, false, false, false, false, false, false, false]) (by rfl) (by kernel_rfl) (by kernel_rfl) (by kernel_rfl) (by intro _ _ _ h; exact h) (by rfl) ?hm44 E2.out (by kernel_rfl) ?rm44
      case hm44 => (intro w hSw; (try dsimp only at hSw); go_simp <;> with_reducible rfl)
      (try simp only [Act.put, sIT, sC0, sCS])
      refine md_val (i := 11) (v := ?vm45) (listed' := #[true, true, true, true, true, true, true, true, true, true, true, true, false, false, false, false, false, false, false, false, false, false, false, false, false, false, false, false, false, false, false, false, false, false, false, false, false, false, false, false, false, false, false, false, false, false, false, false]) (by rfl) (by kernel_rfl) (by kernel_rfl) (by kernel_rfl) (by intro _ _ _ h; exact h) (by rfl) ?hm45 E2.out (by kernel_rfl) ?rm45
      case hm45 => (intro w hSw; (try dsimp only at hSw); go_simp <;> with_reducible rfl)
      (try simp only [Act.put, sIT, sC0, sCS])
      refine md_val (i := 12) (v := ?vm46) (listed' := #[true, true, true, true, true, true, true, true, true, true, true, true, true, false, false, false, false, false, false, false, false, false, false, false, false, false, false, false, false, false, false, false, false, false, false, false, false, false, false, false, false, false, false, false, false, false, false, false]) (by rfl) (by kernel_rfl) (by kernel_rfl) (by kernel_rfl) (by intro _ _ _ h; exact h) (by rfl) ?hm46 E2.out (by kernel_rfl) ?rm46
      case hm46 => (intro w hSw; (try dsimp only at hSw); go_simp <;> with_reducible rfl)
      (try simp only [Act.put, sIT, sC0, sCS])
      refine md_range (i := 13) (listed' := #[true, true, true, true, true, true, true, true, true, true, true, true, true, true, false, false, false, false, false, false, false, false, false, false, false, false, false, false, false, false, false, false, false, false, false, false, false, false, false, false, false, false, false, false, false, false, false, false]) (by rfl) (by kernel_rfl) (by kernel_rfl) (by kernel_rfl) _ _ (by rfl) X10 8 [.bool b0q.n, .slice b0q.p b0q.l b0q.c, .bool b0q.m, .slice b0q.p2 b0q.l2 b0q.c2] _ (by intro _ _ _ h; exact h) (by rfl) (by rfl) (fun x hx => (((HBQ.out.ext E1.out)).ext hx).part 8 4) Try.underlying41 (by rfl) (by kernel_rfl) E2.out (by kernel_rfl) ?_
      (try simp only [Act.put, sIT, sC0, sCS])
      refine md_val (i := 14) (v := ?vm47) (listed' := #[true, true, true, true, true, true, true, true, true, true, true, true, true, true, true, false, false, false, false, false, false, false, false, false, false, false, false, false, false, false, false, false, false, false, false, false, false, false, false, false, false, false, false, false, false, false, false, false]) (by rfl) (by kernel_rfl) (by kernel_rfl) (by kernel_rfl) (by intro _ _ _ h; exact h) (by rfl) ?hm47 E2.out (by kernel_rfl) ?rm47
      case hm47 => (intro w hSw; (try dsimp only at hSw); go_simp <;> with_reducible rfl)
      (try simp only [Act.put, sIT, sC0, sCS])
      refine md_val (i := 15) (v := ?vm48) (listed' := #[true, true, true, true, true, true, true, true, true, true, true, true, true, true, true, true, false, false, false, false, false, false, false, false, false, false, false, false, false, false, false, false, false, false, false, false, false, false, false, false, false, false, false, false, false, false, false, false]) (by rfl) (by kernel_rfl) (by kernel_rfl) (by kernel_rfl) (by intro _ _ _ h; exact h) (by rfl) ?hm48 E2.out (by kernel_rfl) ?rm48
      case hm48 => (intro w hSw; (try dsimp only at hSw); go_simp <;> with_reducible rfl)
      (try simp only [Act.put, sIT, sC0, sCS])
      refine md_val (i := 16) (v := ?vm49) (listed' := #[true, true, true, true, true, true, true, true, true, true, true, true, true, true, true, true, true, false, false, false, false, false, false, false, false, false, false, false, false, false, false, false, false, false, false, false, false, false, false, false, false, false, false, false, false, false, false, false]) (by rfl) (by kernel_rfl) (by kernel_rfl) (by kernel_rfl) (by intro _ _ _ h; exact h) (by rfl) ?hm49 E2.out (by kernel_rfl) ?rm49
      case hm49 => (intro w hSw; (try dsimp only at hSw); go_simp <;> with_reducible rfl)
      (try simp only [Act.put, sIT, sC0, sCS])
      refine md_range (i := 17) (listed' := #[true, true, true, true, true, true, true, true, true, true, true, true, true, true, true, true, true, true, false, false, false, false, false, false, false, false, false, false, false, false, false, false, false, false, false, false, false, false, false, false, false, false, false, false, false, false, false, false]) (by rfl) (by kernel_rfl) (by kernel_rfl) (by kernel_rfl) _ _ (by rfl) X10 16 [.bool c0q.n, .slice c0q.p c0q.l c0q.c, .bool c0q.m, .slice c0q.p2 c0q.l2 c0q.c2] _ (by intro _ _ _ h; exact h) (by rfl) (by rfl) (fun x hx => (((HBQ.out.ext E1.out)).ext hx).part 16 4) Try.underlying41 (by rfl) (by kernel_rfl) E2.out (by kernel_rfl) ?_
      (try simp only [Act.put, sIT, sC0, sCS])
      refine md_one (i := 18) (listed' := #[true, true, true, true, true, true, true, true, true, true, true, true, true, true, true, true, true, true, true, false, false, false, false, false, false, false, false, false, false, false, false, false, false, false, false, false, false, false, false, false, false, false, false, false, false, false, false, false]) (v := .slice (some ⟨wr.drew.heap.size, 0, none⟩) 3 3) (w' := (wr.drew.alloc (.cells #[.bool a0q.n, .slice a0q.p a0q.l a0q.c, .bool a0q.m, .slice a0q.p2 a0q.l2 a0q.c2, .bool b0q.n, .slice b0q.p b0q.l b0q.c, .bool b0q.m, .slice b0q.p2 b0q.l2 b0q.c2, .bool c0q.n, .slice c0q.p c0q.l c0q.c, .bool c0q.m, .slice c0q.p2 c0q.l2 c0q.c2] 41))) (by rfl) (by kernel_rfl) (by rfl) (by go_simp) (E2.out.alloc _) (by kernel_rfl) ?_
      (try simp only [Act.put, sIT, sC0, sCS])
      have E3 := Lib.hid (show Ext wr.drew (wr.drew.alloc (.cells #[.bool a0q.n, .slice a0q.p a0q.l a0q.c, .bool a0q.m, .slice a0q.p2 a0q.l2 a0q.c2, .bool b0q.n, .slice b0q.p b0q.l b0q.c, .bool b0q.m, .slice b0q.p2 b0q.l2 b0q.c2, .bool c0q.n, .slice c0q.p c0q.l c0q.c, .bool c0q.m, .slice c0q.p2 c0q.l2 c0q.c2] 41)) from (Ext.refl _).alloc _)
      have Fnb18 := Lib.hid (Blk.new wr.drew 41 #[.bool a0q.n, .slice a0q.p a0q.l a0q.c, .bool a0q.m, .slice a0q.p2 a0q.l2 a0q.c2, .bool b0q.n, .slice b0q.p b0q.l b0q.c, .bool b0q.m, .slice b0q.p2 b0q.l2 b0q.c2, .bool c0q.n, .slice c0q.p c0q.l c0q.c, .bool c0q.m, .slice c0q.p2 c0q.l2 c0q.c2])
      refine md_call (i := 19) (listed' := #[true, true, true, true, true, true, true, true, true, true, true, true, true, true, true, true, true, true, true, true, false, false, false, false, false, false, false, false, false, false, false, false, false, false, false, false, false, false, false, false, false, false, false, false, false, false, false, false]) (by rfl) (by kernel_rfl) (by rfl) (by go_simp) (reached_any 2000 #[.bool ya0.n, .slice ya0.p ya0.l ya0.c, .bool ya0.m, .slice ya0.p2 ya0.l2 ya0.c2] #[.bool yb0.n, .slice yb0.p yb0.l yb0.c, .bool yb0.m, .slice yb0.p2 yb0.l2 yb0.c2] _ _ _ [A0, B0, C0] _ ⟨ya0, rfl, (Jya0.out.ext (E1.out.trans (E2.out.trans E3.out))).isIn (by omega)⟩ ⟨yb0, rfl, (Jyb0.out.ext (E1.out.trans (E2.out.trans E3.out))).isIn (by omega)⟩ (RatsV.of_blk (rs := [a0q, b0q, c0q]) Fnb18.out rfl (in3 ((Ja0q.out.ext (E1.out.trans (E2.out.trans E3.out))).mono (by omega)) ((Jb0q.out.ext (E1.out.trans (E2.out.trans E3.out))).mono (by omega)) ((Jc0q.out.ext (E1.out.trans (E2.out.trans E3.out))).mono (by omega)))) (by simp) (quad_reached_lo A0 B0 C0) (quad_reached_hi A0 B0 C0) (by omega)) (by kernel_rfl) ?_
      rintro e w4 ⟨rfl, hx⟩
      have E4 := Lib.hid (show Ext (wr.drew.alloc (.cells #[.bool a0q.n, .slice a0q.p a0q.l a0q.c, .bool a0q.m, .slice a0q.p2 a0q.l2 a0q.c2, .bool b0q.n, .slice b0q.p b0q.l b0q.c, .bool b0q.m, .slice b0q.p2 b0q.l2 b0q.c2, .bool c0q.n, .slice c0q.p c0q.l c0q.c, .bool c0q.m, .slice c0q.p2 c0q.l2 c0q.c2] 41)) w4 from hx)
      clear hx
      refine ⟨_, rfl, (E2.out.trans (E3.out.trans E4.out)), ?_⟩
      (try simp only [Act.put, sIT, sC0, sCS])
      refine md_val (i := 20) (v := ?vm50) (listed' := #[true, true, true, true, true, true, true, true, true, true, true, true, true, true, true, true, true, true, true, true, true, false, false, false, false, false, false, false, false, false, false, false, false, false, false, false, false, false, false, false, false, false, false, false, false, false, false, false]) (by rfl) (by kernel_rfl) (by kernel_rfl) (by kernel_rfl) (by intro _ _ _ h; exact h) (by rfl) ?hm50 (E2.out.trans (E3.out.trans E4.out)) (by kernel_rfl) ?rm50
      case hm50 => (intro w hSw; (try dsimp only at hSw); go_simp <;> with_reducible rfl)
      (try simp only [Act.put, sIT, sC0, sCS])
      refine md_val (i := 21) (v := ?vm51) (listed' := #[true, true, true, true, true, true, true, true, true, true, true, true, true, true, true, true, true, true, true, true, true, true, false, false, false, false, false, false, false, false, false, false, false, false, false, false, false, false, false, false, false, false, false, false, false, false, false, false]) (by rfl) (by kernel_rfl) (by kernel_rfl) (by kernel_rfl) (by intro _ _ _ h; exact h) (by rfl) ?hm51 (E2.out.trans (E3.out.trans E4.out)) (by kernel_rfl) ?rm51
      case hm51 => (intro w hSw; (try dsimp only at hSw); go_simp <;> with_reducible rfl)
      (try simp only [Act.put, sIT, sC0, sCS])
      refine md_val (i := 22) (v := ?vm52) (listed' := #[true, true, true, true, true, true, true, true, true, true, true, true, true, true, true, true, true, true, true, true, true, true, true, false, false, false, false, false, false, false, false, false, false, false, false, false, false, false, false, false, false, false, false, false, false, false, false, false]) (by rfl) (by kernel_rfl) (by kernel_rfl) (by kernel_rfl) (by intro _ _ _ h; exact h) (by rfl) ?hm52 (E2.out.trans (E3.out.trans E4.out)) (by kernel_rfl) ?rm52
      case hm52 => (intro w hSw; (try dsimp only at hSw); go_simp <;> with_reducible rfl)
      (try simp only [Act.put, sIT, sC0, sCS])
      refine md_val (i := 23) (v := ?vm53) (listed' := #[true, true, true, true, true, true, true, true, true, true, true, true, true, true, true, true, true, true, true, true, true, true, true, true, false, false, false, false, false, false, false, false, false, false, false, false, false, false, false, false, false, false, false, false, false, false, false, false]) (by rfl) (by kernel_rfl) (by kernel_rfl) (by kernel_rfl) (by intro _ _ _ h; exact h) (by rfl) ?hm53 (E2.out.trans (E3.out.trans E4.out)) (by kernel_rfl) ?rm53
      case hm53 => (intro w hSw; (try dsimp only at hSw); go_simp <;> with_reducible rfl)
      (try simp only [Act.put, sIT, sC0, sCS])
      refine md_range (i := 24) (listed' := #[true, true, true, true, true, true, true, true, true, true, true, true, true, true, true, true, true, true, true, true, true, true, true, true, true, false, false, false, false, false, false, false, false, false, false, false, false, false, false, false, false, false, false, false, false, false, false, false]) (by rfl) (by kernel_rfl) (by kernel_rfl) (by kernel_rfl) _ _ (by rfl) X14 0 [.bool za0.n, .slice za0.p za0.l za0.c, .bool za0.m, .slice za0.p2 za0.l2 za0.c2] _ (by intro _ _ _ h; exact h) (by rfl) (by rfl) (fun x hx => (((HBca.out.ext E1.out)).ext hx).part 0 4) Try.underlying41 (by rfl) (by kernel_rfl) (E2.out.trans (E3.out.trans E4.out)) (by kernel_rfl) ?_
      (try simp only [Act.put, sIT, sC0, sCS])
      refine md_val (i := 25) (v := ?vm54) (listed' := #[true, true, true, true, true, true, true, true, true, true, true, true, true, true, true, true, true, true, true, true, true, true, true, true, true, true, false, false, false, false, false, false, false, false, false, false, false, false, false, false, false, false, false, false, false, false, false, false]) (by rfl) (by kernel_rfl) (by kernel_rfl) (by kernel_rfl) (by intro _ _ _ h; exact h) (by rfl) ?hm54 (E2.out.trans (E3.out.trans E4.out)) (by kernel_rfl) ?rm54
      case hm54 => (intro w hSw; (try dsimp only at hSw); go_simp <;> with_reducible rfl)
      (try simp only [Act.put, sIT, sC0, sCS])
      refine md_val (i := 26) (v := ?vm55) (listed' := #[true, true, true, true, true, true, true, true, true, true, true, true, true, true, true, true, true, true, true, true, true, true, true, true, true, true, true, false, false, false, false, false, false, false, false, false, false, false, false, false, false, false, false, false, false, false, false, false]) (by rfl) (by kernel_rfl) (by kernel_rfl) (by kernel_rfl) (by intro _ _ _ h; exact h) (by rfl) ?hm55 (E2.out.trans (E3.out.trans E4.out)) (by kernel_rfl) ?rm55
      case hm55 => (intro w hSw; (try dsimp only at hSw); go_simp <;> with_reducible rfl)
      (try simp only [Act.put, sIT, sC0, sCS])
      refine md_range (i := 27) (listed' := #[true, true, true, true, true, true, true, true, true, true, true, true, true, true, true, true, true, true, true, true, true, true, true, true, true, true, true, true, false, false, false, false, false, false, false, false, false, false, false, false, false, false, false, false, false, false, false, false]) (by rfl) (by kernel_rfl) (by kernel_rfl) (by kernel_rfl) _ _ (by rfl) Y14 0 [.bool zb0.n, .slice zb0.p zb0.l zb0.c, .bool zb0.m, .slice zb0.p2 zb0.l2 zb0.c2] _ (by intro _ _ _ h; exact h) (by rfl) (by rfl) (fun x hx => (((HBcb.out.ext E1.out)).ext hx).part 0 4) Try.underlying41 (by rfl) (by kernel_rfl) (E2.out.trans (E3.out.trans E4.out)) (by kernel_rfl) ?_
      (try simp only [Act.put, sIT, sC0, sCS])
      refine md_val (i := 28) (v := ?vm56) (listed' := #[true, true, true, true, true, true, true, true, true, true, true, true, true, true, true, true, true, true, true, true, true, true, true, true, true, true, true, true, true, false, false, false, false, false, false, false, false, false, false, false, false, false, false, false, false, false, false, false]) (by rfl) (by kernel_rfl) (by kernel_rfl) (by kernel_rfl) (by intro _ _ _ h; exact h) (by rfl) ?hm56 (E2.out.trans (E3.out.trans E4.out)) (by kernel_rfl) ?rm56
      case hm56 => (intro w hSw; (try dsimp only at hSw); go_simp <;> with_reducible rfl)
      (try simp only [Act.put, sIT, sC0, sCS])
      refine md_val (i := 29) (v := ?vm57) (listed' := #[true, true, true, true, true, true, true, true, true, true, true, true, true, true, true, true, true, true, true, true, true, true, true, true, true, true, true, true, true, true, false, false, false, false, false, false, false, false, false, false, false, false, false, false, false, false, false, false]) (by rfl) (by kernel_rfl) (by kernel_rfl) (by kernel_rfl) (by intro _ _ _ h; exact h) (by rfl) ?hm57 (E2.out.trans (E3.out.trans E4.out)) (by kernel_rfl) ?rm57
      case hm57 => (intro w hSw; (try dsimp only at hSw); go_simp <;> with_reducible rfl)
      (try simp only [Act.put, sIT, sC0, sCS])
      refine md_val (i := 30) (v := ?vm58) (listed' := #[true, true, true, true, true, true, true, true, true, true, true, true, true, true, true, true, true, true, true, true, true, true, true, true, true, true, true, true, true, true, true, false, false, false, false, false, false, false, false, false, false, false, false, false, false, false, false, false]) (by rfl) (by kernel_rfl) (by kernel_rfl) (by kernel_rfl) (by intro _ _ _ h; exact h) (by rfl) ?hm58 (E2.out.trans (E3.out.trans E4.out)) (by kernel_rfl) ?rm58
      case hm58 => (intro w hSw; (try dsimp only at hSw); go_simp <;> with_reducible rfl)
      (try simp only [Act.put, sIT, sC0, sCS])
      refine md_range (i := 31) (listed' := #[true, true, true, true, true, true, true, true, true, true, true, true, true, true, true, true, true, true, true, true, true, true, true, true, true, true, true, true, true, true, true, true, false, false, false, false, false, false, false, false, false, false, false, false, false, false, false, false]) (by rfl) (by kernel_rfl) (by kernel_rfl) (by kernel_rfl) _ _ (by rfl) w.heap.size 0 [.bool a0.n, .slice a0.p a0.l a0.c, .bool a0.m, .slice a0.p2 a0.l2 a0.c2] _ (by intro _ _ _ h; exact h) (by rfl) (by rfl) (fun x hx => (((HBP.out.ext E1.out)).ext hx).part 0 4) Try.underlying41 (by rfl) (by kernel_rfl) (E2.out.trans (E3.out.trans E4.out)) (by kernel_rfl) ?_
      (try simp only [Act.put, sIT, sC0, sCS])
      refine md_val (i := 32) (v := ?vm59) (listed' := #[true, true, true, true, true, true, true, true, true, true, true, true, true, true, true, true, true, true, true, true, true, true, true, true, true, true, true, true, true, true, true, true, true, false, false, false, false, false, false, false, false, false, false, false, false, false, false, false]) (by rfl) (by kernel_rfl) (by kernel_rfl) (by kernel_rfl) (by intro _ _ _ h; exact h) (by rfl) ?hm59 (E2.out.trans (E3.out.trans E4.out)) (by kernel_rfl) ?rm59
      case hm59 => (intro w hSw; (try dsimp only at hSw); go_simp <;> with_reducible rfl)
      (try simp only [Act.put, sIT, sC0, sCS])
      refine md_val (i := 33) (v := ?vm60) (listed' := #[true, true, true, true, true, true, true, true, true, true, true, true, true, true, true, true, true, true, true, true, true, true, true, true, true, true, true, true, true, true, true, true, true, true, false, false, false, false, false, false, false, false, false, false, false, false, false, false]) (by rfl) (by kernel_rfl) (by kernel_rfl) (by kernel_rfl) (by intro _ _ _ h; exact h) (by rfl) ?hm60 (E2.out.trans (E3.out.trans E4.out)) (by kernel_rfl) ?rm60
      case hm60 => (intro w hSw; (try dsimp only at hSw); go_simp <;> with_reducible rfl)
      (try simp only [Act.put, sIT, sC0, sCS])
      refine md_val (i := 34) (v := ?vm61) (listed' := #[true, true, true, true, true, true, true, true, true, true, true, true, true, true, true, true, true, true, true, true, true, true, true, true, true, true, true, true, true, true, true, true, true, true, true, false, false, false, false, false, false, false, false, false, false, false, false, false]) (by rfl) (by kernel_rfl) (by kernel_rfl) (by kernel_rfl) (by intro _ _ _ h; exact h) (by rfl) ?hm61 (E2.out.trans (E3.out.trans E4.out)) (by kernel_rfl) ?rm61
      case hm61 => (intro w hSw; (try dsimp only at hSw); go_simp <;> with_reducible rfl)
      (try simp only [Act.put, sIT, sC0, sCS])
      refine md_range (i := 35) (listed' := #[true, true, true, true, true, true, true, true, true, true, true, true, true, true, true, true, true, true, true, true, true, true, true, true, true, true, true, true, true, true, true, true, true, true, true, true, false, false, false, false, false, false, false, false, false, false, false, false]) (by rfl) (by kernel_rfl) (by kernel_rfl) (by kernel_rfl) _ _ (by rfl) w.heap.size 8 [.bool b0.n, .slice b0.p b0.l b0.c, .bool b0.m, .slice b0.p2 b0.l2 b0.c2] _ (by intro _ _ _ h; exact h) (by rfl) (by rfl) (fun x hx => (((HBP.out.ext E1.out)).ext hx).part 8 4) Try.underlying41 (by rfl) (by kernel_rfl) (E2.out.trans (E3.out.trans E4.out)) (by kernel_rfl) ?_
      (try simp only [Act.put, sIT, sC0, sCS])
      refine md_val (i := 36) (v := ?vm62) (listed' := #[true, true, true, true, true, true, true, true, true, true, true, true, true, true, true, true, true, true, true, true, true, true, true, true, true, true, true, true, true, true, true, true, true, true, true, true, true, false, false, false, false, false, false, false, false, false, false, false]) (by rfl) (by kernel_rfl) (by kernel_rfl) (by kernel_rfl) (by intro _ _ _ h; exact h) (by rfl) ?hm62 (E2.out.trans (E3.out.trans E4.out)) (by kernel_rfl) ?rm62
      case hm62 => (intro w hSw; (try dsimp only at hSw); go_simp <;> with_reducible rfl)
      (try simp only [Act.put, sIT, sC0, sCS])
      refine md_val (i := 37) (v := ?vm63) (listed' := #[true, true, true, true, true, true, true, true, true, true, true, true, true, true, true, true, true, true, true, true, true, true, true, true, true, true, true, true, true, true, true, true, true, true, true, true, true, true, false, false, false, false, false, false, false, false, false, false]) (by rfl) (by kernel_rfl) (by kernel_rfl) (by kernel_rfl) (by intro _ _ _ h; exact h) (by rfl) ?hm63 (E2.out.trans (E3.out.trans E4.out)) (by kernel_rfl) ?rm63
      case hm63 => (intro w hSw; (try dsimp only at hSw); go_simp <;> with_reducible rfl)
      (try simp only [Act.put, sIT, sC0, sCS])
      refine md_val (i := 38) (v := ?vm64) (listed' := #[true, true, true, true, true, true, true, true, true, true, true, true, true, true, true, true, true, true, true, true, true, true, true, true, true, true, true, true, true, true, true, true, true, true, true, true, true, true, true, false, false, false, false, false, false, false, false, false]) (by rfl) (by kernel_rfl) (by kernel_rfl) (by kernel_rfl) (by intro _ _ _ h; exact h) (by rfl) ?hm64 (E2.out.trans (E3.out.trans E4.out)) (by kernel_rfl) ?rm64
      case hm64 => (intro w hSw; (try dsimp only at hSw); go_simp <;> with_reducible rfl)
      (try simp only [Act.put, sIT, sC0, sCS])
      refine md_range (i := 39) (listed' := #[true, true, true, true, true, true, true, true, true, true, true, true, true, true, true, true, true, true, true, true, true, true, true, true, true, true, true, true, true, true, true, true, true, true, true, true, true, true, true, true, false, false, false, false, false, false, false, false]) (by rfl) (by kernel_rfl) (by kernel_rfl) (by kernel_rfl) _ _ (by rfl) w.heap.size 16 [.bool c0.n, .slice c0.p c0.l c0.c, .bool c0.m, .slice c0.p2 c0.l2 c0.c2] _ (by intro _ _ _ h; exact h) (by rfl) (by rfl) (fun x hx => (((HBP.out.ext E1.out)).ext hx).part 16 4) Try.underlying41 (by rfl) (by kernel_rfl) (E2.out.trans (E3.out.trans E4.out)) (by kernel_rfl) ?_
      (try simp only [Act.put, sIT, sC0, sCS])
      refine md_val (i := 40) (v := ?vm65) (listed' := #[true, true, true, true, true, true, true, true, true, true, true, true, true, true, true, true, true, true, true, true, true, true, true, true, true, true, true, true, true, true, true, true, true, true, true, true, true, true, true, true, true, false, false, false, false, false, false, false]) (by rfl) (by kernel_rfl) (by kernel_rfl) (by kernel_rfl) (by intro _ _ _ h; exact h) (by rfl) ?hm65 (E2.out.trans (E3.out.trans E4.out)) (by kernel_rfl) ?rm65
      case hm65 => (intro w hSw; (try dsimp only at hSw); go_simp <;> with_reducible rfl)
      (try simp only [Act.put, sIT, sC0, sCS])
      refine md_val (i := 41) (v := ?vm66) (listed' := #[true, true, true, true, true, true, true, true, true, true, true, true, true, true, true, true, true, true, true, true, true, true, true, true, true, true, true, true, true, true, true, true, true, true, true, true, true, true, true, true, true, true, false, false, false, false, false, false]) (by rfl) (by kernel_rfl) (by kernel_rfl) (by kernel_rfl) (by intro _ _ _ h; exact h) (by rfl) ?hm66 (E2.out.trans (E3.out.trans E4.out)) (by kernel_rfl) ?rm66
      case hm66 => (intro w hSw; (try dsimp only at hSw); go_simp <;> with_reducible rfl)
      (try simp only [Act.put, sIT, sC0, sCS])
      refine md_val (i := 42) (v := ?vm67) (listed' := #[true, true, true, true, true, true, true, true, true, true, true, true, true, true, true, true, true, true, true, true, true, true, true, true, true, true, true, true, true, true, true, true, true, true, true, true, true, true, true, true, true, true, true, false, false, false, false, false]) (by rfl) (by kernel_rfl) (by kernel_rfl) (by kernel_rfl) (by intro _ _ _ h; exact h) (by rfl) ?hm67 (E2.out.trans (E3.out.trans E4.out)) (by kernel_rfl) ?rm67
      case hm67 => (intro w hSw; (try dsimp only at hSw); go_simp <;> with_reducible rfl)
      (try simp only [Act.put, sIT, sC0, sCS])
      refine md_range (i := 43) (listed' := #[true, true, true, true, true, true, true, true, true, true, true, true, true, true, true, true, true, true, true, true, true, true, true, true, true, true, true, true, true, true, true, true, true, true, true, true, true, true, true, true, true, true, true, true, false, false, false, false]) (by rfl) (by kernel_rfl) (by kernel_rfl) (by kernel_rfl) _ _ (by rfl) w.heap.size 24 [.bool d0.n, .slice d0.p d0.l d0.c, .bool d0.m, .slice d0.p2 d0.l2 d0.c2] _ (by intro _ _ _ h; exact h) (by rfl) (by rfl) (fun x hx => (((HBP.out.ext E1.out)).ext hx).part 24 4) Try.underlying41 (by rfl) (by kernel_rfl) (E2.out.trans (E3.out.trans E4.out)) (by kernel_rfl) ?_
      (try simp only [Act.put, sIT, sC0, sCS])
      refine md_one (i := 44) (listed' := #[true, true, true, true, true, true, true, true, true, true, true, true, true, true, true, true, true, true, true, true, true, true, true, true, true, true, true, true, true, true, true, true, true, true, true, true, true, true, true, true, true, true, true, true, true, false, false, false]) (v := .slice (some ⟨w4.heap.size, 0, none⟩) 4 4) (w' := (w4.alloc (.cells #[.bool a0.n, .slice a0.p a0.l a0.c, .bool a0.m, .slice a0.p2 a0.l2 a0.c2, .bool b0.n, .slice b0.p b0.l b0.c, .bool b0.m, .slice b0.p2 b0.l2 b0.c2, .bool c0.n, .slice c0.p c0.l c0.c, .bool c0.m, .slice c0.p2 c0.l2 c0.c2, .bool d0.n, .slice d0.p d0.l d0.c, .bool d0.m, .slice d0.p2 d0.l2 d0.c2] 41))) (by rfl) (by kernel_rfl) (by rfl) (by go_simp) ((E2.out.trans (E3.out.trans E4.out)).alloc _) (by kernel_rfl) ?_
      (try simp only [Act.put, sIT, sC0, sCS])
      have E5 := Lib.hid (show Ext w4 (w4.alloc (.cells #[.bool a0.n, .slice a0.p a0.l a0.c, .bool a0.m, .slice a0.p2 a0.l2 a0.c2, .bool b0.n, .slice b0.p b0.l b0.c, .bool b0.m, .slice b0.p2 b0.l2 b0.c2, .bool c0.n, .slice c0.p c0.l c0.c, .bool c0.m, .slice c0.p2 c0.l2 c0.c2, .bool d0.n, .slice d0.p d0.l d0.c, .bool d0.m, .slice d0.p2 d0.l2 d0.c2] 41)) from (Ext.refl _).alloc _)
      have Fnb44 := Lib.hid (Blk.new w4 41 #[.bool a0.n, .slice a0.p a0.l a0.c, .bool a0.m, .slice a0.p2 a0.l2 a0.c2, .bool b0.n, .slice b0.p b0.l b0.c, .bool b0.m, .slice b0.p2 b0.l2 b0.c2, .bool c0.n, .slice c0.p c0.l c0.c, .bool c0.m, .slice c0.p2 c0.l2 c0.c2, .bool d0.n, .slice d0.p d0.l d0.c, .bool d0.m, .slice d0.p2 d0.l2 d0.c2])
      refine md_call (i := 45) (listed' := #[true, true, true, true, true, true, true, true, true, true, true, true, true, true, true, true, true, true, true, true, true, true, true, true, true, true, true, true, true, true, true, true, true, true, true, true, true, true, true, true, true, true, true, true, true, true, false, false]) (by rfl) (by kernel_rfl) (by rfl) (by go_simp) (reached_any 2000 #[.bool za0.n, .slice za0.p za0.l za0.c, .bool za0.m, .slice za0.p2 za0.l2 za0.c2] #[.bool zb0.n, .slice zb0.p zb0.l zb0.c, .bool zb0.m, .slice zb0.p2 zb0.l2 zb0.c2] _ _ _ [A0, B0, C0, D0] _ ⟨za0, rfl, (Jza0.out.ext (E1.out.trans (E2.out.trans (E3.out.trans (E4.out.trans E5.out))))).isIn (by omega)⟩ ⟨zb0, rfl, (Jzb0.out.ext (E1.out.trans (E2.out.trans (E3.out.trans (E4.out.trans E5.out))))).isIn (by omega)⟩ (RatsV.of_blk (rs := [a0, b0, c0, d0]) Fnb44.out rfl (in4 ((Ja0.out.ext (E1.out.trans (E2.out.trans (E3.out.trans (E4.out.trans E5.out))))).mono (by omega)) ((Jb0.out.ext (E1.out.trans (E2.out.trans (E3.out.trans (E4.out.trans E5.out))))).mono (by omega)) ((Jc0.out.ext (E1.out.trans (E2.out.trans (E3.out.trans (E4.out.trans E5.out))))).mono (by omega)) ((Jd0.out.ext (E1.out.trans (E2.out.trans (E3.out.trans (E4.out.trans E5.out))))).mono (by omega)))) (by simp) (cub_reached_lo A0 B0 C0 D0) (cub_reached_hi A0 B0 C0 D0) (by omega)) (by kernel_rfl) ?_
      rintro e w6 ⟨rfl, hx⟩
      have E6 := Lib.hid (show Ext (w4.alloc (.cells #[.bool a0.n, .slice a0.p a0.l a0.c, .bool a0.m, .slice a0.p2 a0.l2 a0.c2, .bool b0.n, .slice b0.p b0.l b0.c, .bool b0.m, .slice b0.p2 b0.l2 b0.c2, .bool c0.n, .slice c0.p c0.l c0.c, .bool c0.m, .slice c0.p2 c0.l2 c0.c2, .bool d0.n, .slice d0.p d0.l d0.c, .bool d0.m, .slice d0.p2 d0.l2 d0.c2] 41)) w6 from hx)
      clear hx
      refine ⟨_, rfl, (E2.out.trans (E3.out.trans (E4.out.trans (E5.out.trans E6.out)))), ?_⟩
      (try simp only [Act.put, sIT, sC0, sCS])
      refine md_val (i := 46) (v := ?vm68) (listed' := #[true, true, true, true, true, true, true, true, true, true, true, true, true, true, true, true, true, true, true, true, true, true, true, true, true, true, true, true, true, true, true, true, true, true, true, true, true, true, true, true, true, true, true, true, true, true, true, false]) (by rfl) (by kernel_rfl) (by kernel_rfl) (by kernel_rfl) (by intro _ _ _ h; exact h) (by rfl) ?hm68 (E2.out.trans (E3.out.trans (E4.out.trans (E5.out.trans E6.out)))) (by kernel_rfl) ?rm68
      case hm68 => (intro w hSw; (try dsimp only at hSw); go_simp <;> with_reducible rfl)
      (try simp only [Act.put, sIT, sC0, sCS])
      refine md_val (i := 47) (v := ?vm69) (listed' := #[true, true, true, true, true, true, true, true, true, true, true, true, true, true, true, true, true, true, true, true, true, true, true, true, true, true, true, true, true, true, true, true, true, true, true, true, true, true, true, true, true, true, true, true, true, true, true, true]) (by rfl) (by kernel_rfl) (by kernel_rfl) (by kernel_rfl) (by intro _ _ _ h; exact h) (by rfl) ?hm69 (E2.out.trans (E3.out.trans (E4.out.trans (E5.out.trans E6.out)))) (by kernel_rfl) ?rm69
      case hm69 => (intro w hSw; (try dsimp only at hSw); go_simp <;> with_reducible rfl)
      (try simp only [Act.put, sIT, sC0, sCS])
      refine wpAnyH_done (by kernel_rfl) ?_ _
      go_wp2_with fail
      go_roundg 1
      case measure => omega
      case rel => exact Or.inr (Or.inl ⟨rfl, by go_num, (E1.out.trans (E2.out.trans (E3.out.trans (E4.out.trans (E5.out.trans E6.out)))))⟩)
    · have hst' := hst
      clear hst
      have E1 := Lib.hid (show Ext w23 wr from hst')
      clear hst'
      go_upto_region 11 with fail
      refine wp_region_held_drew (S := fun x => Ext wr x) (by kernel_rfl) (Ext.refl _).drew (fun _ => ?_)
      have E2 := Lib.hid (show Ext wr wr.drew from (Ext.refl _).drew)
      refine md_val (i := 0) (v := ?vm70) (listed' := #[true, false, false, false, false, false, false, false, false, false, false, false, false, false, false, false, false, false, false, false, false, false, false, false, false, false, false, false, false, false, false, false, false, false, false, false, false, false, false, false, false, false, false, false, false, false, false, false]) (by rfl) (by kernel_rfl) (by kernel_rfl) (by kernel_rfl) (by intro _ _ _ h; exact h) (by rfl) ?hm70 E2.out (by kernel_rfl) ?rm70
      case hm70 => (intro w hSw; (try dsimp only at hSw); go_simp <;> with_reducible rfl)
      (try simp only [Act.put, sIT, sC0, sCS])
      refine md_val (i := 1) (v := ?vm71) (listed' := #[true, true, false, false, false, false, false, false, false, false, false, false, false, false, false, false, false, false, false, false, false, false, false, false, false, false, false, false, false, false, false, false, false, false, false, false, false, false, false, false, false, false, false, false, false, false, false, false]) (by rfl) (by kernel_rfl) (by kernel_rfl) (by kernel_rfl) (by intro _ _ _ h; exact h) (by rfl) ?hm71 E2.out (by kernel_rfl) ?rm71
      case hm71 => (intro w hSw; (try dsimp only at hSw); go_simp <;> with_reducible rfl)
      (try simp only [Act.put, sIT, sC0, sCS])
      refine md_range (i := 2) (listed' := #[true, true, true, false, false, false, false, false, false, false, false, false, false, false, false, false, false, false, false, false, false, false, false, false, false, false, false, false, false, false, false, false, false, false, false, false, false, false, false, false, false, false, false, false, false, false, false, false]) (by rfl) (by kernel_rfl) (by kernel_rfl) (by kernel_rfl) _ _ (by rfl) X12 4 [.bool ya1.n, .slice ya1.p ya1.l ya1.c, .bool ya1.m, .slice ya1.p2 ya1.l2 ya1.c2] _ (by intro _ _ _ h; exact h) (by rfl) (by rfl) (fun x hx => (((HBqa.out.ext E1.out)).ext hx).part 4 4) Try.underlying41 (by rfl) (by kernel_rfl) E2.out (by kernel_rfl) ?_
      (try simp only [Act.put, sIT, sC0, sCS])
      refine md_val (i := 3) (v := ?vm72) (listed' := #[true, true, true, true, false, false, false, false, false, false, false, false, false, false, false, false, false, false, false, false, false, false, false, false, false, false, false, false, false, false, false, false, false, false, false, false, false, false, false, false, false, false, false, false, false, false, false, false]) (by rfl) (by kernel_rfl) (by kernel_rfl) (by kernel_rfl) (by intro _ _ _ h; exact h) (by rfl) ?hm72 E2.out (by kernel_rfl) ?rm72
      case hm72 => (intro w hSw; (try dsimp only at hSw); go_simp <;> with_reducible rfl)
      (try simp only [Act.put, sIT, sC0, sCS])
      refine md_val (i := 4) (v := ?vm73) (listed' := #[true, true, true, true, true, false, false, false, false, false, false, false, false, false, false, false, false, false, false, false, false, false, false, false, false, false, false, false, false, false, false, false, false, false, false, false, false, false, false, false, false, false, false, false, false, false, false, false]) (by rfl) (by kernel_rfl) (by kernel_rfl) (by kernel_rfl) (by intro _ _ _ h; exact h) (by rfl) ?hm73 E2.out (by kernel_rfl) ?rm73
      case hm73 => (intro w hSw; (try dsimp only at hSw); go_simp <;> with_reducible rfl)
      (try simp only [Act.put, sIT, sC0, sCS])
      refine md_range (i := 5) (listed' := #[true, true, true, true, true, true, false, false, false, false, false, false, false, false, false, false, false, false, false, false, false, false, false, false, false, false, false, false, false, false, false, false, false, false, false, false, false, false, false, false, false, false, false, false, false, false, false, false]) (by rfl) (by kernel_rfl) (by kernel_rfl) (by kernel_rfl) _ _ (by rfl) Y12 4 [.bool yb1.n, .slice yb1.p yb1.l yb1.c, .bool yb1.m, .slice yb1.p2 yb1.l2 yb1.c2] _ (by intro _ _ _ h; exact h) (by rfl) (by rfl) (fun x hx => (((HBqb.out.ext E1.out)).ext hx).part 4 4) Try.underlying41 (by rfl) (by kernel_rfl) E2.out (by kernel_rfl) ?_
      (try simp only [Act.put, sIT, sC0, sCS])
      refine md_val (i := 6) (v := ?vm74) (listed' := #[true, true, true, true, true, true, true, false, false, false, false, false, false, false, false, false, false, false, false, false, false, false, false, false, false, false, false, false, false, false, false, false, false, false, false, false, false, false, false, false, false, false, false, false, false, false, false, false]) (by rfl) (by kernel_rfl) (by kernel_rfl) (by kernel_rfl) (by intro _ _ _ h; exact h) (by rfl) ?hm74 E2.out (by kernel_rfl) ?rm74
      case hm74 => (intro w hSw; (try dsimp only at hSw); go_simp <;> with_reducible rfl)
      (try simp only [Act.put, sIT, sC0, sCS])
      refine md_val (i := 7) (v := ?vm75) (listed' := #[true, true, true, true, true, true, true, true, false, false, false, false, false, false, false, false, false, false, false, false, false, false, false, false, false, false, false, false, false, false, false, false, false, false, false, false, false, false, false, false, false, false, false, false, false, false, false, false]) (by rfl) (by kernel_rfl) (by kernel_rfl) (by kernel_rfl) (by intro _ _ _ h; exact h) (by rfl) ?hm75 E2.out (by kernel_rfl) ?rm75
      case hm75 => (intro w hSw; (try dsimp only at hSw); go_simp <;> with_reducible rfl)
      (try simp only [Act.put, sIT, sC0, sCS])
      refine md_val (i := 8) (v := ?vm76) (listed' := #[true, true, true, true, true, true, true, true, true, false, false, false, false, false, false, false, false, false, false, false, false, false, false, false, false, false, false, false, false, false, false, false, false, false, false, false, false, false, false, false, false, false, false, false, false, false, false, false]) (by rfl) (by kernel_rfl) (by kernel_rfl) (by kernel_rfl) (by intro _ _ _ h; exact h) (by rfl) ?hm76 E2.out (by kernel_rfl) ?rm76
      case hm76 => (intro w hSw; (try dsimp only at hSw); go_simp <;> with_reducible rfl)
      (try simp only [Act.put, sIT, sC0, sCS])
      refine md_range (i := 9) (listed' := #[true, true, true, true, true, true, true, true, true, true, false, false, false, false, false, false, false, false, false, false, false, false, false, false, false, false, false, false, false, false, false, false, false, false, false, false, false, false, false, false, false, false, false, false, false, false, false, false]) (by rfl) (by kernel_rfl) (by kernel_rfl) (by kernel_rfl) _ _ (by rfl) X10 4 [.bool a1q.n, .slice a1q.p a1q.l a1q.c, .bool a1q.m, .slice a1q.p2 a1q.l2 a1q.c2] _ (by intro _ _ _ h; exact h) (by rfl) (by rfl) (fun x hx => (((HBQ.out.ext E1.out)).ext hx).part 4 4) Try.underlying41 (by rfl) (by kernel_rfl) E2.out (by kernel_rfl) ?_
      (try simp only [Act.put, sIT, sC0, sCS])
      refine md_val (i := 10) (v := ?vm77) (listed' := #[true, true, true, true, true, true, true, true, true, true, true, false, false, false, false, false, false, false, false, false, false, false, false, false, false, false, false, false, false, false, false, false, false, false, false, false, false, false, false, false, false, false, false, false, false, false, false, false]) (by rfl) (by kernel_rfl) (by kernel_rfl) (by kernel_rfl) (by intro _ _ _ h; exact h) (by rfl) ?hm77 E2.out (by kernel_rfl) ?rm77
      case hm77 => (intro w hSw; (try dsimp only at hSw); go_simp <;> with_reducible rfl)
      (try simp only [Act.put, sIT, sC0, sCS])
      refine md_val (i := 11) (v := ?vm78) (listed' := #[true, true, true, true, true, true, true, true, true, true, true, true, false, false, false, false, false, false, false, false, false, false, false, false, false, false, false, false, false, false, false, false, false, false, false, false, false, false, false, false, false, false, false, false, false, false, false, false]) (by rfl) (by kernel_rfl) (by kernel_rfl) (by kernel_rfl) (by intro _ _ _ h; exact h) (by rfl) ?hm78 E2.out (by kernel_rfl) ?rm78
      case hm78 => (intro w hSw; (try dsimp only at hSw); go_simp <;> with_reducible rfl)
      (try simp only [Act.put, sIT, sC0, sCS])
      refine md_val (i := 12) (v := ?vm79) (listed' := #[true, true, true, true, true, true, true, true, true, true, true, true, true, false, false, false, false, false, false, false, false, false, false, false, false, false, false, false, false, false, false, false, false, false, false, false, false, false, false, false, false, false, false, false, false, false, false, false]) (by rfl) (by kernel_rfl) (by kernel_rfl) (by kernel_rfl) (by intro _ _ _ h; exact h) (by rfl) ?hm79 E2.out (by kernel_rfl) ?rm79
      case hm79 => (intro w hSw; (try dsimp only at hSw); go_simp <;> with_reducible rfl)
      (try simp only [Act.put, sIT, sC0, sCS])
      refine md_range (i := 13) (listed' := #[true, true, true, true, true, true, true, true, true, true, true, true, true, true, false, false, false, false, false, false, false, false, false, false, false, false, false, false, false, false, false, false, false, false, false, false, false, false, false, false, false, false, false, false, false, false, false, false]) (by rfl) (by kernel_rfl) (by kernel_rfl) (by kernel_rfl) _ _ (by rfl) X10 12 [.bool b1q.n, .slice b1q.p b1q.l b1q.c, .bool b1q.m, .slice b1q.p2 b1q.l2 b1q.c2] _ (by intro _ _ _ h; exact h) (by rfl) (by rfl) (fun x hx => (((HBQ.out.ext E1.out)).ext hx).part 12 4) Try.underlying41 (by rfl) (by kernel_rfl) E2.out (by kernel_rfl) ?_
      (try simp only [Act.put, sIT, sC0, sCS])
      refine md_val (i := 14) (v := ?vm80) (listed' := #[true, true, true, true, true, true, true, true, true, true, true, true, true, true, true, false, false, false, false, false, false, false, false, false, false, false, false, false, false, false, false, false, false, false, false, false, false, false, false, false, false, false, false, false, false, false, false, false]) (by rfl) (by kernel_rfl) (by kernel_rfl) (by kernel_rfl) (by intro _ _ _ h; exact h) (by rfl) ?hm80 E2.out (by kernel_rfl) ?rm80
      case hm80 => (intro w hSw; (try dsimp only at hSw); go_simp <;> with_reducible rfl)
      (try simp only [Act.put, sIT, sC0, sCS])
      refine md_val (i := 15) (v := ?vm81) (listed' := #[true, true, true, true, true, true, true, true, true, true, true, true, true, true, true, true, false, false, false, false, false, false, false, false, false, false, false, false, false, false, false, false, false, false, false, false, false, false, false, false, false, false, false, false, false, false, false, false]) (by rfl) (by kernel_rfl) (by kernel_rfl) (by kernel_rfl) (by intro _ _ _ h; exact h) (by rfl) ?hm81 E2.out (by kernel_rfl) ?rm81
      case hm81 => (intro w hSw; (try dsimp only at hSw); go_simp <;> with_reducible rfl)
      (try simp only [Act.put, sIT, sC0, sCS])
      refine md_val (i := 16) (v := ?vm82) (listed' := #[true, true, true, true, true, true, true, true, true, true, true, true, true, true, true, true, true, false, false, false, false, false, false, false, false, false, false, false, false, false, false, false, false, false, false, false, false, false, false, false, false, false, false, false, false, false, false, false]) (by rfl) (by kernel_rfl) (by kernel_rfl) (by kernel_rfl) (by intro _ _ _ h; exact h) (by rfl) ?hm82 E2.out (by kernel_rfl) ?rm82
      case hm82 => (intro w hSw; (try dsimp only at hSw); go_simp <;> with_reducible rfl)
      (try simp only [Act.put, sIT, sC0, sCS])
      refine md_range (i := 17) (listed' := #[true, true, true, true, true, true, true, true, true, true, true, true, true, true, true, true, true, true, false, false, false, false, false, false, false, false, false, false, false, false, false, false, false, false, false, false, false, false, false, false, false, false, false, false, false, false, false, false]) (by rfl) (by kernel_rfl) (by kernel_rfl) (by kernel_rfl) _ _ (by rfl) X10 20 [.bool c1q.n, .slice c1q.p c1q.l c1q.c, .bool c1q.m, .slice c1q.p2 c1q.l2 c1q.c2] _ (by intro _ _ _ h; exact h) (by rfl) (by rfl) (fun x hx => (((HBQ.out.ext E1.out)).ext hx).part 20 4) Try.underlying41 (by rfl) (by kernel_rfl) E2.out (by kernel_rfl) ?_
      (try simp only [Act.put, sIT, sC0, sCS])
      refine md_one (i := 18) (listed' := #[true, true, true, true, true, true, true, true, true, true, true, true, true, true, true, true, true, true, true, false, false, false, false, false, false, false, false, false, false, false, false, false, false, false, false, false, false, false, false, false, false, false, false, false, false, false, false, false]) (v := .slice (some ⟨wr.drew.heap.size, 0, none⟩) 3 3) (w' := (wr.drew.alloc (.cells #[.bool a1q.n, .slice a1q.p a1q.l a1q.c, .bool a1q.m, .slice a1q.p2 a1q.l2 a1q.c2, .bool b1q.n, .slice b1q.p b1q.l b1q.c, .bool b1q.m, .slice b1q.p2 b1q.l2 b1q.c2, .bool c1q.n, .slice c1q.p c1q.l c1q.c, .bool c1q.m, .slice c1q.p2 c1q.l2 c1q.c2] 41))) (by rfl) (by kernel_rfl) (by rfl) (by go_simp) (E2.out.alloc _) (by kernel_rfl) ?_
      (try simp only [Act.put, sIT, sC0, sCS])
      have E3 := Lib.hid (show Ext wr.drew (wr.drew.alloc (.cells #[.bool a1q.n, .slice a1q.p a1q.l a1q.c, .bool a1q.m, .slice a1q.p2 a1q.l2 a1q.c2, .bool b1q.n, .slice b1q.p b1q.l b1q.c, .bool b1q.m, .slice b1q.p2 b1q.l2 b1q.c2, .bool c1q.n, .slice c1q.p c1q.l c1q.c, .bool c1q.m, .slice c1q.p2 c1q.l2 c1q.c2] 41)) from (Ext.refl _).alloc _)
      have Fnb18 := Lib.hid (Blk.new wr.drew 41 #[.bool a1q.n, .slice a1q.p a1q.l a1q.c, .bool a1q.m, .slice a1q.p2 a1q.l2 a1q.c2, .bool b1q.n, .slice b1q.p b1q.l b1q.c, .bool b1q.m, .slice b1q.p2 b1q.l2 b1q.c2, .bool c1q.n, .slice c1q.p c1q.l c1q.c, .bool c1q.m, .slice c1q.p2 c1q.l2 c1q.c2])
      refine md_call (i := 19) (listed' := #[true, true, true, true, true, true, true, true, true, true, true, true, true, true, true, true, true, true, true, true, false, false, false, false, false, false, false, false, false, false, false, false, false, false, false, false, false, false, false, false, false, false, false, false, false, false, false, false]) (by rfl) (by kernel_rfl) (by rfl) (by go_simp) (reached_any 2000 #[.bool ya1.n, .slice ya1.p ya1.l ya1.c, .bool ya1.m, .slice ya1.p2 ya1.l2 ya1.c2] #[.bool yb1.n, .slice yb1.p yb1.l yb1.c, .bool yb1.m, .slice yb1.p2 yb1.l2 yb1.c2] _ _ _ [A1, B1, C1] _ ⟨ya1, rfl, (Jya1.out.ext (E1.out.trans (E2.out.trans E3.out))).isIn (by omega)⟩ ⟨yb1, rfl, (Jyb1.out.ext (E1.out.trans (E2.out.trans E3.out))).isIn (by omega)⟩ (RatsV.of_blk (rs := [a1q, b1q, c1q]) Fnb18.out rfl (in3 ((Ja1q.out.ext (E1.out.trans (E2.out.trans E3.out))).mono (by omega)) ((Jb1q.out.ext (E1.out.trans (E2.out.trans E3.out))).mono (by omega)) ((Jc1q.out.ext (E1.out.trans (E2.out.trans E3.out))).mono (by omega)))) (by simp) (quad_reached_lo A1 B1 C1) (quad_reached_hi A1 B1 C1) (by omega)) (by kernel_rfl) ?_
      rintro e w4 ⟨rfl, hx⟩
      have E4 := Lib.hid (show Ext (wr.drew.alloc (.cells #[.bool a1q.n, .slice a1q.p a1q.l a1q.c, .bool a1q.m, .slice a1q.p2 a1q.l2 a1q.c2, .bool b1q.n, .slice b1q.p b1q.l b1q.c, .bool b1q.m, .slice b1q.p2 b1q.l2 b1q.c2, .bool c1q.n, .slice c1q.p c1q.l c1q.c, .bool c1q.m, .slice c1q.p2 c1q.l2 c1q.c2] 41)) w4 from hx)
      clear hx
      refine ⟨_, rfl, (E2.out.trans (E3.out.trans E4.out)), ?_⟩
      (try simp only [Act.put, sIT, sC0, sCS])
      refine md_val (i := 20) (v := ?vm83) (listed' := #[true, true, true, true, true, true, true, true, true, true, true, true, true, true, true, true, true, true, true, true, true, false, false, false, false, false, false, false, false, false, false, false, false, false, false, false, false, false, false, false, false, false, false, false, false, false, false, false]) (by rfl) (by kernel_rfl) (by kernel_rfl) (by kernel_rfl) (by intro _ _ _ h; exact h) (by rfl) ?hm83 (E2.out.trans (E3.out.trans E4.out)) (by kernel_rfl) ?rm83
      case hm83 => (intro w hSw; (try dsimp only at hSw); go_simp <;> with_reducible rfl)
      (try simp only [Act.put, sIT, sC0, sCS])
      refine md_val (i := 21) (v := ?vm84) (listed' := #[true, true, true, true, true, true, true, true, true, true, true, true, true, true, true, true, true, true, true, true, true, true, false, false, false, false, false, false, false, false, false, false, false, false, false, false, false, false, false, false, false, false, false, false, false, false, false, false]) (by rfl) (by kernel_rfl) (by kernel_rfl) (by kernel_rfl) (by intro _ _ _ h; exact h) (by rfl) ?hm84 (E2.out.trans (E3.out.trans E4.out)) (by kernel_rfl) ?rm84
      case hm84 => (intro w hSw; (try dsimp only at hSw); go_simp <;> with_reducible rfl)
      (try simp only [Act.put, sIT, sC0, sCS])
      refine md_val (i := 22) (v := ?vm85) (listed' := #[true, true, true, true, true, true, true, true, true, true, true, true, true, true, true, true, true, true, true, true, true, true, true, false, false, false, false, false, false, false, false, false, false, false, false, false, false, false, false, false, false, false, false, false, false, false, false, false]) (by rfl) (by kernel_rfl) (by kernel_rfl) (by kernel_rfl) (by intro _ _ _ h; exact h) (by rfl) ?hm85 (E2.out.trans (E3.out.trans E4.out)) (by kernel_rfl) ?rm85
      case hm85 => (intro w hSw; (try dsimp only at hSw); go_simp <;> with_reducible rfl)
      (try simp only [Act.put, sIT, sC0, sCS])
      refine md_val (i := 23) (v := ?vm86) (listed' := #[true, true, true, true, true, true, true, true, true, true, true, true, true, true, true, true, true, true, true, true, true, true, true, true, false, false, false, false, false, false, false, false, false, false, false, false, false, false, false, false, false, false, false, false, false, false, false, false]) (by rfl) (by kernel_rfl) (by kernel_rfl) (by kernel_rfl) (by intro _ _ _ h; exact h) (by rfl) ?hm86 (E2.out.trans (E3.out.trans E4.out)) (by kernel_rfl) ?rm86
      case hm86 => (intro w hSw; (try dsimp only at hSw); go_simp <;> with_reducible rfl)
      (try simp only [Act.put, sIT, sC0, sCS])
      refine md_range (i := 24) (listed' := #[true, true, true, true, true, true, true, true, true, true, true, true, true, true, true, true, true, true, true, true, true, true, true, true, true, false, false, false, false, false, false, false, false, false, false, false, false, false, false, false, false, false, false, false, false, false, false, false]) (by rfl) (by kernel_rfl) (by kernel_rfl) (by kernel_rfl) _ _ (by rfl) X14 4 [.bool za1.n, .slice za1.p za1.l za1.c, .bool za1.m, .slice za1.p2 za1.l2 za1.c2] _ (by intro _ _ _ h; exact h) (by rfl) (by rfl) (fun x hx => (((HBca.out.ext E1.out)).ext hx).part 4 4) Try.underlying41 (by rfl) (by kernel_rfl) (E2.out.trans (E3.out.trans E4.out)) (by kernel_rfl) ?_
      (try simp only [Act.put, sIT, sC0, sCS])
      refine md_val (i := 25) (v := ?vm87) (listed' := #[true, true, true, true, true, true, true, true, true, true, true, true, true, true, true, true, true, true, true, true, true, true, true, true, true, true, false, false, false, false, false, false, false, false, false, false, false, false, false, false, false, false, false, false, false, false, false, false]) (by rfl) (by kernel_rfl) (by kernel_rfl) (by kernel_rfl) (by intro _ _ _ h; exact h) (by rfl) ?hm87 (E2.out.trans (E3.out.trans E4.out)) (by kernel_rfl) ?rm87
      case hm87 => (intro w hSw; (try dsimp only at hSw); go_simp <;> with_reducible rfl)
      (try simp only [Act.put, sIT, sC0, sCS])
      refine md_val (i := 26) (v := ?vm88) (listed' := #[true, true, true, true, true, true, true, true, true, true, true, true, true, true, true, true, true, true, true, true, true, true, true, true, true, true, true, false, false, false, false, false, false, false, false, false, false, false, false, false, false, false, false, false, false, false, false, false]) (by rfl) (by kernel_rfl) (by kernel_rfl) (by kernel_rfl) (by intro _ _ _ h; exact h) (by rfl) ?hm88 (E2.out.trans (E3.out.trans E4.out)) (by kernel_rfl) ?rm88
      case hm88 => (intro w hSw; (try dsimp only at hSw); go_simp <;> with_reducible rfl)
      (try simp only [Act.put, sIT, sC0, sCS])
      refine md_range (i := 27) (listed' := #[true, true, true, true, true, true, true, true, true, true, true, true, true, true, true, true, true, true, true, true, true, true, true, true, true, true, true, true, false, false, false, false, false, false, false, false, false, false, false, false, false, false, false, false, false, false, false, false]) (by rfl) (by kernel_rfl) (by kernel_rfl) (by kernel_rfl) _ _ (by rfl) Y14 4 [.bool zb1.n, .slice zb1.p zb1.l zb1.c, .bool zb1.m, .slice zb1.p2 zb1.l2 zb1.c2] _ (by intro _ _ _ h; exact h) (by rfl) (by rfl) (fun x hx => (((HBcb.out.ext E1.out)).ext hx).part 4 4) Try.underlying41 (by rfl) (by kernel_rfl) (E2.out.trans (E3.out.trans E4.out)) (by kernel_rfl) ?_
      (try simp only [Act.put, sIT, sC0, sCS])
      refine md_val (i := 28) (v := ?vm89) (listed' := #[true, true, true, true, true, true, true, true, true, true, true, true, true, true, true, true, true, true, true, true, true, true, true, true, true, true, true, true, true, false, false, false, false, false, false, false, false, false, false, false, false, false, false, false, false, false, false, false]) (by rfl) (by kernel_rfl) (by kernel_rfl) (by kernel_rfl) (by intro _ _ _ h; exact h) (by rfl) ?hm89 (E2.out.trans (E3.out.trans E4.out)) (by kernel_rfl) ?rm89
      case hm89 => (intro w hSw; (try dsimp only at hSw); go_simp <;> with_reducible rfl)
      (try simp only [Act.put, sIT, sC0, sCS])
      refine md_val (i := 29) (v := ?vm90) (listed' := #[true, true, true, true, true, true, true, true, true, true, true, true, true, true, true, true, true, true, true, true, true, true, true, true, true, true, true, true, true, true, false, false, false, false, false, false, false, false, false, false, false, false, false, false, false, false, false, false]) (by rfl) (by kernel_rfl) (by kernel_rfl) (by kernel_rfl) (by intro _ _ _ h; exact h) (by rfl) ?hm90 (E2.out.trans (E3.out.trans E4.out)) (by kernel_rfl) ?rm90
      case hm90 => (intro w hSw; (try dsimp only at hSw); go_simp <;> with_reducible rfl)
      (try simp only [Act.put, sIT, sC0, sCS])
      refine md_val (i := 30) (v := ?vm91) (listed' := #[true, true, true, true, true, true, true, true, true, true, true, true, true, true, true, true, true, true, true, true, true, true, true, true, true, true, true, true, true, true, true, false, false, false, false, false, false, false, false, false, false, false, false, false, false, false, false, false]) (by rfl) (by kernel_rfl) (by kernel_rfl) (by kernel_rfl) (by intro _ _ _ h; exact h) (by rfl) ?hm91 (E2.out.trans (E3.out.trans E4.out)) (by kernel_rfl) ?rm91
      case hm91 => (intro w hSw; (try dsimp only at hSw); go_simp <;> with_reducible rfl)
      (try simp only [Act.put, sIT, sC0, sCS])
      refine md_range (i := 31) (listed' := #[true, true, true, true, true, true, true, true, true, true, true, true, true, true, true, true, true, true, true, true, true, true, true, true, true, true, true, true, true, true, true, true, false, false, false, false, false, false, false, false, false, false, false, false, false, false, false, false]) (by rfl) (by kernel_rfl) (by kernel_rfl) (by kernel_rfl) _ _ (by rfl) w.heap.size 4 [.bool a1.n, .slice a1.p a1.l a1.c, .bool a1.m, .slice a1.p2 a1.l2 a1.c2] _ (by intro _ _ _ h; exact h) (by rfl) (by rfl) (fun x hx => (((HBP.out.ext E1.out)).ext hx).part 4 4) Try.underlying41 (by rfl) (by kernel_rfl) (E2.out.trans (E3.out.trans E4.out)) (by kernel_rfl) ?_
      (try simp only [Act.put, sIT, sC0, sCS])
      refine md_val (i := 32) (v := ?vm92) (listed' := #[true, true, true, true, true, true, true, true, true, true, true, true, true, true, true, true, true, true, true, true, true, true, true, true, true, true, true, true, true, true, true, true, true, false, false, false, false, false, false, false, false, false, false, false, false, false, false, false]) (by rfl) (by kernel_rfl) (by kernel_rfl) (by kernel_rfl) (by intro _ _ _ h; exact h) (by rfl) ?hm92 (E2.out.trans (E3.out.trans E4.out)) (by kernel_rfl) ?rm92
      case hm92 => (intro w hSw; (try dsimp only at hSw); go_simp <;> with_reducible rfl)
      (try simp only [Act.put, sIT, sC0, sCS])
      refine md_val (i := 33) (v := ?vm93) (listed' := #[true, true, true, true, true, true, true, true, true, true, true, true, true, true, true, true, true, true, true, true, true, true, true, true, true, true, true, true, true, true, true, true, true, true, false, false, false, false, false, false, false, false, false, false, false, false, false, false]) (by rfl) (by kernel_rfl) (by kernel_rfl) (by kernel_rfl) (by intro _ _ _ h; exact h) (by rfl) ?hm93 (E2.out.trans (E3.out.trans E4.out)) (by kernel_rfl) ?rm93
      case hm93 => (intro w hSw; (try dsimp only at hSw); go_simp <;> with_reducible rfl)
      (try simp only [Act.put, sIT, sC0, sCS])
      refine md_val (i := 34) (v := ?vm94) (listed' := #[true, true, true, true, true, true, true, true, true, true, true, true, true, true, true, true, true, true, true, true, true, true, true, true, true, true, true, true, true, true, true, true, true, true, true, false, false, false, false, false, false, false, false, false, false, false, false, false]) (by rfl) (by kernel_rfl) (by kernel_rfl) (by kernel_rfl) (by intro _ _ _ h; exact h) (by rfl) ?hm94 (E2.out.trans (E3.out.trans E4.out)) (by kernel_rfl) ?rm94
      case hm94 => (intro w hSw; (try dsimp only at hSw); go_simp <;> with_reducible rfl)
      (try simp only [Act.put, sIT, sC0, sCS])
      refine md_range (i := 35) (listed' := #[true, true, true, true, true, true, true, true, true, true, true, true, true, true, true, true, true, true, true, true, true, true, true, true, true, true, true, true, true, true, true, true, true, true, true, true, false, false, false, false, false, false, false, false, false, false, false, false]) (by rfl) (by kernel_rfl) (by kernel_rfl) (by kernel_rfl) _ _ (by rfl) w.heap.size 12 [.bool b1.n, .slice b1.p b1.l b1.c, .bool b1.m, .slice b1.p2 b1.l2 b1.c2] _ (by intro _ _ _ h; exact h) (by rfl) (by rfl) (fun x hx => (((HBP.out.ext E1.out)).ext hx).part 12 4) Try.underlying41 (by rfl) (by kernel_rfl) (E2.out.trans (E3.out.trans E4.out)) (by kernel_rfl) ?_
      (try simp only [Act.put, sIT, sC0, sCS])
      refine md_val (i := 36) (v := ?vm95) (listed' := #[true, true, true, true, true, true, true, true, true, true, true, true, true, true, true, true, true, true, true, true, true, true, true, true, true, true, true, true, true, true, true, true, true, true, true, true, true, false, false, false, false, false, false, false, false, false, false, false]) (by rfl) (by kernel_rfl) (by kernel_rfl) (by kernel_rfl) (by intro _ _ _ h; exact h) (by rfl) ?hm95 (E2.out.trans (E3.out.trans E4.out)) (by kernel_rfl) ?rm95
      case hm95 => (intro w hSw; (try dsimp only at hSw); go_simp <;> with_reducible rfl)
      (try simp only [Act.put, sIT, sC0, sCS])
      refine md_val (i := 37) (v := ?vm96) (listed' := #[true, true, true, true, true, true, true, true, true, true, true, true, true, true, true, true, true, true, true, true, true, true, true, true, true, true, true, true, true, true, true, true, true, true, true, true, true, true, false, false, false, false, false, false, false, false, false, false]) (by rfl) (by kernel_rfl) (by kernel_rfl) (by kernel_rfl) (by intro _ _ _ h; exact h) (by rfl) ?hm96 (E2.out.trans (E3.out.trans E4.out)) (by kernel_rfl) ?rm96
      case hm96 => (intro w hSw; (try dsimp only at hSw); go_simp <;> with_reducible rfl)
      (try simp only [Act.put, sIT, sC0, sCS])
      refine md_val (i := 38) (v := ?vm97) (listed' := #[true, true, true, true, true, true, true, true, true, true, true, true, true, true, true, true, true, true, true, true, true, true, true, true, true, true, true, true, true, true, true, true, true, true, true, true, true, true, true, false, false, false, false, false, false, false, false, false]) (by rfl) (by kernel_rfl) (by kernel_rfl) (by kernel_rfl) (by intro _ _ _ h; exact h) (by rfl) ?hm97 (E2.out.trans (E3.out.trans E4.out)) (by kernel_rfl) ?rm97
      case hm97 => (intro w hSw; (try dsimp only at hSw); go_simp <;> with_reducible rfl)
      (try simp only [Act.put, sIT, sC0, sCS])
      refine md_range (i := 39) (listed' := #[true, true, true, true, true, true, true, true, true, true, true, true, true, true, true, true, true, true, true, true, true, true, true, true, true, true, true, true, true, true, true, true, true, true, true, true, true, true, true, true, false, false, false, false, false, false, false, false]) (by rfl) (by kernel_rfl) (by kernel_rfl) (by kernel_rfl) _ _ (by rfl) w.heap.size 20 [.bool c1.n, .slice c1.p c1.l c1.c, .bool c1.m, .slice c1.p2 c1.l2 c1.c2] _ (by intro _ _ _ h; exact h) (by rfl) (by rfl) (fun x hx => (((HBP.out.ext E1.out)).ext hx).part 20 4) Try.underlying41 (by rfl) (by kernel_rfl) (E2.out.trans (E3.out.trans E4.out)) (by kernel_rfl) ?_
      (try simp only [Act.put, sIT, sC0, sCS])
      refine md_val (i := 40) (v := ?vm98) (listed' := #[true, true, true, true, true, true, true, true, true, true, true, true, true, true, true, true, true, true, true, true, true, true, true, true, true, true, true, true, true, true, true, true, true, true, true, true, true, true, true, true, true, false, false, false, false, false, false, false]) (by rfl) (by kernel_rfl) (by kernel_rfl) (by kernel_rfl) (by intro _ _ _ h; exact h) (by rfl) ?hm98 (E2.out.trans (E3.out.trans E4.out)) (by kernel_rfl) ?rm98
      case hm98 => (intro w hSw; (try dsimp only at hSw); go_simp <;> with_reducible rfl)
      (try simp only [Act.put, sIT, sC0, sCS])
      refine md_val (i := 41) (v := ?vm99) (listed' := #[true, true, true, true, true, true, true, true, true, true, true, true, true, true, true, true, true, true, true, true, true, true, true, true, true, true, true, true, true, true, true, true, true, true, true, true, true, true, true, true, true, true, false, false, false, false, false, false]) (by rfl) (by kernel_rfl) (by kernel_rfl) (by kernel_rfl) (by intro _ _ _ h; exact h) (by rfl) ?hm99 (E2.out.trans (E3.out.trans E4.out)) (by kernel_rfl) ?rm99
      case hm99 => (intro w hSw; (try dsimp only at hSw); go_simp <;> with_reducible rfl)
      (try simp only [Act.put, sIT, sC0, sCS])
      refine md_val (i := 42) (v := ?vm100) (listed' := #[true, true, true, true, true, true, true, true, true, true, true, true, true, true, true, true, true, true, true, true, true, true, true, true, true, true, true, true, true, true, true, true, true, true, true, true, true, true, true, true, true, true, true, false, false, false, false, false]) (by rfl) (by kernel_rfl) (by kernel_rfl) (by kernel_rfl) (by intro _ _ _ h; exact h) (by rfl) ?hm100 (E2.out.trans (E3.out.trans E4.out)) (by kernel_rfl) ?rm100
      case hm100 => (intro w hSw; (try dsimp only at hSw); go_simp <;> with_reducible rfl)
      (try simp only [Act.put, sIT, sC0, sCS])
      refine md_range (i := 43) (listed' := #[true, true, true, true, true, true, true, true, true, true, true, true, true, true, true, true, true, true, true, true, true, true, true, true, true, true, true, true, true, true, true, true, true, true, true, true, true, true, true, true, true, true, true, true, false, false, false, false]) (by rfl) (by kernel_rfl) (by kernel_rfl) (by kernel_rfl) _ _ (by rfl) w.heap.size 28 [.bool d1.n, .slice d1.p d1.l d1.c, .bool d1.m, .slice d1.p2 d1.l2 d1.c2] _ (by intro _ _ _ h; exact h) (by rfl) (by rfl) (fun x hx => (((HBP.out.ext E1.out)).ext hx).part 28 4) Try.underlying41 (by rfl) (by kernel_rfl) (E2.out.trans (E3.out.trans E4.out)) (by kernel_rfl) ?_
      (try simp only [Act.put, sIT, sC0, sCS])
      refine md_one (i := 44) (listed' := #[true, true, true, true, true, true, true, true, true, true, true, true, true, true, true, true, true, true, true, true, true, true, true, true, true, true, true, true, true, true, true, true, true, true, true, true, true, true, true, true, true, true, true, true, true, false, false, false]) (v := .slice (some ⟨w4.heap.size, 0, none⟩) 4 4) (w' := (w4.alloc (.cells #[.bool a1.n, .slice a1.p a1.l a1.c, .bool a1.m, .slice a1.p2 a1.l2 a1.c2, .bool b1.n, .slice b1.p b1.l b1.c, .bool b1.m, .slice b1.p2 b1.l2 b1.c2, .bool c1.n, .slice c1.p c1.l c1.c, .bool c1.m, .slice c1.p2 c1.l2 c1.c2, .bool d1.n, .slice d1.p d1.l d1.c, .bool d1.m, .slice d1.p2 d1.l2 d1.c2] 41))) (by rfl) (by kernel_rfl) (by rfl) (by go_simp) ((E2.out.trans (E3.out.trans E4.out)).alloc _) (by kernel_rfl) ?_
      (try simp only [Act.put, sIT, sC0, sCS])
      have E5 := Lib.hid (show Ext w4 (w4.alloc (.cells #[.bool a1.n, .slice a1.p a1.l a1.c, .bool a1.m, .slice a1.p2 a1.l2 a1.c2, .bool b1.n, .slice b1.p b1.l b1.c, .bool b1.m, .slice b1.p2 b1.l2 b1.c2, .bool c1.n, .slice c1.p c1.l c1.c, .bool c1.m, .slice c1.p2 c1.l2 c1.c2, .bool d1.n, .slice d1.p d1.l d1.c, .bool d1.m, .slice d1.p2 d1.l2 d1.c2] 41)) from (Ext.refl _).alloc _)
      have Fnb44 := Lib.hid (Blk.new w4 41 #[.bool a1.n, .slice a1.p a1.l a1.c, .bool a1.m, .slice a1.p2 a1.l2 a1.c2, .bool b1.n, .slice b1.p b1.l b1.c, .bool b1.m, .slice b1.p2 b1.l2 b1.c2, .bool c1.n, .slice c1.p c1.l c1.c, .bool c1.m, .slice c1.p2 c1.l2 c1.c2, .bool d1.n, .slice d1.p d1.l d1.c, .bool d1.m, .slice d1.p2 d1.l2 d1.c2])
      refine md_call (i := 45) (listed' := #[true, true, true, true, true, true, true, true, true, true, true, true, true, true, true, true, true, true, true, true, true, true, true, true, true, true, true, true, true, true, true, true, true, true, true, true, true, true, true, true, true, true, true, true, true, true, false, false]) (by rfl) (by kernel_rfl) (by rfl) (by go_simp) (reached_any 2000 #[.bool za1.n, .slice za1.p za1.l za1.c, .bool za1.m, .slice za1.p2 za1.l2 za1.c2] #[.bool zb1.n, .slice zb1.p zb1.l zb1.c, .bool zb1.m, .slice zb1.p2 zb1.l2 zb1.c2] _ _ _ [A1, B1, C1, D1] _ ⟨za1, rfl, (Jza1.out.ext (E1.out.trans (E2.out.trans (E3.out.trans (E4.out.trans E5.out))))).isIn (by omega)⟩ ⟨zb1, rfl, (Jzb1.out.ext (E1.out.trans (E2.out.trans (E3.out.trans (E4.out.trans E5.out))))).isIn (by omega)⟩ (RatsV.of_blk (rs := [a1, b1, c1, d1]) Fnb44.out rfl (in4 ((Ja1.out.ext (E1.out.trans (E2.out.trans (E3.out.trans (E4.out.trans E5.out))))).mono (by omega)) ((Jb1.out.ext (E1.out.trans (E2.out.trans (E3.out.trans (E4.out.trans E5.out))))).mono (by omega)) ((Jc1.out.ext (E1.out.trans (E2.out.trans (E3.out.trans (E4.out.trans E5.out))))).mono (by omega)) ((Jd1.out.ext (E1.out.trans (E2.out.trans (E3.out.trans (E4.out.trans E5.out))))).mono (by omega)))) (by simp) (cub_reached_lo A1 B1 C1 D1) (cub_reached_hi A1 B1 C1 D1) (by omega)) (by kernel_rfl) ?_
      rintro e w6 ⟨rfl, hx⟩
      have E6 := Lib.hid (show Ext (w4.alloc (.cells #[.bool a1.n, .slice a1.p a1.l a1.c, .bool a1.m, .slice a1.p2 a1.l2 a1.c2, .bool b1.n, .slice b1.p b1.l b1.c, .bool b1.m, .slice b1.p2 b1.l2 b1.c2, .bool c1.n, .slice c1.p c1.l c1.c, .bool c1.m, .slice c1.p2 c1.l2 c1.c2, .bool d1.n, .slice d1.p d1.l d1.c, .bool d1.m, .slice d1.p2 d1.l2 d1.c2] 41)) w6 from hx)
      clear hx
      refine ⟨_, rfl, (E2.out.trans (E3.out.trans (E4.out.trans (E5.out.trans E6.out)))), ?_⟩
      (try simp only [Act.put, sIT, sC0, sCS])
      refine md_val (i := 46) (v := ?vm101) (listed' := #[true, true, true, true, true, true, true, true, true, true, true, true, true, true, true, true, true, true, true, true, true, true, true, true, true, true, true, true, true, true, true, true, true, true, true, true, true, true, true, true, true, true, true, true, true, true, true, false]) (by rfl) (by kernel_rfl) (by kernel_rfl) (by kernel_rfl) (by intro _ _ _ h; exact h) (by rfl) ?hm101 (E2.out.trans (E3.out.trans (E4.out.trans (E5.out.trans E6.out)))) (by kernel_rfl) ?rm101
      case hm101 => (intro w hSw; (try dsimp only at hSw); go_simp <;> with_reducible rfl)
      (try simp only [Act.put, sIT, sC0, sCS])
      refine md_val (i := 47) (v := ?vm102) (listed' := #[true, true, true, true, true, true, true, true, true, true, true, true, true, true, true, true, true, true, true, true, true, true, true, true, true, true, true, true, true, true, true, true, true, true, true, true, true, true, true, true, true, true, true, true, true, true, true, true]) (by rfl) (by kernel_rfl) (by kernel_rfl) (by kernel_rfl) (by intro _ _ _ h; exact h) (by rfl) ?hm102 (E2.out.trans (E3.out.trans (E4.out.trans (E5.out.trans E6.out)))) (by kernel_rfl) ?rm102
      case hm102 => (intro w hSw; (try dsimp only at hSw); go_simp <;> with_reducible rfl)
      (try simp only [Act.put, sIT, sC0, sCS])
      refine wpAnyH_done (by kernel_rfl) ?_ _
      go_wp2_with fail
      go_roundg 0
      case measure => omega
      case rel => exact Or.inr (Or.inr ⟨rfl, by go_num, (E1.out.trans (E2.out.trans (E3.out.trans (E4.out.trans (E5.out.trans E6.out)))))⟩)
    · go_upto_region 14 with fail
      refine wp_region_lit ?_
      refine mv_call (by rfl) (by go_simp) (example_any _) ?_
      rintro e w9 ⟨rfl, hx⟩
      refine ⟨_, rfl, ?_⟩
      (try simp only [Act.put, sIT, sC0, sCS])
      go_wp2_with fail
      go_ret
      exact ⟨rfl, (HEX.out.trans hst).trans hx⟩
set_option maxRecDepth 20000 in
set_option maxHeartbeats 8000000 in
theorem walkF0 (csP csT : Array Value) (w : World) (ZP : csP.size = 32) (_ZT : csT.size = 4)
    (hs : ∀ W, Calls Try.prog 10 #[.agg csP] W fun e w' => e = .returned (.bool false) ∧ Ext W w') :
    Calls Try.prog 5 #[.agg csP, .agg csT] w fun e w' => e = .returned (.bool true) ∧ Ext w w' := by
  go_enter Try.func5, Try.ntmps5
  go_upto_region 1 with fail
  have hbx0 : Blk ((w.alloc (.cells csP 43)).alloc (.cells csT 41)) (w.heap.size) 43 csP := Blk.ext (Blk.new_at w _ (by simp) _ _) ((Ext.refl _).alloc _)
  have hbx1 : Blk ((w.alloc (.cells csP 43)).alloc (.cells csT 41)) (w.heap.size + 1) 41 csT := Blk.ext (Blk.new_at (w.alloc (.cells csP 43)) _ (by simp) _ _) (Ext.refl _)
  have hE : Ext w ((w.alloc (.cells csP 43)).alloc (.cells csT 41)) := (((Ext.refl _).alloc _).alloc _)
  generalize ((w.alloc (.cells csP 43)).alloc (.cells csT 41)) = wa at *
  generalize w.heap.size + 1 = bx1 at *
  have E1 := Lib.hid (show Ext w wa from hE)
  have Fbx0 := Lib.hid hbx0
  have Fbx1 := Lib.hid hbx1
  clear hE hbx0 hbx1
  refine wp_region_held_drew (S := fun x => Ext wa x) (by kernel_rfl) (Ext.refl _).drew (fun _ => ?_)
  have E2 := Lib.hid (show Ext wa wa.drew from (Ext.refl _).drew)
  refine md_load (i := 0) (listed' := #[true, false, false, false, false, false, false, false, false, false, false, false, false, false, false, false, false, false, false, false]) (by rfl) (by kernel_rfl) (by kernel_rfl) (by kernel_rfl) _ _ (by rfl) w.heap.size _ csP _ (by intro _ _ _ h; exact h) (by rfl) (by rfl) (fun x hx => (Fbx0.out).ext hx) Try.underlying43 (by rfl) (by rw [show (csP : Array Value).size = 32 from ZP]; kernel_rfl) E2.out (by kernel_rfl) ?_
  (try simp only [Act.put, sIT, sC0, sCS])
  refine md_call (i := 1) (listed' := #[true, true, false, false, false, false, false, false, false, false, false, false, false, false, false, false, false, false, false, false]) (by rfl) (by kernel_rfl) (by rfl) (by go_simp) (hs _) (by kernel_rfl) ?_
  rintro e w3 ⟨rfl, hx⟩
  have E3 := Lib.hid (show Ext wa.drew w3 from hx)
  clear hx
  refine ⟨_, rfl, (E2.out.trans E3.out), ?_⟩
  (try simp only [Act.put, sIT, sC0, sCS])
  refine md_val (i := 2) (v := ?vm103) (listed' := #[true, true, true, false, false, false, false, false, false, false, false, false, false, false, false, false, false, false, false, false]) (by rfl) (by kernel_rfl) (by kernel_rfl) (by kernel_rfl) (by intro _ _ _ h; exact h) (by rfl) ?hm103 (E2.out.trans E3.out) (by kernel_rfl) ?rm103
  case hm103 => (intro w hSw; (try dsimp only at hSw); go_simp <;> with_reducible rfl)
  (try simp only [Act.put, sIT, sC0, sCS])
  refine md_val (i := 3) (v := ?vm104) (listed' := #[true, true, true, true, false, false, false, false, false, false, false, false, false, false, false, false, false, false, false, false]) (by rfl) (by kernel_rfl) (by kernel_rfl) (by kernel_rfl) (by intro _ _ _ h; exact h) (by rfl) ?hm104 (E2.out.trans E3.out) (by kernel_rfl) ?rm104
  case hm104 => (intro w hSw; (try dsimp only at hSw); go_simp <;> with_reducible rfl)
  (try simp only [Act.put, sIT, sC0, sCS])
  refine md_skip (i := 4) (listed' := #[true, true, true, true, true, false, false, false, false, false, false, false, false, false, false, false, false, false, false, false]) (by rfl) (by kernel_rfl) (by kernel_rfl) (by kernel_rfl) (by intro _ _ _ h; exact h) (by rfl) (E2.out.trans E3.out) (by kernel_rfl) ?_
  (try simp only [Act.put, sIT, sC0, sCS])
  refine md_skip (i := 5) (listed' := #[true, true, true, true, true, true, false, false, false, false, false, false, false, false, false, false, false, false, false, false]) (by rfl) (by kernel_rfl) (by kernel_rfl) (by kernel_rfl) (by intro _ _ _ h; exact h) (by rfl) (E2.out.trans E3.out) (by kernel_rfl) ?_
  (try simp only [Act.put, sIT, sC0, sCS])
  refine md_skip (i := 6) (listed' := #[true, true, true, true, true, true, true, false, false, false, false, false, false, false, false, false, false, false, false, false]) (by rfl) (by kernel_rfl) (by kernel_rfl) (by kernel_rfl) (by intro _ _ _ h; exact h) (by rfl) (E2.out.trans E3.out) (by kernel_rfl) ?_
  (try simp only [Act.put, sIT, sC0, sCS])
  refine md_val (i := 7) (v := ?vm105) (listed' := #[true, true, true, true, true, true, true, true, false, false, false, false, false, false, false, false, false, false, false, false]) (by rfl) (by kernel_rfl) (by kernel_rfl) (by kernel_rfl) (by intro _ _ _ h; exact h) (by rfl) ?hm105 (E2.out.trans E3.out) (by kernel_rfl) ?rm105
  case hm105 => (intro w hSw; (try dsimp only at hSw); go_simp <;> with_reducible rfl)
  (try simp only [Act.put, sIT, sC0, sCS])
  refine md_val (i := 8) (v := ?vm106) (listed' := #[true, true, true, true, true, true, true, true, true, false, false, false, false, false, false, false, false, false, false, false]) (by rfl) (by kernel_rfl) (by kernel_rfl) (by kernel_rfl) (by intro _ _ _ h; exact h) (by rfl) ?hm106 (E2.out.trans E3.out) (by kernel_rfl) ?rm106
  case hm106 => (intro w hSw; (try dsimp only at hSw); go_simp <;> with_reducible rfl)
  (try simp only [Act.put, sIT, sC0, sCS])
  refine md_skip (i := 9) (listed' := #[true, true, true, true, true, true, true, true, true, true, false, false, false, false, false, false, false, false, false, false]) (by rfl) (by kernel_rfl) (by kernel_rfl) (by kernel_rfl) (by intro _ _ _ h; exact h) (by rfl) (E2.out.trans E3.out) (by kernel_rfl) ?_
  (try simp only [Act.put, sIT, sC0, sCS])
  refine md_skip (i := 10) (listed' := #[true, true, true, true, true, true, true, true, true, true, true, false, false, false, false, false, false, false, false, false]) (by rfl) (by kernel_rfl) (by kernel_rfl) (by kernel_rfl) (by intro _ _ _ h; exact h) (by rfl) (E2.out.trans E3.out) (by kernel_rfl) ?_
  (try simp only [Act.put, sIT, sC0, sCS])
  refine md_skip (i := 11) (listed' := #[true, true, true, true, true, true, true, true, true, true, true, true, false, false, false, false, false, false, false, false]) (by rfl) (by kernel_rfl) (by kernel_rfl) (by kernel_rfl) (by intro _ _ _ h; exact h) (by rfl) (E2.out.trans E3.out) (by kernel_rfl) ?_
  (try simp only [Act.put, sIT, sC0, sCS])
  refine md_skip (i := 12) (listed' := #[true, true, true, true, true, true, true, true, true, true, true, true, true, false, false, false, false, false, false, false]) (by rfl) (by kernel_rfl) (by kernel_rfl) (by kernel_rfl) (by intro _ _ _ h; exact h) (by rfl) (E2.out.trans E3.out) (by kernel_rfl) ?_
  (try simp only [Act.put, sIT, sC0, sCS])
  refine md_val (i := 13) (v := ?vm107) (listed' := #[true, true, true, true, true, true, true, true, true, true, true, true, true, true, false, false, false, false, false, false]) (by rfl) (by kernel_rfl) (by kernel_rfl) (by kernel_rfl) (by intro _ _ _ h; exact h) (by rfl) ?hm107 (E2.out.trans E3.out) (by kernel_rfl) ?rm107
  case hm107 => (intro w hSw; (try dsimp only at hSw); go_simp <;> with_reducible rfl)
  (try simp only [Act.put, sIT, sC0, sCS])
  refine md_val (i := 14) (v := ?vm108) (listed' := #[true, true, true, true, true, true, true, true, true, true, true, true, true, true, true, false, false, false, false, false]) (by rfl) (by kernel_rfl) (by kernel_rfl) (by kernel_rfl) (by intro _ _ _ h; exact h) (by rfl) ?hm108 (E2.out.trans E3.out) (by kernel_rfl) ?rm108
  case hm108 => (intro w hSw; (try dsimp only at hSw); go_simp <;> with_reducible rfl)
  (try simp only [Act.put, sIT, sC0, sCS])
  refine md_skip (i := 15) (listed' := #[true, true, true, true, true, true, true, true, true, true, true, true, true, true, true, true, false, false, false, false]) (by rfl) (by kernel_rfl) (by kernel_rfl) (by kernel_rfl) (by intro _ _ _ h; exact h) (by rfl) (E2.out.trans E3.out) (by kernel_rfl) ?_
  (try simp only [Act.put, sIT, sC0, sCS])
  refine md_skip (i := 16) (listed' := #[true, true, true, true, true, true, true, true, true, true, true, true, true, true, true, true, true, false, false, false]) (by rfl) (by kernel_rfl) (by kernel_rfl) (by kernel_rfl) (by intro _ _ _ h; exact h) (by rfl) (E2.out.trans E3.out) (by kernel_rfl) ?_
  (try simp only [Act.put, sIT, sC0, sCS])
  refine md_skip (i := 17) (listed' := #[true, true, true, true, true, true, true, true, true, true, true, true, true, true, true, true, true, true, false, false]) (by rfl) (by kernel_rfl) (by kernel_rfl) (by kernel_rfl) (by intro _ _ _ h; exact h) (by rfl) (E2.out.trans E3.out) (by kernel_rfl) ?_
  (try simp only [Act.put, sIT, sC0, sCS])
  refine md_skip (i := 18) (listed' := #[true, true, true, true, true, true, true, true, true, true, true, true, true, true, true, true, true, true, true, false]) (by rfl) (by kernel_rfl) (by kernel_rfl) (by kernel_rfl) (by intro _ _ _ h; exact h) (by rfl) (E2.out.trans E3.out) (by kernel_rfl) ?_
  (try simp only [Act.put, sIT, sC0, sCS])
  refine md_val (i := 19) (v := ?vm109) (listed' := #[true, true, true, true, true, true, true, true, true, true, true, true, true, true, true, true, true, true, true, true]) (by rfl) (by kernel_rfl) (by kernel_rfl) (by kernel_rfl) (by intro _ _ _ h; exact h) (by rfl) ?hm109 (E2.out.trans E3.out) (by kernel_rfl) ?rm109
  case hm109 => (intro w hSw; (try dsimp only at hSw); go_simp <;> with_reducible rfl)
  (try simp only [Act.put, sIT, sC0, sCS])
  refine wpAnyH_done (by kernel_rfl) ?_ _
  go_upto_region 2 with fail
  refine wp_region_lit ?_
  refine mv_call (by rfl) (by go_simp) (example_any _) ?_
  rintro e w4 ⟨rfl, hx⟩
  have E4 := Lib.hid (show Ext w3 w4 from hx)
  clear hx
  refine ⟨_, rfl, ?_⟩
  (try simp only [Act.put, sIT, sC0, sCS])
  refine mv_val (v := ?vm110) (w' := w4) (by rfl) ?hm110 ?rm110
  case hm110 => (go_simp <;> with_reducible rfl)
  (try simp only [Act.put, sIT, sC0, sCS])
  go_wp2_with fail
  go_ret
  exact ⟨rfl, (E1.out.trans (E2.out.trans (E3.out.trans E4.out)))⟩

set_option maxRecDepth 20000 in
set_option maxHeartbeats 8000000 in
theorem walkF1 (csP csT : Array Value) (w : World) (ZP : csP.size = 32) (ZT : csT.size = 4)
    (hs : ∀ W, Calls Try.prog 10 #[.agg csP] W fun e w' => e = .returned (.bool true) ∧ Ext W w') (hs1 : ∀ W, Calls Try.prog 11 #[.agg csT] W fun e w' => e = .returned (.bool false) ∧ Ext W w') :
    Calls Try.prog 5 #[.agg csP, .agg csT] w fun e w' => e = .returned (.bool true) ∧ Ext w w' := by
  go_enter Try.func5, Try.ntmps5
  go_upto_region 1 with fail
  have hbx0 : Blk ((w.alloc (.cells csP 43)).alloc (.cells csT 41)) (w.heap.size) 43 csP := Blk.ext (Blk.new_at w _ (by simp) _ _) ((Ext.refl _).alloc _)
  have hbx1 : Blk ((w.alloc (.cells csP 43)).alloc (.cells csT 41)) (w.heap.size + 1) 41 csT := Blk.ext (Blk.new_at (w.alloc (.cells csP 43)) _ (by simp) _ _) (Ext.refl _)
  have hE : Ext w ((w.alloc (.cells csP 43)).alloc (.cells csT 41)) := (((Ext.refl _).alloc _).alloc _)
  generalize ((w.alloc (.cells csP 43)).alloc (.cells csT 41)) = wa at *
  generalize w.heap.size + 1 = bx1 at *
  have E1 := Lib.hid (show Ext w wa from hE)
  have Fbx0 := Lib.hid hbx0
  have Fbx1 := Lib.hid hbx1
  clear hE hbx0 hbx1
  refine wp_region_held_drew (S := fun x => Ext wa x) (by kernel_rfl) (Ext.refl _).drew (fun _ => ?_)
  have E2 := Lib.hid (show Ext wa wa.drew from (Ext.refl _).drew)
  refine md_load (i := 0) (listed' := #[true, false, false, false, false, false, false, false, false, false, false, false, false, false, false, false, false, false, false, false]) (by rfl) (by kernel_rfl) (by kernel_rfl) (by kernel_rfl) _ _ (by rfl) w.heap.size _ csP _ (by intro _ _ _ h; exact h) (by rfl) (by rfl) (fun x hx => (Fbx0.out).ext hx) Try.underlying43 (by rfl) (by rw [show (csP : Array Value).size = 32 from ZP]; kernel_rfl) E2.out (by kernel_rfl) ?_
  (try simp only [Act.put, sIT, sC0, sCS])
  refine md_call (i := 1) (listed' := #[true, true, false, false, false, false, false, false, false, false, false, false, false, false, false, false, false, false, false, false]) (by rfl) (by kernel_rfl) (by rfl) (by go_simp) (hs _) (by kernel_rfl) ?_
  rintro e w3 ⟨rfl, hx⟩
  have E3 := Lib.hid (show Ext wa.drew w3 from hx)
  clear hx
  refine ⟨_, rfl, (E2.out.trans E3.out), ?_⟩
  (try simp only [Act.put, sIT, sC0, sCS])
  refine md_val (i := 2) (v := ?vm111) (listed' := #[true, true, true, false, false, false, false, false, false, false, false, false, false, false, false, false, false, false, false, false]) (by rfl) (by kernel_rfl) (by kernel_rfl) (by kernel_rfl) (by intro _ _ _ h; exact h) (by rfl) ?hm111 (E2.out.trans E3.out) (by kernel_rfl) ?rm111
  case hm111 => (intro w hSw; (try dsimp only at hSw); go_simp <;> with_reducible rfl)
  (try simp only [Act.put, sIT, sC0, sCS])
  refine md_val (i := 3) (v := ?vm112) (listed' := #[true, true, true, true, false, false, false, false, false, false, false, false, false, false, false, false, false, false, false, false]) (by rfl) (by kernel_rfl) (by kernel_rfl) (by kernel_rfl) (by intro _ _ _ h; exact h) (by rfl) ?hm112 (E2.out.trans E3.out) (by kernel_rfl) ?rm112
  case hm112 => (intro w hSw; (try dsimp only at hSw); go_simp <;> with_reducible rfl)
  (try simp only [Act.put, sIT, sC0, sCS])
  refine md_load (i := 4) (listed' := #[true, true, true, true, true, false, false, false, false, false, false, false, false, false, false, false, false, false, false, false]) (by rfl) (by kernel_rfl) (by kernel_rfl) (by kernel_rfl) _ _ (by rfl) bx1 _ csT _ (by intro _ _ _ h; exact h) (by rfl) (by rfl) (fun x hx => (Fbx1.out).ext hx) Try.underlying41 (by rfl) (by rw [show (csT : Array Value).size = 4 from ZT]; kernel_rfl) (E2.out.trans E3.out) (by kernel_rfl) ?_
  (try simp only [Act.put, sIT, sC0, sCS])
  refine md_call (i := 5) (listed' := #[true, true, true, true, true, true, false, false, false, false, false, false, false, false, false, false, false, false, false, false]) (by rfl) (by kernel_rfl) (by rfl) (by go_simp) (hs1 _) (by kernel_rfl) ?_
  rintro e w4 ⟨rfl, hx⟩
  have E4 := Lib.hid (show Ext w3 w4 from hx)
  clear hx
  refine ⟨_, rfl, (E2.out.trans (E3.out.trans E4.out)), ?_⟩
  (try simp only [Act.put, sIT, sC0, sCS])
  refine md_val (i := 6) (v := ?vm113) (listed' := #[true, true, true, true, true, true, true, false, false, false, false, false, false, false, false, false, false, false, false, false]) (by rfl) (by kernel_rfl) (by kernel_rfl) (by kernel_rfl) (by intro _ _ _ h; exact h) (by rfl) ?hm113 (E2.out.trans (E3.out.trans E4.out)) (by kernel_rfl) ?rm113
  case hm113 => (intro w hSw; (try dsimp only at hSw); go_simp <;> with_reducible rfl)
  (try simp only [Act.put, sIT, sC0, sCS])
  refine md_val (i := 7) (v := ?vm114) (listed' := #[true, true, true, true, true, true, true, true, false, false, false, false, false, false, false, false, false, false, false, false]) (by rfl) (by kernel_rfl) (by kernel_rfl) (by kernel_rfl) (by intro _ _ _ h; exact h) (by rfl) ?hm114 (E2.out.trans (E3.out.trans E4.out)) (by kernel_rfl) ?rm114
  case hm114 => (intro w hSw; (try dsimp only at hSw); go_simp <;> with_reducible rfl)
  (try simp only [Act.put, sIT, sC0, sCS])
  refine md_val (i := 8) (v := ?vm115) (listed' := #[true, true, true, true, true, true, true, true, true, false, false, false, false, false, false, false, false, false, false, false]) (by rfl) (by kernel_rfl) (by kernel_rfl) (by kernel_rfl) (by intro _ _ _ h; exact h) (by rfl) ?hm115 (E2.out.trans (E3.out.trans E4.out)) (by kernel_rfl) ?rm115
  case hm115 => (intro w hSw; (try dsimp only at hSw); go_simp <;> with_reducible rfl)
  (try simp only [Act.put, sIT, sC0, sCS])
  refine md_skip (i := 9) (listed' := #[true, true, true, true, true, true, true, true, true, true, false, false, false, false, false, false, false, false, false, false]) (by rfl) (by kernel_rfl) (by kernel_rfl) (by kernel_rfl) (by intro _ _ _ h; exact h) (by rfl) (E2.out.trans (E3.out.trans E4.out)) (by kernel_rfl) ?_
  (try simp only [Act.put, sIT, sC0, sCS])
  refine md_skip (i := 10) (listed' := #[true, true, true, true, true, true, true, true, true, true, true, false, false, false, false, false, false, false, false, false]) (by rfl) (by kernel_rfl) (by kernel_rfl) (by kernel_rfl) (by intro _ _ _ h; exact h) (by rfl) (E2.out.trans (E3.out.trans E4.out)) (by kernel_rfl) ?_
  (try simp only [Act.put, sIT, sC0, sCS])
  refine md_skip (i := 11) (listed' := #[true, true, true, true, true, true, true, true, true, true, true, true, false, false, false, false, false, false, false, false]) (by rfl) (by kernel_rfl) (by kernel_rfl) (by kernel_rfl) (by intro _ _ _ h; exact h) (by rfl) (E2.out.trans (E3.out.trans E4.out)) (by kernel_rfl) ?_
  (try simp only [Act.put, sIT, sC0, sCS])
  refine md_skip (i := 12) (listed' := #[true, true, true, true, true, true, true, true, true, true, true, true, true, false, false, false, false, false, false, false]) (by rfl) (by kernel_rfl) (by kernel_rfl) (by kernel_rfl) (by intro _ _ _ h; exact h) (by rfl) (E2.out.trans (E3.out.trans E4.out)) (by kernel_rfl) ?_
  (try simp only [Act.put, sIT, sC0, sCS])
  refine md_val (i := 13) (v := ?vm116) (listed' := #[true, true, true, true, true, true, true, true, true, true, true, true, true, true, false, false, false, false, false, false]) (by rfl) (by kernel_rfl) (by kernel_rfl) (by kernel_rfl) (by intro _ _ _ h; exact h) (by rfl) ?hm116 (E2.out.trans (E3.out.trans E4.out)) (by kernel_rfl) ?rm116
  case hm116 => (intro w hSw; (try dsimp only at hSw); go_simp <;> with_reducible rfl)
  (try simp only [Act.put, sIT, sC0, sCS])
  refine md_val (i := 14) (v := ?vm117) (listed' := #[true, true, true, true, true, true, true, true, true, true, true, true, true, true, true, false, false, false, false, false]) (by rfl) (by kernel_rfl) (by kernel_rfl) (by kernel_rfl) (by intro _ _ _ h; exact h) (by rfl) ?hm117 (E2.out.trans (E3.out.trans E4.out)) (by kernel_rfl) ?rm117
  case hm117 => (intro w hSw; (try dsimp only at hSw); go_simp <;> with_reducible rfl)
  (try simp only [Act.put, sIT, sC0, sCS])
  refine md_skip (i := 15) (listed' := #[true, true, true, true, true, true, true, true, true, true, true, true, true, true, true, true, false, false, false, false]) (by rfl) (by kernel_rfl) (by kernel_rfl) (by kernel_rfl) (by intro _ _ _ h; exact h) (by rfl) (E2.out.trans (E3.out.trans E4.out)) (by kernel_rfl) ?_
  (try simp only [Act.put, sIT, sC0, sCS])
  refine md_skip (i := 16) (listed' := #[true, true, true, true, true, true, true, true, true, true, true, true, true, true, true, true, true, false, false, false]) (by rfl) (by kernel_rfl) (by kernel_rfl) (by kernel_rfl) (by intro _ _ _ h; exact h) (by rfl) (E2.out.trans (E3.out.trans E4.out)) (by kernel_rfl) ?_
  (try simp only [Act.put, sIT, sC0, sCS])
  refine md_skip (i := 17) (listed' := #[true, true, true, true, true, true, true, true, true, true, true, true, true, true, true, true, true, true, false, false]) (by rfl) (by kernel_rfl) (by kernel_rfl) (by kernel_rfl) (by intro _ _ _ h; exact h) (by rfl) (E2.out.trans (E3.out.trans E4.out)) (by kernel_rfl) ?_
  (try simp only [Act.put, sIT, sC0, sCS])
  refine md_skip (i := 18) (listed' := #[true, true, true, true, true, true, true, true, true, true, true, true, true, true, true, true, true, true, true, false]) (by rfl) (by kernel_rfl) (by kernel_rfl) (by kernel_rfl) (by intro _ _ _ h; exact h) (by rfl) (E2.out.trans (E3.out.trans E4.out)) (by kernel_rfl) ?_
  (try simp only [Act.put, sIT, sC0, sCS])
  refine md_val (i := 19) (v := ?vm118) (listed' := #[true, true, true, true, true, true, true, true, true, true, true, true, true, true, true, true, true, true, true, true]) (by rfl) (by kernel_rfl) (by kernel_rfl) (by kernel_rfl) (by intro _ _ _ h; exact h) (by rfl) ?hm118 (E2.out.trans (E3.out.trans E4.out)) (by kernel_rfl) ?rm118
  case hm118 => (intro w hSw; (try dsimp only at hSw); go_simp <;> with_reducible rfl)
  (try simp only [Act.put, sIT, sC0, sCS])
  refine wpAnyH_done (by kernel_rfl) ?_ _
  go_upto_region 2 with fail
  refine wp_region_lit ?_
  refine mv_call (by rfl) (by go_simp) (example_any _) ?_
  rintro e w5 ⟨rfl, hx⟩
  have E5 := Lib.hid (show Ext w4 w5 from hx)
  clear hx
  refine ⟨_, rfl, ?_⟩
  (try simp only [Act.put, sIT, sC0, sCS])
  refine mv_val (v := ?vm119) (w' := w5) (by rfl) ?hm119 ?rm119
  case hm119 => (go_simp <;> with_reducible rfl)
  (try simp only [Act.put, sIT, sC0, sCS])
  go_wp2_with fail
  go_ret
  exact ⟨rfl, (E1.out.trans (E2.out.trans (E3.out.trans (E4.out.trans E5.out))))⟩

set_option maxRecDepth 20000 in
set_option maxHeartbeats 8000000 in
theorem walkF2 (csP csT : Array Value) (A0 A1 B0 B1 C0 C1 D0 D1 U : Rat) (w : World) (hP : C4In 6 w csP A0 A1 B0 B1 C0 C1 D0 D1) (hT : NIn 6 w csT U) (s0 s1 : Int) (HS0 : Hid (s0 = rcmp U ((0 : Int) : Rat))) (_HS1 : Hid (s1 = rcmp U ((1 : Int) : Rat))) (hu0 : s0 < 0)
    (hs : ∀ W, Calls Try.prog 10 #[.agg csP] W fun e w' => e = .returned (.bool true) ∧ Ext W w') (hs1 : ∀ W, Calls Try.prog 11 #[.agg csT] W fun e w' => e = .returned (.bool true) ∧ Ext W w') :
    Calls Try.prog 5 #[.agg csP, .agg csT] w fun e w' => e = .returned (.bool true) ∧ Ext w w' := by
  have hrS := hT.rl (by omega)
  have ZP := hP.size
  have ZT := hT.size
  have hrP : Nm.rl A0 ≤ 6 ∧ Nm.rl A1 ≤ 6 ∧ Nm.rl B0 ≤ 6 ∧ Nm.rl B1 ≤ 6 ∧ Nm.rl C0 ≤ 6 ∧ Nm.rl C1 ≤ 6 ∧ Nm.rl D0 ≤ 6 ∧ Nm.rl D1 ≤ 6 := by
    obtain ⟨_, _, _, _, _, _, _, _, _, k0, k1, k2, k3, k4, k5, k6, k7⟩ := hP
    exact ⟨(by have := k0.rl; omega), (by have := k1.rl; omega), (by have := k2.rl; omega), (by have := k3.rl; omega), (by have := k4.rl; omega), (by have := k5.rl; omega), (by have := k6.rl; omega), (by have := k7.rl; omega)⟩
  obtain ⟨ra0, ra1, rb0, rb1, rc0, rc1, rd0, rd1⟩ := hrP
  have FP := Lib.hid hP
  have FT := Lib.hid hT
  clear hP hT
  go_enter Try.func5, Try.ntmps5
  go_upto_region 1 with fail
  have hbx0 : Blk ((w.alloc (.cells csP 43)).alloc (.cells csT 41)) (w.heap.size) 43 csP := Blk.ext (Blk.new_at w _ (by simp) _ _) ((Ext.refl _).alloc _)
  have hbx1 : Blk ((w.alloc (.cells csP 43)).alloc (.cells csT 41)) (w.heap.size + 1) 41 csT := Blk.ext (Blk.new_at (w.alloc (.cells csP 43)) _ (by simp) _ _) (Ext.refl _)
  have hE : Ext w ((w.alloc (.cells csP 43)).alloc (.cells csT 41)) := (((Ext.refl _).alloc _).alloc _)
  generalize ((w.alloc (.cells csP 43)).alloc (.cells csT 41)) = wa at *
  generalize w.heap.size + 1 = bx1 at *
  have E1 := Lib.hid (show Ext w wa from hE)
  have Fbx0 := Lib.hid hbx0
  have Fbx1 := Lib.hid hbx1
  clear hE hbx0 hbx1
  refine wp_region_held_drew (S := fun x => Ext wa x) (by kernel_rfl) (Ext.refl _).drew (fun _ => ?_)
  have E2 := Lib.hid (show Ext wa wa.drew from (Ext.refl _).drew)
  refine md_load (i := 0) (listed' := #[true, false, false, false, false, false, false, false, false, false, false, false, false, false, false, false, false, false, false, false]) (by rfl) (by kernel_rfl) (by kernel_rfl) (by kernel_rfl) _ _ (by rfl) w.heap.size _ csP _ (by intro _ _ _ h; exact h) (by rfl) (by rfl) (fun x hx => (Fbx0.out).ext hx) Try.underlying43 (by rfl) (by rw [show (csP : Array Value).size = 32 from ZP]; kernel_rfl) E2.out (by kernel_rfl) ?_
  (try simp only [Act.put, sIT, sC0, sCS])
  refine md_call (i := 1) (listed' := #[true, true, false, false, false, false, false, false, false, false, false, false, false, false, false, false, false, false, false, false]) (by rfl) (by kernel_rfl) (by rfl) (by go_simp) (hs _) (by kernel_rfl) ?_
  rintro e w3 ⟨rfl, hx⟩
  have E3 := Lib.hid (show Ext wa.drew w3 from hx)
  clear hx
  refine ⟨_, rfl, (E2.out.trans E3.out), ?_⟩
  (try simp only [Act.put, sIT, sC0, sCS])
  refine md_val (i := 2) (v := ?vm120) (listed' := #[true, true, true, false, false, false, false, false, false, false, false, false, false, false, false, false, false, false, false, false]) (by rfl) (by kernel_rfl) (by kernel_rfl) (by kernel_rfl) (by intro _ _ _ h; exact h) (by rfl) ?hm120 (E2.out.trans E3.out) (by kernel_rfl) ?rm120
  case hm120 => (intro w hSw; (try dsimp only at hSw); go_simp <;> with_reducible rfl)
  (try simp only [Act.put, sIT, sC0, sCS])
  refine md_val (i := 3) (v := ?vm121) (listed' := #[true, true, true, true, false, false, false, false, false, false, false, false, false, false, false, false, false, false, false, false]) (by rfl) (by kernel_rfl) (by kernel_rfl) (by kernel_rfl) (by intro _ _ _ h; exact h) (by rfl) ?hm121 (E2.out.trans E3.out) (by kernel_rfl) ?rm121
  case hm121 => (intro w hSw; (try dsimp only at hSw); go_simp <;> with_reducible rfl)
  (try simp only [Act.put, sIT, sC0, sCS])
  refine md_load (i := 4) (listed' := #[true, true, true, true, true, false, false, false, false, false, false, false, false, false, false, false, false, false, false, false]) (by rfl) (by kernel_rfl) (by kernel_rfl) (by kernel_rfl) _ _ (by rfl) bx1 _ csT _ (by intro _ _ _ h; exact h) (by rfl) (by rfl) (fun x hx => (Fbx1.out).ext hx) Try.underlying41 (by rfl) (by rw [show (csT : Array Value).size = 4 from ZT]; kernel_rfl) (E2.out.trans E3.out) (by kernel_rfl) ?_
  (try simp only [Act.put, sIT, sC0, sCS])
  refine md_call (i := 5) (listed' := #[true, true, true, true, true, true, false, false, false, false, false, false, false, false, false, false, false, false, false, false]) (by rfl) (by kernel_rfl) (by rfl) (by go_simp) (hs1 _) (by kernel_rfl) ?_
  rintro e w4 ⟨rfl, hx⟩
  have E4 := Lib.hid (show Ext w3 w4 from hx)
  clear hx
  refine ⟨_, rfl, (E2.out.trans (E3.out.trans E4.out)), ?_⟩
  (try simp only [Act.put, sIT, sC0, sCS])
  refine md_val (i := 6) (v := ?vm122) (listed' := #[true, true, true, true, true, true, true, false, false, false, false, false, false, false, false, false, false, false, false, false]) (by rfl) (by kernel_rfl) (by kernel_rfl) (by kernel_rfl) (by intro _ _ _ h; exact h) (by rfl) ?hm122 (E2.out.trans (E3.out.trans E4.out)) (by kernel_rfl) ?rm122
  case hm122 => (intro w hSw; (try dsimp only at hSw); go_simp <;> with_reducible rfl)
  (try simp only [Act.put, sIT, sC0, sCS])
  refine md_val (i := 7) (v := ?vm123) (listed' := #[true, true, true, true, true, true, true, true, false, false, false, false, false, false, false, false, false, false, false, false]) (by rfl) (by kernel_rfl) (by kernel_rfl) (by kernel_rfl) (by intro _ _ _ h; exact h) (by rfl) ?hm123 (E2.out.trans (E3.out.trans E4.out)) (by kernel_rfl) ?rm123
  case hm123 => (intro w hSw; (try dsimp only at hSw); go_simp <;> with_reducible rfl)
  (try simp only [Act.put, sIT, sC0, sCS])
  refine md_val (i := 8) (v := ?vm124) (listed' := #[true, true, true, true, true, true, true, true, true, false, false, false, false, false, false, false, false, false, false, false]) (by rfl) (by kernel_rfl) (by kernel_rfl) (by kernel_rfl) (by intro _ _ _ h; exact h) (by rfl) ?hm124 (E2.out.trans (E3.out.trans E4.out)) (by kernel_rfl) ?rm124
  case hm124 => (intro w hSw; (try dsimp only at hSw); go_simp <;> with_reducible rfl)
  (try simp only [Act.put, sIT, sC0, sCS])
  refine md_load (i := 9) (listed' := #[true, true, true, true, true, true, true, true, true, true, false, false, false, false, false, false, false, false, false, false]) (by rfl) (by kernel_rfl) (by kernel_rfl) (by kernel_rfl) _ _ (by rfl) bx1 _ csT _ (by intro _ _ _ h; exact h) (by rfl) (by rfl) (fun x hx => (Fbx1.out).ext hx) Try.underlying41 (by rfl) (by rw [show (csT : Array Value).size = 4 from ZT]; kernel_rfl) (E2.out.trans (E3.out.trans E4.out)) (by kernel_rfl) ?_
  (try simp only [Act.put, sIT, sC0, sCS])
  refine md_call (i := 10) (listed' := #[true, true, true, true, true, true, true, true, true, true, true, false, false, false, false, false, false, false, false, false]) (by rfl) (by kernel_rfl) (by rfl) (by go_simp) (r03FromInt 0 _ (by omega) (by omega)) (by kernel_rfl) ?_
  rintro e w5 ⟨n0, rfl, h_n0, hx⟩
  have E5 := Lib.hid (show Ext w4 w5 from hx)
  have Fn0 := Lib.hid h_n0
  have Z_n0 := h_n0.size
  have O_n0 := h_n0.one
  clear h_n0
  clear hx
  refine ⟨_, rfl, (E2.out.trans (E3.out.trans (E4.out.trans E5.out))), ?_⟩
  (try simp only [Act.put, sIT, sC0, sCS])
  refine md_call (i := 11) (listed' := #[true, true, true, true, true, true, true, true, true, true, true, true, false, false, false, false, false, false, false, false]) (by rfl) (by kernel_rfl) (by rfl) (by go_simp) (r03CmpS HS0.out (L := 6) (FT.out.ext (E1.out.trans (E2.out.trans (E3.out.trans (E4.out.trans E5.out))))) (Fn0.out.isIn (Nat.le_trans (rlI 0 (by decide)) (by omega))) (by omega)) (by kernel_rfl) ?_
  rintro e w6 ⟨rfl, hx⟩
  have E6 := Lib.hid (show Ext w5 w6 from hx)
  clear hx
  refine ⟨_, rfl, (E2.out.trans (E3.out.trans (E4.out.trans (E5.out.trans E6.out)))), ?_⟩
  (try simp only [Act.put, sIT, sC0, sCS])
  refine md_val (i := 12) (v := ?vm125) (listed' := #[true, true, true, true, true, true, true, true, true, true, true, true, true, false, false, false, false, false, false, false]) (by rfl) (by kernel_rfl) (by kernel_rfl) (by kernel_rfl) (by intro _ _ _ h; exact h) (by rfl) ?hm125 (E2.out.trans (E3.out.trans (E4.out.trans (E5.out.trans E6.out)))) (by kernel_rfl) ?rm125
  case hm125 => (intro w hSw; (try dsimp only at hSw); go_simp <;> with_reducible rfl)
  (try simp only [Act.put, sIT, sC0, sCS])
  refine md_val (i := 13) (v := ?vm126) (listed' := #[true, true, true, true, true, true, true, true, true, true, true, true, true, true, false, false, false, false, false, false]) (by rfl) (by kernel_rfl) (by kernel_rfl) (by kernel_rfl) (by intro _ _ _ h; exact h) (by rfl) ?hm126 (E2.out.trans (E3.out.trans (E4.out.trans (E5.out.trans E6.out)))) (by kernel_rfl) ?rm126
  case hm126 => (intro w hSw; (try dsimp only at hSw); go_simp <;> with_reducible rfl)
  (try simp only [Act.put, sIT, sC0, sCS])
  refine md_val (i := 14) (v := ?vm127) (listed' := #[true, true, true, true, true, true, true, true, true, true, true, true, true, true, true, false, false, false, false, false]) (by rfl) (by kernel_rfl) (by kernel_rfl) (by kernel_rfl) (by intro _ _ _ h; exact h) (by rfl) ?hm127 (E2.out.trans (E3.out.trans (E4.out.trans (E5.out.trans E6.out)))) (by kernel_rfl) ?rm127
  case hm127 => (intro w hSw; (try dsimp only at hSw); go_simp <;> with_reducible rfl)
  (try simp only [Act.put, sIT, sC0, sCS])
  refine md_skip (i := 15) (listed' := #[true, true, true, true, true, true, true, true, true, true, true, true, true, true, true, true, false, false, false, false]) (by rfl) (by kernel_rfl) (by kernel_rfl) (by kernel_rfl) (by intro _ _ _ h; exact h) (by rfl) (E2.out.trans (E3.out.trans (E4.out.trans (E5.out.trans E6.out)))) (by kernel_rfl) ?_
  (try simp only [Act.put, sIT, sC0, sCS])
  refine md_skip (i := 16) (listed' := #[true, true, true, true, true, true, true, true, true, true, true, true, true, true, true, true, true, false, false, false]) (by rfl) (by kernel_rfl) (by kernel_rfl) (by kernel_rfl) (by intro _ _ _ h; exact h) (by rfl) (E2.out.trans (E3.out.trans (E4.out.trans (E5.out.trans E6.out)))) (by kernel_rfl) ?_
  (try simp only [Act.put, sIT, sC0, sCS])
  refine md_skip (i := 17) (listed' := #[true, true, true, true, true, true, true, true, true, true, true, true, true, true, true, true, true, true, false, false]) (by rfl) (by kernel_rfl) (by kernel_rfl) (by kernel_rfl) (by intro _ _ _ h; exact h) (by rfl) (E2.out.trans (E3.out.trans (E4.out.trans (E5.out.trans E6.out)))) (by kernel_rfl) ?_
  (try simp only [Act.put, sIT, sC0, sCS])
  refine md_skip (i := 18) (listed' := #[true, true, true, true, true, true, true, true, true, true, true, true, true, true, true, true, true, true, true, false]) (by rfl) (by kernel_rfl) (by kernel_rfl) (by kernel_rfl) (by intro _ _ _ h; exact h) (by rfl) (E2.out.trans (E3.out.trans (E4.out.trans (E5.out.trans E6.out)))) (by kernel_rfl) ?_
  (try simp only [Act.put, sIT, sC0, sCS])
  refine md_val (i := 19) (v := ?vm128) (listed' := #[true, true, true, true, true, true, true, true, true, true, true, true, true, true, true, true, true, true, true, true]) (by rfl) (by kernel_rfl) (by kernel_rfl) (by kernel_rfl) (by intro _ _ _ h; exact h) (by rfl) ?hm128 (E2.out.trans (E3.out.trans (E4.out.trans (E5.out.trans E6.out)))) (by kernel_rfl) ?rm128
  case hm128 => (intro w hSw; (try dsimp only at hSw); go_simp <;> with_reducible rfl)
  (try simp only [Act.put, sIT, sC0, sCS])
  refine wpAnyH_done (by kernel_rfl) ?_ _
  go_upto_region 2 with fail
  refine wp_region_lit ?_
  refine mv_call (by rfl) (by go_simp) (example_any _) ?_
  rintro e w7 ⟨rfl, hx⟩
  have E7 := Lib.hid (show Ext w6 w7 from hx)
  clear hx
  refine ⟨_, rfl, ?_⟩
  (try simp only [Act.put, sIT, sC0, sCS])
  refine mv_val (v := ?vm129) (w' := w7) (by rfl) ?hm129 ?rm129
  case hm129 => (go_simp <;> with_reducible rfl)
  (try simp only [Act.put, sIT, sC0, sCS])
  go_wp2_with fail
  go_ret
  exact ⟨rfl, (E1.out.trans (E2.out.trans (E3.out.trans (E4.out.trans (E5.out.trans (E6.out.trans E7.out))))))⟩

set_option maxRecDepth 20000 in
set_option maxHeartbeats 8000000 in
theorem walkF3 (csP csT : Array Value) (A0 A1 B0 B1 C0 C1 D0 D1 U : Rat) (w : World) (hP : C4In 6 w csP A0 A1 B0 B1 C0 C1 D0 D1) (hT : NIn 6 w csT U) (s0 s1 : Int) (HS0 : Hid (s0 = rcmp U ((0 : Int) : Rat))) (HS1 : Hid (s1 = rcmp U ((1 : Int) : Rat))) (hu0 : ¬ s0 < 0) (hu1 : 0 < s1)
    (hs : ∀ W, Calls Try.prog 10 #[.agg csP] W fun e w' => e = .returned (.bool true) ∧ Ext W w') (hs1 : ∀ W, Calls Try.prog 11 #[.agg csT] W fun e w' => e = .returned (.bool true) ∧ Ext W w') :
    Calls Try.prog 5 #[.agg csP, .agg csT] w fun e w' => e = .returned (.bool true) ∧ Ext w w' := by
  have hrS := hT.rl (by omega)
  have ZP := hP.size
  have ZT := hT.size
  have hrP : Nm.rl A0 ≤ 6 ∧ Nm.rl A1 ≤ 6 ∧ Nm.rl B0 ≤ 6 ∧ Nm.rl B1 ≤ 6 ∧ Nm.rl C0 ≤ 6 ∧ Nm.rl C1 ≤ 6 ∧ Nm.rl D0 ≤ 6 ∧ Nm.rl D1 ≤ 6 := by
    obtain ⟨_, _, _, _, _, _, _, _, _, k0, k1, k2, k3, k4, k5, k6, k7⟩ := hP
    exact ⟨(by have := k0.rl; omega), (by have := k1.rl; omega), (by have := k2.rl; omega), (by have := k3.rl; omega), (by have := k4.rl; omega), (by have := k5.rl; omega), (by have := k6.rl; omega), (by have := k7.rl; omega)⟩
  obtain ⟨ra0, ra1, rb0, rb1, rc0, rc1, rd0, rd1⟩ := hrP
  have FP := Lib.hid hP
  have FT := Lib.hid hT
  clear hP hT
  go_enter Try.func5, Try.ntmps5
  go_upto_region 1 with fail
  have hbx0 : Blk ((w.alloc (.cells csP 43)).alloc (.cells csT 41)) (w.heap.size) 43 csP := Blk.ext (Blk.new_at w _ (by simp) _ _) ((Ext.refl _).alloc _)
  have hbx1 : Blk ((w.alloc (.cells csP 43)).alloc (.cells csT 41)) (w.heap.size + 1) 41 csT := Blk.ext (Blk.new_at (w.alloc (.cells csP 43)) _ (by simp) _ _) (Ext.refl _)
  have hE : Ext w ((w.alloc (.cells csP 43)).alloc (.cells csT 41)) := (((Ext.refl _).alloc _).alloc _)
  generalize ((w.alloc (.cells csP 43)).alloc (.cells csT 41)) = wa at *
  generalize w.heap.size + 1 = bx1 at *
  have E1 := Lib.hid (show Ext w wa from hE)
  have Fbx0 := Lib.hid hbx0
  have Fbx1 := Lib.hid hbx1
  clear hE hbx0 hbx1
  refine wp_region_held_drew (S := fun x => Ext wa x) (by kernel_rfl) (Ext.refl _).drew (fun _ => ?_)
  have E2 := Lib.hid (show Ext wa wa.drew from (Ext.refl _).drew)
  refine md_load (i := 0) (listed' := #[true, false, false, false, false, false, false, false, false, false, false, false, false, false, false, false, false, false, false, false]) (by rfl) (by kernel_rfl) (by kernel_rfl) (by kernel_rfl) _ _ (by rfl) w.heap.size _ csP _ (by intro _ _ _ h; exact h) (by rfl) (by rfl) (fun x hx => (Fbx0.out).ext hx) Try.underlying43 (by rfl) (by rw [show (csP : Array Value).size = 32 from ZP]; kernel_rfl) E2.out (by kernel_rfl) ?_
  (try simp only [Act.put, sIT, sC0, sCS])
  refine md_call (i := 1) (listed' := #[true, true, false, false, false, false, false, false, false, false, false, false, false, false, false, false, false, false, false, false]) (by rfl) (by kernel_rfl) (by rfl) (by go_simp) (hs _) (by kernel_rfl) ?_
  rintro e w3 ⟨rfl, hx⟩
  have E3 := Lib.hid (show Ext wa.drew w3 from hx)
  clear hx
  refine ⟨_, rfl, (E2.out.trans E3.out), ?_⟩
  (try simp only [Act.put, sIT, sC0, sCS])
  refine md_val (i := 2) (v := ?vm130) (listed' := #[true, true, true, false, false, false, false, false, false, false, false, false, false, false, false, false, false, false, false, false]) (by rfl) (by kernel_rfl) (by kernel_rfl) (by kernel_rfl) (by intro _ _ _ h; exact h) (by rfl) ?hm130 (E2.out.trans E3.out) (by kernel_rfl) ?rm130
  case hm130 => (intro w hSw; (try dsimp only at hSw); go_simp <;> with_reducible rfl)
  (try simp only [Act.put, sIT, sC0, sCS])
  refine md_val (i := 3) (v := ?vm131) (listed' := #[true, true, true, true, false, false, false, false, false, false, false, false, false, false, false, false, false, false, false, false]) (by rfl) (by kernel_rfl) (by kernel_rfl) (by kernel_rfl) (by intro _ _ _ h; exact h) (by rfl) ?hm131 (E2.out.trans E3.out) (by kernel_rfl) ?rm131
  case hm131 => (intro w hSw; (try dsimp only at hSw); go_simp <;> with_reducible rfl)
  (try simp only [Act.put, sIT, sC0, sCS])
  refine md_load (i := 4) (listed' := #[true, true, true, true, true, false, false, false, false, false, false, false, false, false, false, false, false, false, false, false]) (by rfl) (by kernel_rfl) (by kernel_rfl) (by kernel_rfl) _ _ (by rfl) bx1 _ csT _ (by intro _ _ _ h; exact h) (by rfl) (by rfl) (fun x hx => (Fbx1.out).ext hx) Try.underlying41 (by rfl) (by rw [show (csT : Array Value).size = 4 from ZT]; kernel_rfl) (E2.out.trans E3.out) (by kernel_rfl) ?_
  (try simp only [Act.put, sIT, sC0, sCS])
  refine md_call (i := 5) (listed' := #[true, true, true, true, true, true, false, false, false, false, false, false, false, false, false, false, false, false, false, false]) (by rfl) (by kernel_rfl) (by rfl) (by go_simp) (hs1 _) (by kernel_rfl) ?_
  rintro e w4 ⟨rfl, hx⟩
  have E4 := Lib.hid (show Ext w3 w4 from hx)
  clear hx
  refine ⟨_, rfl, (E2.out.trans (E3.out.trans E4.out)), ?_⟩
  (try simp only [Act.put, sIT, sC0, sCS])
  refine md_val (i := 6) (v := ?vm132) (listed' := #[true, true, true, true, true, true, true, false, false, false, false, false, false, false, false, false, false, false, false, false]) (by rfl) (by kernel_rfl) (by kernel_rfl) (by kernel_rfl) (by intro _ _ _ h; exact h) (by rfl) ?hm132 (E2.out.trans (E3.out.trans E4.out)) (by kernel_rfl) ?rm132
  case hm132 => (intro w hSw; (try dsimp only at hSw); go_simp <;> with_reducible rfl)
  (try simp only [Act.put, sIT, sC0, sCS])
  refine md_val (i := 7) (v := ?vm133) (listed' := #[true, true, true, true, true, true, true, true, false, false, false, false, false, false, false, false, false, false, false, false]) (by rfl) (by kernel_rfl) (by kernel_rfl) (by kernel_rfl) (by intro _ _ _ h; exact h) (by rfl) ?hm133 (E2.out.trans (E3.out.trans E4.out)) (by kernel_rfl) ?rm133
  case hm133 => (intro w hSw; (try dsimp only at hSw); go_simp <;> with_reducible rfl)
  (try simp only [Act.put, sIT, sC0, sCS])
  refine md_val (i := 8) (v := ?vm134) (listed' := #[true, true, true, true, true, true, true, true, true, false, false, false, false, false, false, false, false, false, false, false]) (by rfl) (by kernel_rfl) (by kernel_rfl) (by kernel_rfl) (by intro _ _ _ h; exact h) (by rfl) ?hm134 (E2.out.trans (E3.out.trans E4.out)) (by kernel_rfl) ?rm134
  case hm134 => (intro w hSw; (try dsimp only at hSw); go_simp <;> with_reducible rfl)
  (try simp only [Act.put, sIT, sC0, sCS])
  refine md_load (i := 9) (listed' := #[true, true, true, true, true, true, true, true, true, true, false, false, false, false, false, false, false, false, false, false]) (by rfl) (by kernel_rfl) (by kernel_rfl) (by kernel_rfl) _ _ (by rfl) bx1 _ csT _ (by intro _ _ _ h; exact h) (by rfl) (by rfl) (fun x hx => (Fbx1.out).ext hx) Try.underlying41 (by rfl) (by rw [show (csT : Array Value).size = 4 from ZT]; kernel_rfl) (E2.out.trans (E3.out.trans E4.out)) (by kernel_rfl) ?_
  (try simp only [Act.put, sIT, sC0, sCS])
  refine md_call (i := 10) (listed' := #[true, true, true, true, true, true, true, true, true, true, true, false, false, false, false, false, false, false, false, false]) (by rfl) (by kernel_rfl) (by rfl) (by go_simp) (r03FromInt 0 _ (by omega) (by omega)) (by kernel_rfl) ?_
  rintro e w5 ⟨n0, rfl, h_n0, hx⟩
  have E5 := Lib.hid (show Ext w4 w5 from hx)
  have Fn0 := Lib.hid h_n0
  have Z_n0 := h_n0.size
  have O_n0 := h_n0.one
  clear h_n0
  clear hx
  refine ⟨_, rfl, (E2.out.trans (E3.out.trans (E4.out.trans E5.out))), ?_⟩
  (try simp only [Act.put, sIT, sC0, sCS])
  refine md_call (i := 11) (listed' := #[true, true, true, true, true, true, true, true, true, true, true, true, false, false, false, false, false, false, false, false]) (by rfl) (by kernel_rfl) (by rfl) (by go_simp) (r03CmpS HS0.out (L := 6) (FT.out.ext (E1.out.trans (E2.out.trans (E3.out.trans (E4.out.trans E5.out))))) (Fn0.out.isIn (Nat.le_trans (rlI 0 (by decide)) (by omega))) (by omega)) (by kernel_rfl) ?_
  rintro e w6 ⟨rfl, hx⟩
  have E6 := Lib.hid (show Ext w5 w6 from hx)
  clear hx
  refine ⟨_, rfl, (E2.out.trans (E3.out.trans (E4.out.trans (E5.out.trans E6.out)))), ?_⟩
  (try simp only [Act.put, sIT, sC0, sCS])
  refine md_val (i := 12) (v := ?vm135) (listed' := #[true, true, true, true, true, true, true, true, true, true, true, true, true, false, false, false, false, false, false, false]) (by rfl) (by kernel_rfl) (by kernel_rfl) (by kernel_rfl) (by intro _ _ _ h; exact h) (by rfl) ?hm135 (E2.out.trans (E3.out.trans (E4.out.trans (E5.out.trans E6.out)))) (by kernel_rfl) ?rm135
  case hm135 => (intro w hSw; (try dsimp only at hSw); go_simp <;> with_reducible rfl)
  (try simp only [Act.put, sIT, sC0, sCS])
  refine md_val (i := 13) (v := ?vm136) (listed' := #[true, true, true, true, true, true, true, true, true, true, true, true, true, true, false, false, false, false, false, false]) (by rfl) (by kernel_rfl) (by kernel_rfl) (by kernel_rfl) (by intro _ _ _ h; exact h) (by rfl) ?hm136 (E2.out.trans (E3.out.trans (E4.out.trans (E5.out.trans E6.out)))) (by kernel_rfl) ?rm136
  case hm136 => (intro w hSw; (try dsimp only at hSw); go_simp <;> with_reducible rfl)
  (try simp only [Act.put, sIT, sC0, sCS])
  refine md_val (i := 14) (v := ?vm137) (listed' := #[true, true, true, true, true, true, true, true, true, true, true, true, true, true, true, false, false, false, false, false]) (by rfl) (by kernel_rfl) (by kernel_rfl) (by kernel_rfl) (by intro _ _ _ h; exact h) (by rfl) ?hm137 (E2.out.trans (E3.out.trans (E4.out.trans (E5.out.trans E6.out)))) (by kernel_rfl) ?rm137
  case hm137 => (intro w hSw; (try dsimp only at hSw); go_simp <;> with_reducible rfl)
  (try simp only [Act.put, sIT, sC0, sCS])
  refine md_load (i := 15) (listed' := #[true, true, true, true, true, true, true, true, true, true, true, true, true, true, true, true, false, false, false, false]) (by rfl) (by kernel_rfl) (by kernel_rfl) (by kernel_rfl) _ _ (by rfl) bx1 _ csT _ (by intro _ _ _ h; exact h) (by rfl) (by rfl) (fun x hx => (Fbx1.out).ext hx) Try.underlying41 (by rfl) (by rw [show (csT : Array Value).size = 4 from ZT]; kernel_rfl) (E2.out.trans (E3.out.trans (E4.out.trans (E5.out.trans E6.out)))) (by kernel_rfl) ?_
  (try simp only [Act.put, sIT, sC0, sCS])
  refine md_call (i := 16) (listed' := #[true, true, true, true, true, true, true, true, true, true, true, true, true, true, true, true, true, false, false, false]) (by rfl) (by kernel_rfl) (by rfl) (by go_simp) (r03FromInt 1 _ (by omega) (by omega)) (by kernel_rfl) ?_
  rintro e w7 ⟨n1, rfl, h_n1, hx⟩
  have E7 := Lib.hid (show Ext w6 w7 from hx)
  have Fn1 := Lib.hid h_n1
  have Z_n1 := h_n1.size
  have O_n1 := h_n1.one
  clear h_n1
  clear hx
  refine ⟨_, rfl, (E2.out.trans (E3.out.trans (E4.out.trans (E5.out.trans (E6.out.trans E7.out))))), ?_⟩
  (try simp only [Act.put, sIT, sC0, sCS])
  refine md_call (i := 17) (listed' := #[true, true, true, true, true, true, true, true, true, true, true, true, true, true, true, true, true, true, false, false]) (by rfl) (by kernel_rfl) (by rfl) (by go_simp) (r03CmpS HS1.out (L := 6) (FT.out.ext (E1.out.trans (E2.out.trans (E3.out.trans (E4.out.trans (E5.out.trans (E6.out.trans E7.out))))))) (Fn1.out.isIn (Nat.le_trans (rlI 1 (by decide)) (by omega))) (by omega)) (by kernel_rfl) ?_
  rintro e w8 ⟨rfl, hx⟩
  have E8 := Lib.hid (show Ext w7 w8 from hx)
  clear hx
  refine ⟨_, rfl, (E2.out.trans (E3.out.trans (E4.out.trans (E5.out.trans (E6.out.trans (E7.out.trans E8.out)))))), ?_⟩
  (try simp only [Act.put, sIT, sC0, sCS])
  refine md_val (i := 18) (v := ?vm138) (listed' := #[true, true, true, true, true, true, true, true, true, true, true, true, true, true, true, true, true, true, true, false]) (by rfl) (by kernel_rfl) (by kernel_rfl) (by kernel_rfl) (by intro _ _ _ h; exact h) (by rfl) ?hm138 (E2.out.trans (E3.out.trans (E4.out.trans (E5.out.trans (E6.out.trans (E7.out.trans E8.out)))))) (by kernel_rfl) ?rm138
  case hm138 => (intro w hSw; (try dsimp only at hSw); go_simp <;> with_reducible rfl)
  (try simp only [Act.put, sIT, sC0, sCS])
  refine md_val (i := 19) (v := ?vm139) (listed' := #[true, true, true, true, true, true, true, true, true, true, true, true, true, true, true, true, true, true, true, true]) (by rfl) (by kernel_rfl) (by kernel_rfl) (by kernel_rfl) (by intro _ _ _ h; exact h) (by rfl) ?hm139 (E2.out.trans (E3.out.trans (E4.out.trans (E5.out.trans (E6.out.trans (E7.out.trans E8.out)))))) (by kernel_rfl) ?rm139
  case hm139 => (intro w hSw; (try dsimp only at hSw); go_simp <;> with_reducible rfl)
  (try simp only [Act.put, sIT, sC0, sCS])
  refine wpAnyH_done (by kernel_rfl) ?_ _
  go_upto_region 2 with fail
  refine wp_region_lit ?_
  refine mv_call (by rfl) (by go_simp) (example_any _) ?_
  rintro e w9 ⟨rfl, hx⟩
  have E9 := Lib.hid (show Ext w8 w9 from hx)
  clear hx
  refine ⟨_, rfl, ?_⟩
  (try simp only [Act.put, sIT, sC0, sCS])
  refine mv_val (v := ?vm140) (w' := w9) (by rfl) ?hm140 ?rm140
  case hm140 => (go_simp <;> with_reducible rfl)
  (try simp only [Act.put, sIT, sC0, sCS])
  go_wp2_with fail
  go_ret
  exact ⟨rfl, (E1.out.trans (E2.out.trans (E3.out.trans (E4.out.trans (E5.out.trans (E6.out.trans (E7.out.trans (E8.out.trans E9.out))))))))⟩

theorem walk (a0 a1 b0 b1 c0 c1 d0 d1 t : RV) (w : World) (hr : (a0.Raw w ∧ a1.Raw w) ∧ (b0.Raw w ∧ b1.Raw w) ∧ (c0.Raw w ∧ c1.Raw w) ∧ (d0.Raw w ∧ d1.Raw w)) (ht : t.Raw w) :
    Calls Try.prog 5 #[.agg #[.bool a0.n, .slice a0.p a0.l a0.c, .bool a0.m, .slice a0.p2 a0.l2 a0.c2, .bool a1.n, .slice a1.p a1.l a1.c, .bool a1.m, .slice a1.p2 a1.l2 a1.c2, .bool b0.n, .slice b0.p b0.l b0.c, .bool b0.m, .slice b0.p2 b0.l2 b0.c2, .bool b1.n, .slice b1.p b1.l b1.c, .bool b1.m, .slice b1.p2 b1.l2 b1.c2, .bool c0.n, .slice c0.p c0.l c0.c, .bool c0.m, .slice c0.p2 c0.l2 c0.c2, .bool c1.n, .slice c1.p c1.l c1.c, .bool c1.m, .slice c1.p2 c1.l2 c1.c2, .bool d0.n, .slice d0.p d0.l d0.c, .bool d0.m, .slice d0.p2 d0.l2 d0.c2, .bool d1.n, .slice d1.p d1.l d1.c, .bool d1.m, .slice d1.p2 d1.l2 d1.c2], .agg #[.bool t.n, .slice t.p t.l t.c, .bool t.m, .slice t.p2 t.l2 t.c2]] w fun e w' => e = .returned (.bool true) ∧ Ext w w' := by
  have hs := fun W => shortCurve_any a0 a1 b0 b1 c0 c1 d0 d1 W
  have hs1 := fun W => xshort_any t W
  cases h0 : shortC a0 a1 b0 b1 c0 c1 d0 d1 with
  | false => rw [h0] at hs; exact walkF0 _ _ w rfl rfl hs
  | true =>
    rw [h0] at hs
    cases h1 : t.short with
    | false => rw [h1] at hs1; exact walkF1 _ _ w rfl rfl hs hs1
    | true =>
      rw [h1] at hs1
      have hb := shortC_spec h0
      obtain ⟨⟨r0, r1⟩, ⟨r2, r3⟩, ⟨r4, r5⟩, ⟨r6, r7⟩⟩ := hr
      obtain ⟨q0, k0⟩ := r0.val; obtain ⟨q1, k1⟩ := r1.val; obtain ⟨q2, k2⟩ := r2.val; obtain ⟨q3, k3⟩ := r3.val; obtain ⟨q4, k4⟩ := r4.val; obtain ⟨q5, k5⟩ := r5.val; obtain ⟨q6, k6⟩ := r6.val; obtain ⟨q7, k7⟩ := r7.val
      obtain ⟨qt, kt⟩ := ht.val
      have bt := short_spec h1
      obtain ⟨⟨x0, y0⟩, ⟨x1, y1⟩, ⟨x2, y2⟩, ⟨x3, y3⟩, ⟨x4, y4⟩, ⟨x5, y5⟩, ⟨x6, y6⟩, ⟨x7, y7⟩⟩ := hb
      have HP : C4In 6 w #[.bool a0.n, .slice a0.p a0.l a0.c, .bool a0.m, .slice a0.p2 a0.l2 a0.c2, .bool a1.n, .slice a1.p a1.l a1.c, .bool a1.m, .slice a1.p2 a1.l2 a1.c2, .bool b0.n, .slice b0.p b0.l b0.c, .bool b0.m, .slice b0.p2 b0.l2 b0.c2, .bool b1.n, .slice b1.p b1.l b1.c, .bool b1.m, .slice b1.p2 b1.l2 b1.c2, .bool c0.n, .slice c0.p c0.l c0.c, .bool c0.m, .slice c0.p2 c0.l2 c0.c2, .bool c1.n, .slice c1.p c1.l c1.c, .bool c1.m, .slice c1.p2 c1.l2 c1.c2, .bool d0.n, .slice d0.p d0.l d0.c, .bool d0.m, .slice d0.p2 d0.l2 d0.c2, .bool d1.n, .slice d1.p d1.l d1.c, .bool d1.m, .slice d1.p2 d1.l2 d1.c2] q0 q1 q2 q3 q4 q5 q6 q7 := ⟨a0, a1, b0, b1, c0, c1, d0, d1, rfl, k0 6 x0 y0, k1 6 x1 y1, k2 6 x2 y2, k3 6 x3 y3, k4 6 x4 y4, k5 6 x5 y5, k6 6 x6 y6, k7 6 x7 y7⟩
      have HT : NIn 6 w #[.bool t.n, .slice t.p t.l t.c, .bool t.m, .slice t.p2 t.l2 t.c2] qt := ⟨t, rfl, kt 6 bt.1 bt.2⟩
      by_cases hu0 : rcmp qt ((0 : Int) : Rat) < 0
      · exact walkF2 _ _ q0 q1 q2 q3 q4 q5 q6 q7 qt w HP HT _ _ (Lib.hid rfl) (Lib.hid rfl) hu0 hs hs1
      · by_cases hu1 : 0 < rcmp qt ((1 : Int) : Rat)
        · exact walkF3 _ _ q0 q1 q2 q3 q4 q5 q6 q7 qt w HP HT _ _ (Lib.hid rfl) (Lib.hid rfl) hu0 hu1 hs hs1
        · have g0 : 0 ≤ qt := by
            have := rcmp_ge_iff.1 (show 0 ≤ rcmp qt ((0 : Int) : Rat) by omega)
            exact this
          have g1 : qt ≤ 1 := by
            have := rcmp_le_iff.1 (show rcmp qt ((1 : Int) : Rat) ≤ 0 by omega)
            exact this
          exact walkT _ _ q0 q1 q2 q3 q4 q5 q6 q7 qt w HP HT g0 g1 _ _ (Lib.hid rfl) (Lib.hid rfl) hu0 hu1 hs hs1

set_option maxRecDepth 100000 in
theorem lifted (os : Os) (started : os.Started) (H : Type) (enc : TypeId × Value → H) :
    ReturnsInHanded {} Try.checked os 5 .any (Rows.flattenContainedSpec.pre6 enc Try.prog Try.f5 Rows.flattenContainedRow.domain false) (Rows.flattenContainedSpec.post enc Try.prog Try.f5 false true false false) := by
  refine returnsInHanded_of_change (C := Try.checked) own started (by kernel_rfl) Try.func5
    (ChangeSpec.witness6 (enc := enc) (C := Try.checked) false ⟨#[], #[.agg #[.bool false, .slice none 0 0, .bool false, .slice none 0 0, .bool false, .slice none 0 0, .bool false, .slice none 0 0, .bool false, .slice none 0 0, .bool false, .slice none 0 0, .bool false, .slice none 0 0, .bool false, .slice none 0 0, .bool false, .slice none 0 0, .bool false, .slice none 0 0, .bool false, .slice none 0 0, .bool false, .slice none 0 0, .bool false, .slice none 0 0, .bool false, .slice none 0 0, .bool false, .slice none 0 0, .bool false, .slice none 0 0], .agg #[.bool false, .slice none 0 0, .bool false, .slice none 0 0]], []⟩ 8 (by kernel_rfl) (by kernel_rfl) (by kernel_rfl) (by kernel_rfl)) ?_
  intro W base args ds gs before hval0 hW hcnd _
  have hval : ∀ (j : Nat) t v, Try.f5.params[j]? = some t → args[j]? = some v → Value.okWide Try.prog W .any base t v := hval0
  have hW' := hW
  obtain ⟨p, q, hA0, hV, rfl, hfz, hnd⟩ := hW
  have hA : DataW.TrodAll enc Try.prog W 0 (fun _ => true) true Try.f5.params.toList args.toList ds p := hA0
  rw [Try.params5] at hA hval
  obtain ⟨v0, vs0, d0, ds0, p0, q0, hargs, rfl, rfl, h0, r0⟩ := trodAll_cons hA
  obtain ⟨v1, vs1, d1, ds1, p1, q1, rfl, rfl, rfl, h1, r1⟩ := trodAll_cons r0
  obtain ⟨rfl, rfl, rfl⟩ := trodAll_nil r1
  obtain rfl : args = #[v0, v1] := by cases args; simp_all
  obtain ⟨rfl, rfl⟩ := trodVars_none hV
  have k0 := h0
  have lt0 : ∀ x ∈ p0, x.block < W.heap.size := by obtain ⟨m, hm⟩ := k0; exact DataW.trod_lt m _ _ _ hm
  obtain ⟨⟨l0⟩, rfl, _⟩ := okWide_array Try.underlying43 (hval 0 43 v0 rfl rfl)
  obtain ⟨a0, a1, b0, b1, c0, c1, d0, d1, rfl, g0⟩ : ∃ a0 a1 b0 b1 c0 c1 d0 d1 : RV, l0 = [.bool a0.n, .slice a0.p a0.l a0.c, .bool a0.m, .slice a0.p2 a0.l2 a0.c2, .bool a1.n, .slice a1.p a1.l a1.c, .bool a1.m, .slice a1.p2 a1.l2 a1.c2, .bool b0.n, .slice b0.p b0.l b0.c, .bool b0.m, .slice b0.p2 b0.l2 b0.c2, .bool b1.n, .slice b1.p b1.l b1.c, .bool b1.m, .slice b1.p2 b1.l2 b1.c2, .bool c0.n, .slice c0.p c0.l c0.c, .bool c0.m, .slice c0.p2 c0.l2 c0.c2, .bool c1.n, .slice c1.p c1.l c1.c, .bool c1.m, .slice c1.p2 c1.l2 c1.c2, .bool d0.n, .slice d0.p d0.l d0.c, .bool d0.m, .slice d0.p2 d0.l2 d0.c2, .bool d1.n, .slice d1.p d1.l d1.c, .bool d1.m, .slice d1.p2 d1.l2 d1.c2] ∧ (a0.Raw W ∧ a1.Raw W) ∧ (b0.Raw W ∧ b1.Raw W) ∧ (c0.Raw W ∧ c1.Raw W) ∧ (d0.Raw W ∧ d1.Raw W) := by
    obtain ⟨m, hm⟩ := h0
    exact rp4_open hm
  have k1 := h1
  have lt1 : ∀ x ∈ p1, x.block < W.heap.size := by obtain ⟨m, hm⟩ := k1; exact DataW.trod_lt m _ _ _ hm
  obtain ⟨⟨l1⟩, rfl, _⟩ := okWide_struct Try.underlying41 (hval 1 41 v1 rfl rfl)
  obtain ⟨t, rfl, g1⟩ : ∃ a : RV, l1 = [.bool a.n, .slice a.p a.l a.c, .bool a.m, .slice a.p2 a.l2 a.c2] ∧ a.Raw W := by
    obtain ⟨m, hm⟩ := h1
    exact rat_open hm
  clear hA0 hval0
  refine (walk a0 a1 b0 b1 c0 c1 d0 d1 t W g0 g1).mono fun e W' ⟨he, hx⟩ => ?_
  subst he
  have bel := hx.below
  exact ⟨_, rfl, _, _, _, [], _, [], hW', trodAll_mk1 (shut_bool Try.underlying4 _), (trodAll_cons_mk (Below.trod laidOut (by kernel_rfl) (of_decide_eq_true (by kernel_rfl)) k0 bel lt0) (trodAll_cons_mk (Below.trod laidOut (by kernel_rfl) (of_decide_eq_true (by kernel_rfl)) k1 bel lt1) trodAll_mk0)), rfl, bel.frame _, fun h => by cases h⟩

theorem proved : Rows.FlattenContainedSaid :=
  OpenClaim.holds_of_wide 5 Try.f5 rfl rfl rfl rfl rfl rfl rfl ⟨rfl, rfl, rfl, rfl, rfl⟩ rfl rfl rfl rfl rfl (by kernel_rfl) Try.func5 (by kernel_rfl)
    (of_decide_eq_true (by kernel_rfl)) (by unfold Func.isWrapper; first | (rw [if_pos (by decide +kernel)]; kernel_rfl) | (rw [if_neg (by decide +kernel)]; exact ⟨rfl, rfl⟩))
    (fun os started H enc _ => lifted os started H enc)
#print axioms proved

end Go.Proofs.Ytllpkoinjompcaa.contained
