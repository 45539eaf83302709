/- Contracts that the claim stands on: XRfA to XQVals. -/
import Derived.Test.YtllpkoinjompcaaGreatM6
namespace Go.Proofs.YtllpkoinjompcaaGreat
open Go.RowKit
attribute [local go_sem ↓] Go.wp_at_zero Go.wp_at_succ run_max_ii run_min_ii

theorem noUn : NoU #[.bool false, .slice none 0 0, .bool false, .slice none 0 0] := noU_of _ (by simp)
theorem NIs.own {w w' : World} {cs : Array Value} {q : Rat} (h : NIs w cs q) {g : Nat} {t : TypeId} {zs : Array Value} (hb : Blk w g t zs) (hn : NoU zs) (o : Own g w w') : NIs w' cs q := by
  obtain ⟨a, h1, h2⟩ := h
  exact ⟨a, h1, h2.own hb hn o⟩
theorem r03Norm {L : Nat} {w : World} {cs : Array Value} {q : Rat} (h : NIn L w cs q) (hL : L ≤ 100000) :
    Calls Tryz.prog 61 #[.agg cs] w fun e w' => ∃ c, e = .returned (.agg c) ∧ NIs w' c q ∧ Ext w w' := by
  obtain ⟨a, rfl, h1⟩ := h
  refine (r3norm_any _ _ _ _ L q w h1 (by omega)).mono ?_
  intro e w' h
  obtain ⟨x, rfl, k1, k2⟩ := RetR.v h
  exact ⟨_, rfl, ⟨x, rfl, k1⟩, k2⟩

set_option maxRecDepth 20000 in
set_option maxHeartbeats 8000000 in
theorem rlerp_any (L : Nat) (ca cb ct : Array Value) (A B S : Rat) (w : World) (hA : NIn L w ca A) (hB : NIn L w cb B) (hS : NIn L w ct S) (h1 : 1 ≤ L) (hL : L ≤ 800) :
    Calls Tryz.prog 60 #[.agg ca, .agg cb, .agg ct] w fun e w' => ∃ c, e = .returned (.agg c) ∧ NIs w' c (lerpV A B S) ∧ Ext w w' := by
  have rA := hA.rl h1
  have rB := hB.rl h1
  have rS := hS.rl h1
  have q1 := Nm.rl_sub B A
  have q2 := Nm.rl_mul S (B - A)
  have ZA := hA.size
  have ZB := hB.size
  have ZS := hS.size
  have FA := zH hA
  have FB := zH hB
  have FS := zH hS
  clear hA hB hS
  go_enter Tryz.func60, Tryz.ntmps60
  go_upto_region 1 with fail
  have hbx0 : Blk ((((w.alloc (.cells ca 26)).alloc (.cells cb 26)).alloc (.cells ct 26)).alloc (.cells #[.bool false, .slice none 0 0, .bool false, .slice none 0 0] 26)) (w.heap.size) 26 ca := Blk.ext (Blk.new_at w _ (by simp) _ _) ((((Ext.refl _).alloc _).alloc _).alloc _)
  have hbx1 : Blk ((((w.alloc (.cells ca 26)).alloc (.cells cb 26)).alloc (.cells ct 26)).alloc (.cells #[.bool false, .slice none 0 0, .bool false, .slice none 0 0] 26)) (w.heap.size + 1) 26 cb := Blk.ext (Blk.new_at (w.alloc (.cells ca 26)) _ (by simp) _ _) (((Ext.refl _).alloc _).alloc _)
  have hbx2 : Blk ((((w.alloc (.cells ca 26)).alloc (.cells cb 26)).alloc (.cells ct 26)).alloc (.cells #[.bool false, .slice none 0 0, .bool false, .slice none 0 0] 26)) (w.heap.size + 1 + 1) 26 ct := Blk.ext (Blk.new_at ((w.alloc (.cells ca 26)).alloc (.cells cb 26)) _ (by simp) _ _) ((Ext.refl _).alloc _)
  have hR0 : Blk ((((w.alloc (.cells ca 26)).alloc (.cells cb 26)).alloc (.cells ct 26)).alloc (.cells #[.bool false, .slice none 0 0, .bool false, .slice none 0 0] 26)) (w.heap.size + 1 + 1 + 1) 26 #[.bool false, .slice none 0 0, .bool false, .slice none 0 0] := Blk.ext (Blk.new_at (((w.alloc (.cells ca 26)).alloc (.cells cb 26)).alloc (.cells ct 26)) _ (by simp) _ _) (Ext.refl _)
  have hE : Ext w ((((w.alloc (.cells ca 26)).alloc (.cells cb 26)).alloc (.cells ct 26)).alloc (.cells #[.bool false, .slice none 0 0, .bool false, .slice none 0 0] 26)) := (((((Ext.refl _).alloc _).alloc _).alloc _).alloc _)
  have gR0 : w.heap.size ≤ w.heap.size + 1 + 1 + 1 := by omega
  have nbx0_R0 : w.heap.size ≠ w.heap.size + 1 + 1 + 1 := by omega
  have nbx1_R0 : w.heap.size + 1 ≠ w.heap.size + 1 + 1 + 1 := by omega
  have nbx2_R0 : w.heap.size + 1 + 1 ≠ w.heap.size + 1 + 1 + 1 := by omega
  generalize ((((w.alloc (.cells ca 26)).alloc (.cells cb 26)).alloc (.cells ct 26)).alloc (.cells #[.bool false, .slice none 0 0, .bool false, .slice none 0 0] 26)) = wa at *
  generalize w.heap.size + 1 + 1 + 1 = R0 at *
  generalize w.heap.size + 1 + 1 = bx2 at *
  generalize w.heap.size + 1 = bx1 at *
  have E1 := zH (show Ext w wa from hE)
  have Fbx0 := zH hbx0
  have Fbx1 := zH hbx1
  have Fbx2 := zH hbx2
  have FR0 := zH hR0
  clear hE hbx0 hbx1 hbx2 hR0
  refine wp_region_held_drew (S := fun x => Own R0 wa x) (by kernel_rfl) (Own.of_ext (Ext.refl _).drew) (fun _ => ?_)
  have E2 := zH (show Ext wa wa.drew from (Ext.refl _).drew)
  refine md_load (i := 0) (listed' := #[true, false, false, false, false, false, false, false]) (by rfl) (by kernel_rfl) (by kernel_rfl) (by kernel_rfl) _ _ (by rfl) w.heap.size _ ca _ (by intro _ _ _ h; exact h) (by rfl) (by rfl) (fun x hx => (Fbx0.out).own hx nbx0_R0) Tryz.underlying26 (by rfl) (by rw [show (ca : Array Value).size = 4 from ZA]; kernel_rfl) (Own.of_ext E2.out) (by kernel_rfl) ?_
  (try simp only [Act.put, zA, zB, zC])
  refine md_load (i := 1) (listed' := #[true, true, false, false, false, false, false, false]) (by rfl) (by kernel_rfl) (by kernel_rfl) (by kernel_rfl) _ _ (by rfl) bx2 _ ct _ (by intro _ _ _ h; exact h) (by rfl) (by rfl) (fun x hx => (Fbx2.out).own hx nbx2_R0) Tryz.underlying26 (by rfl) (by rw [show (ct : Array Value).size = 4 from ZS]; kernel_rfl) (Own.of_ext E2.out) (by kernel_rfl) ?_
  (try simp only [Act.put, zA, zB, zC])
  refine md_load (i := 2) (listed' := #[true, true, true, false, false, false, false, false]) (by rfl) (by kernel_rfl) (by kernel_rfl) (by kernel_rfl) _ _ (by rfl) bx1 _ cb _ (by intro _ _ _ h; exact h) (by rfl) (by rfl) (fun x hx => (Fbx1.out).own hx nbx1_R0) Tryz.underlying26 (by rfl) (by rw [show (cb : Array Value).size = 4 from ZB]; kernel_rfl) (Own.of_ext E2.out) (by kernel_rfl) ?_
  (try simp only [Act.put, zA, zB, zC])
  refine md_load (i := 3) (listed' := #[true, true, true, true, false, false, false, false]) (by rfl) (by kernel_rfl) (by kernel_rfl) (by kernel_rfl) _ _ (by rfl) w.heap.size _ ca _ (by intro _ _ _ h; exact h) (by rfl) (by rfl) (fun x hx => (Fbx0.out).own hx nbx0_R0) Tryz.underlying26 (by rfl) (by rw [show (ca : Array Value).size = 4 from ZA]; kernel_rfl) (Own.of_ext E2.out) (by kernel_rfl) ?_
  (try simp only [Act.put, zA, zB, zC])
  refine md_call (i := 4) (listed' := #[true, true, true, true, true, false, false, false]) (by rfl) (by kernel_rfl) (by rfl) (by go_simp) (r03Sub (FB.out.ext (E1.out.trans E2.out)) (FA.out.ext (E1.out.trans E2.out)) (by omega)) (by kernel_rfl) ?_
  rintro e w3 ⟨c1, rfl, hc, hx⟩
  have E3 := zH (show Ext wa.drew w3 from hx)
  have Fd := zH hc
  clear hc
  clear hx
  refine ⟨_, rfl, (Own.of_ext (E2.out.trans E3.out)), ?_⟩
  (try simp only [Act.put, zA, zB, zC])
  refine md_call (i := 5) (listed' := #[true, true, true, true, true, true, false, false]) (by rfl) (by kernel_rfl) (by rfl) (by go_simp) (r03Mul (L := 2 * L + 1) ((FS.out.ext (E1.out.trans (E2.out.trans E3.out))).mono (by omega)) (Fd.out.isIn (by omega)) (by omega)) (by kernel_rfl) ?_
  rintro e w4 ⟨c2, rfl, hc, hx⟩
  have E4 := zH (show Ext w3 w4 from hx)
  have Fm := zH hc
  clear hc
  clear hx
  refine ⟨_, rfl, (Own.of_ext (E2.out.trans (E3.out.trans E4.out))), ?_⟩
  (try simp only [Act.put, zA, zB, zC])
  refine md_call (i := 6) (listed' := #[true, true, true, true, true, true, true, false]) (by rfl) (by kernel_rfl) (by rfl) (by go_simp) (r03Add (L := 3 * L + 1) ((FA.out.ext (E1.out.trans (E2.out.trans (E3.out.trans E4.out)))).mono (by omega)) (Fm.out.isIn (by omega)) (by omega)) (by kernel_rfl) ?_
  rintro e w5 ⟨c3, rfl, hc, hx⟩
  have E5 := zH (show Ext w4 w5 from hx)
  have Fr := zH hc
  have Z3 := hc.size
  have O3 := hc.one
  clear hc
  clear hx
  refine ⟨_, rfl, (Own.of_ext (E2.out.trans (E3.out.trans (E4.out.trans E5.out)))), ?_⟩
  (try simp only [Act.put, zA, zB, zC])
  have o1 := Own.setCells w5 R0 c3
  have kb1 := (FR0.out.ext (E2.out.trans (E3.out.trans (E4.out.trans E5.out))))
  have hs1 : Own R0 wa (w5.setCells R0 0 (c3 : Array Value).toList) := (Own.then_ext' (E2.out.trans (E3.out.trans (E4.out.trans E5.out))) o1)
  refine md_store (i := 7) (listed' := #[true, true, true, true, true, true, true, true]) (by rfl) (by kernel_rfl) (by rfl) _ _ _ (by rfl) R0 _ #[.bool false, .slice none 0 0, .bool false, .slice none 0 0] c3 (by rfl) (by rfl) kb1 (by rw [show (c3 : Array Value).size = 4 from Z3]; rfl) (by rw [show (c3 : Array Value).size = 4 from Z3]; kernel_rfl) O3 hs1 (by kernel_rfl) ?_
  (try simp only [Act.put])
  have kc1 := kb1.setCells c3 (by rw [show (c3 : Array Value).size = 4 from Z3]; rfl)
  refine wpAnyH_done (by kernel_rfl) ?_ _
  go_wp2_with fail
  refine bodyPost_ret (v := .agg c3) ?_ rfl ⟨_, rfl, (Fr.out.own kb1 noUn o1), (o1.ext (E1.out.trans (E2.out.trans (E3.out.trans (E4.out.trans E5.out)))) gR0)⟩
  exact results_cell1 rfl rfl (kc1.loadVar rfl rfl (by rw [Z3]; rfl))

set_option maxRecDepth 20000 in
set_option maxHeartbeats 8000000 in
theorem rbetween_any (L : Nat) (ca cb ct : Array Value) (A0 A1 B0 B1 S : Rat) (w : World) (hA : PtIn L w ca A0 A1) (hB : PtIn L w cb B0 B1) (hS : NIn L w ct S) (h1 : 1 ≤ L) (hL : L ≤ 800) :
    Calls Tryz.prog 32 #[.agg ca, .agg cb, .agg ct] w fun e w' => ∃ c, e = .returned (.agg c) ∧ PtIs w' c (lerpV A0 B0 S) (lerpV A1 B1 S) ∧ Ext w w' := by
  have ZA := hA.size
  have ZB := hB.size
  have ZS := hS.size
  have FA := zH hA
  have FB := zH hB
  have FS := zH hS
  clear hA hB hS
  go_enter Tryz.func32, Tryz.ntmps32
  go_upto_region 1 with fail
  have hbx0 : Blk ((((w.alloc (.cells ca 27)).alloc (.cells cb 27)).alloc (.cells ct 26)).alloc (.cells #[.bool false, .slice none 0 0, .bool false, .slice none 0 0, .bool false, .slice none 0 0, .bool false, .slice none 0 0] 27)) (w.heap.size) 27 ca := Blk.ext (Blk.new_at w _ (by simp) _ _) ((((Ext.refl _).alloc _).alloc _).alloc _)
  have hbx1 : Blk ((((w.alloc (.cells ca 27)).alloc (.cells cb 27)).alloc (.cells ct 26)).alloc (.cells #[.bool false, .slice none 0 0, .bool false, .slice none 0 0, .bool false, .slice none 0 0, .bool false, .slice none 0 0] 27)) (w.heap.size + 1) 27 cb := Blk.ext (Blk.new_at (w.alloc (.cells ca 27)) _ (by simp) _ _) (((Ext.refl _).alloc _).alloc _)
  have hbx2 : Blk ((((w.alloc (.cells ca 27)).alloc (.cells cb 27)).alloc (.cells ct 26)).alloc (.cells #[.bool false, .slice none 0 0, .bool false, .slice none 0 0, .bool false, .slice none 0 0, .bool false, .slice none 0 0] 27)) (w.heap.size + 1 + 1) 26 ct := Blk.ext (Blk.new_at ((w.alloc (.cells ca 27)).alloc (.cells cb 27)) _ (by simp) _ _) ((Ext.refl _).alloc _)
  have hR0 : Blk ((((w.alloc (.cells ca 27)).alloc (.cells cb 27)).alloc (.cells ct 26)).alloc (.cells #[.bool false, .slice none 0 0, .bool false, .slice none 0 0, .bool false, .slice none 0 0, .bool false, .slice none 0 0] 27)) (w.heap.size + 1 + 1 + 1) 27 #[.bool false, .slice none 0 0, .bool false, .slice none 0 0, .bool false, .slice none 0 0, .bool false, .slice none 0 0] := Blk.ext (Blk.new_at (((w.alloc (.cells ca 27)).alloc (.cells cb 27)).alloc (.cells ct 26)) _ (by simp) _ _) (Ext.refl _)
  have hE : Ext w ((((w.alloc (.cells ca 27)).alloc (.cells cb 27)).alloc (.cells ct 26)).alloc (.cells #[.bool false, .slice none 0 0, .bool false, .slice none 0 0, .bool false, .slice none 0 0, .bool false, .slice none 0 0] 27)) := (((((Ext.refl _).alloc _).alloc _).alloc _).alloc _)
  have gR0 : w.heap.size ≤ w.heap.size + 1 + 1 + 1 := by omega
  have nbx0_R0 : w.heap.size ≠ w.heap.size + 1 + 1 + 1 := by omega
  have nbx1_R0 : w.heap.size + 1 ≠ w.heap.size + 1 + 1 + 1 := by omega
  have nbx2_R0 : w.heap.size + 1 + 1 ≠ w.heap.size + 1 + 1 + 1 := by omega
  generalize ((((w.alloc (.cells ca 27)).alloc (.cells cb 27)).alloc (.cells ct 26)).alloc (.cells #[.bool false, .slice none 0 0, .bool false, .slice none 0 0, .bool false, .slice none 0 0, .bool false, .slice none 0 0] 27)) = wa at *
  generalize w.heap.size + 1 + 1 + 1 = R0 at *
  generalize w.heap.size + 1 + 1 = bx2 at *
  generalize w.heap.size + 1 = bx1 at *
  have E1 := zH (show Ext w wa from hE)
  have Fbx0 := zH hbx0
  have Fbx1 := zH hbx1
  have Fbx2 := zH hbx2
  have FR0 := zH hR0
  clear hE hbx0 hbx1 hbx2 hR0
  refine wp_region_held_drew (S := fun x => Own R0 wa x) (by kernel_rfl) (Own.of_ext (Ext.refl _).drew) (fun _ => ?_)
  have E2 := zH (show Ext wa wa.drew from (Ext.refl _).drew)
  refine md_val (i := 0) (v := ?vm1) (listed' := #[true, false, false, false, false, false, false, false, false, false, false, false, false, false]) (by rfl) (by kernel_rfl) (by kernel_rfl) (by kernel_rfl) (by intro _ _ _ h; exact h) (by rfl) ?hm1 (Own.of_ext E2.out) (by kernel_rfl) ?rm1
  case hm1 => (intro w hSw; (try dsimp only at hSw); go_simp <;> with_reducible rfl)
  (try simp only [Act.put, zA, zB, zC])
  refine md_part (i := 1) (listed' := #[true, true, false, false, false, false, false, false, false, false, false, false, false, false]) (by rfl) (by kernel_rfl) (by kernel_rfl) (by kernel_rfl) _ _ (by rfl) w.heap.size 0 4 _ ca _ (by intro _ _ _ h; exact h) (by rfl) (by rfl) (fun x hx => (Fbx0.out).own hx nbx0_R0) Tryz.underlying26 (by rfl) (by kernel_rfl) (by rw [show (ca : Array Value).size = 8 from ZA]; omega) (Own.of_ext E2.out) (by kernel_rfl) ?_
  (try simp only [Act.put, zA, zB, zC])
  refine md_val (i := 2) (v := ?vm2) (listed' := #[true, true, true, false, false, false, false, false, false, false, false, false, false, false]) (by rfl) (by kernel_rfl) (by kernel_rfl) (by kernel_rfl) (by intro _ _ _ h; exact h) (by rfl) ?hm2 (Own.of_ext E2.out) (by kernel_rfl) ?rm2
  case hm2 => (intro w hSw; (try dsimp only at hSw); go_simp <;> with_reducible rfl)
  (try simp only [Act.put, zA, zB, zC])
  refine md_part (i := 3) (listed' := #[true, true, true, true, false, false, false, false, false, false, false, false, false, false]) (by rfl) (by kernel_rfl) (by kernel_rfl) (by kernel_rfl) _ _ (by rfl) bx1 0 4 _ cb _ (by intro _ _ _ h; exact h) (by rfl) (by rfl) (fun x hx => (Fbx1.out).own hx nbx1_R0) Tryz.underlying26 (by rfl) (by kernel_rfl) (by rw [show (cb : Array Value).size = 8 from ZB]; omega) (Own.of_ext E2.out) (by kernel_rfl) ?_
  (try simp only [Act.put, zA, zB, zC])
  refine md_load (i := 4) (listed' := #[true, true, true, true, true, false, false, false, false, false, false, false, false, false]) (by rfl) (by kernel_rfl) (by kernel_rfl) (by kernel_rfl) _ _ (by rfl) bx2 _ ct _ (by intro _ _ _ h; exact h) (by rfl) (by rfl) (fun x hx => (Fbx2.out).own hx nbx2_R0) Tryz.underlying26 (by rfl) (by rw [show (ct : Array Value).size = 4 from ZS]; kernel_rfl) (Own.of_ext E2.out) (by kernel_rfl) ?_
  (try simp only [Act.put, zA, zB, zC])
  refine md_val (i := 6) (v := ?vm3) (listed' := #[true, true, true, true, true, false, true, false, false, false, false, false, false, false]) (by rfl) (by kernel_rfl) (by kernel_rfl) (by kernel_rfl) (by intro _ _ _ h; exact h) (by rfl) ?hm3 (Own.of_ext E2.out) (by kernel_rfl) ?rm3
  case hm3 => (intro w hSw; (try dsimp only at hSw); go_simp <;> with_reducible rfl)
  (try simp only [Act.put, zA, zB, zC])
  refine md_part (i := 7) (listed' := #[true, true, true, true, true, false, true, true, false, false, false, false, false, false]) (by rfl) (by kernel_rfl) (by kernel_rfl) (by kernel_rfl) _ _ (by rfl) w.heap.size 4 4 _ ca _ (by intro _ _ _ h; exact h) (by rfl) (by rfl) (fun x hx => (Fbx0.out).own hx nbx0_R0) Tryz.underlying26 (by rfl) (by kernel_rfl) (by rw [show (ca : Array Value).size = 8 from ZA]; omega) (Own.of_ext E2.out) (by kernel_rfl) ?_
  (try simp only [Act.put, zA, zB, zC])
  refine md_val (i := 8) (v := ?vm4) (listed' := #[true, true, true, true, true, false, true, true, true, false, false, false, false, false]) (by rfl) (by kernel_rfl) (by kernel_rfl) (by kernel_rfl) (by intro _ _ _ h; exact h) (by rfl) ?hm4 (Own.of_ext E2.out) (by kernel_rfl) ?rm4
  case hm4 => (intro w hSw; (try dsimp only at hSw); go_simp <;> with_reducible rfl)
  (try simp only [Act.put, zA, zB, zC])
  refine md_part (i := 9) (listed' := #[true, true, true, true, true, false, true, true, true, true, false, false, false, false]) (by rfl) (by kernel_rfl) (by kernel_rfl) (by kernel_rfl) _ _ (by rfl) bx1 4 4 _ cb _ (by intro _ _ _ h; exact h) (by rfl) (by rfl) (fun x hx => (Fbx1.out).own hx nbx1_R0) Tryz.underlying26 (by rfl) (by kernel_rfl) (by rw [show (cb : Array Value).size = 8 from ZB]; omega) (Own.of_ext E2.out) (by kernel_rfl) ?_
  (try simp only [Act.put, zA, zB, zC])
  refine md_load (i := 10) (listed' := #[true, true, true, true, true, false, true, true, true, true, true, false, false, false]) (by rfl) (by kernel_rfl) (by kernel_rfl) (by kernel_rfl) _ _ (by rfl) bx2 _ ct _ (by intro _ _ _ h; exact h) (by rfl) (by rfl) (fun x hx => (Fbx2.out).own hx nbx2_R0) Tryz.underlying26 (by rfl) (by rw [show (ct : Array Value).size = 4 from ZS]; kernel_rfl) (Own.of_ext E2.out) (by kernel_rfl) ?_
  (try simp only [Act.put, zA, zB, zC])
  refine md_call (i := 5) (listed' := #[true, true, true, true, true, true, true, true, true, true, true, false, false, false]) (by rfl) (by kernel_rfl) (by rfl) (by go_simp) (rlerp_any L _ _ _ _ _ _ _ (FA.out.ext (E1.out.trans E2.out)).c0 (FB.out.ext (E1.out.trans E2.out)).c0 (FS.out.ext (E1.out.trans E2.out)) h1 hL) (by kernel_rfl) ?_
  rintro e w3 ⟨_, rfl, ⟨u0, rfl, hc⟩, hx⟩
  have E3 := zH (show Ext wa.drew w3 from hx)
  have Fu0 := zH hc
  clear hc
  clear hx
  refine ⟨_, rfl, (Own.of_ext (E2.out.trans E3.out)), ?_⟩
  (try simp only [Act.put, zA, zB, zC])
  refine md_call (i := 11) (listed' := #[true, true, true, true, true, true, true, true, true, true, true, true, false, false]) (by rfl) (by kernel_rfl) (by rfl) (by go_simp) (rlerp_any L _ _ _ _ _ _ _ (FA.out.ext (E1.out.trans (E2.out.trans E3.out))).c1 (FB.out.ext (E1.out.trans (E2.out.trans E3.out))).c1 (FS.out.ext (E1.out.trans (E2.out.trans E3.out))) h1 hL) (by kernel_rfl) ?_
  rintro e w4 ⟨_, rfl, ⟨u1, rfl, hc⟩, hx⟩
  have E4 := zH (show Ext w3 w4 from hx)
  have Fu1 := zH hc
  clear hc
  clear hx
  refine ⟨_, rfl, (Own.of_ext (E2.out.trans (E3.out.trans E4.out))), ?_⟩
  (try simp only [Act.put, zA, zB, zC])
  refine md_val (i := 12) (v := ?vm5) (listed' := #[true, true, true, true, true, true, true, true, true, true, true, true, true, false]) (by rfl) (by kernel_rfl) (by kernel_rfl) (by kernel_rfl) (by intro _ _ _ h; exact h) (by rfl) ?hm5 (Own.of_ext (E2.out.trans (E3.out.trans E4.out))) (by kernel_rfl) ?rm5
  case hm5 => (intro w hSw; (try dsimp only at hSw); go_simp <;> with_reducible rfl)
  (try simp only [Act.put, zA, zB, zC])
  have o1 := Own.setCells w4 R0 #[.bool u0.n, .slice u0.p u0.l u0.c, .bool u0.m, .slice u0.p2 u0.l2 u0.c2, .bool u1.n, .slice u1.p u1.l u1.c, .bool u1.m, .slice u1.p2 u1.l2 u1.c2]
  have kb1 := (FR0.out.ext (E2.out.trans (E3.out.trans E4.out)))
  have hs1 : Own R0 wa (w4.setCells R0 0 (#[.bool u0.n, .slice u0.p u0.l u0.c, .bool u0.m, .slice u0.p2 u0.l2 u0.c2, .bool u1.n, .slice u1.p u1.l u1.c, .bool u1.m, .slice u1.p2 u1.l2 u1.c2] : Array Value).toList) := (Own.then_ext' (E2.out.trans (E3.out.trans E4.out)) o1)
  refine md_store (i := 13) (listed' := #[true, true, true, true, true, true, true, true, true, true, true, true, true, true]) (by rfl) (by kernel_rfl) (by rfl) _ _ _ (by rfl) R0 _ #[.bool false, .slice none 0 0, .bool false, .slice none 0 0, .bool false, .slice none 0 0, .bool false, .slice none 0 0] #[.bool u0.n, .slice u0.p u0.l u0.c, .bool u0.m, .slice u0.p2 u0.l2 u0.c2, .bool u1.n, .slice u1.p u1.l u1.c, .bool u1.m, .slice u1.p2 u1.l2 u1.c2] (by rfl) (by rfl) kb1 (by rw [show (#[.bool u0.n, .slice u0.p u0.l u0.c, .bool u0.m, .slice u0.p2 u0.l2 u0.c2, .bool u1.n, .slice u1.p u1.l u1.c, .bool u1.m, .slice u1.p2 u1.l2 u1.c2] : Array Value).size = 8 from rfl]; rfl) (by rw [show (#[.bool u0.n, .slice u0.p u0.l u0.c, .bool u0.m, .slice u0.p2 u0.l2 u0.c2, .bool u1.n, .slice u1.p u1.l u1.c, .bool u1.m, .slice u1.p2 u1.l2 u1.c2] : Array Value).size = 8 from rfl]; kernel_rfl) (all_oneCell_toArray (by simp [Value.oneCell'])) hs1 (by kernel_rfl) ?_
  (try simp only [Act.put])
  have kc1 := kb1.setCells #[.bool u0.n, .slice u0.p u0.l u0.c, .bool u0.m, .slice u0.p2 u0.l2 u0.c2, .bool u1.n, .slice u1.p u1.l u1.c, .bool u1.m, .slice u1.p2 u1.l2 u1.c2] (by rw [show (#[.bool u0.n, .slice u0.p u0.l u0.c, .bool u0.m, .slice u0.p2 u0.l2 u0.c2, .bool u1.n, .slice u1.p u1.l u1.c, .bool u1.m, .slice u1.p2 u1.l2 u1.c2] : Array Value).size = 8 from rfl]; rfl)
  refine wpAnyH_done (by kernel_rfl) ?_ _
  go_wp2_with fail
  refine bodyPost_ret (v := .agg #[.bool u0.n, .slice u0.p u0.l u0.c, .bool u0.m, .slice u0.p2 u0.l2 u0.c2, .bool u1.n, .slice u1.p u1.l u1.c, .bool u1.m, .slice u1.p2 u1.l2 u1.c2]) ?_ rfl ⟨_, rfl, ⟨u0, u1, rfl, ((Fu0.out.ext E4.out).own kb1 (noU_of _ (by simp)) o1), (Fu1.out.own kb1 (noU_of _ (by simp)) o1)⟩, (o1.ext (E1.out.trans (E2.out.trans (E3.out.trans E4.out))) gR0)⟩
  exact results_cell1 rfl rfl (kc1.loadVar rfl rfl (by rfl))

set_option maxRecDepth 20000 in
set_option maxHeartbeats 8000000 in
theorem rexact_any (L : Nat) (ca : Array Value) (A0 A1 : Rat) (w : World) (hA : PtIn L w ca A0 A1) (hL : L ≤ 100000) :
    Calls Tryz.prog 33 #[.agg ca] w fun e w' => ∃ c, e = .returned (.agg c) ∧ PtIs w' c A0 A1 ∧ Ext w w' := by
  have ZA := hA.size
  have FA := zH hA
  clear hA
  go_enter Tryz.func33, Tryz.ntmps33
  go_upto_region 1 with fail
  have hbx0 : Blk ((w.alloc (.cells ca 27)).alloc (.cells #[.bool false, .slice none 0 0, .bool false, .slice none 0 0, .bool false, .slice none 0 0, .bool false, .slice none 0 0] 27)) (w.heap.size) 27 ca := Blk.ext (Blk.new_at w _ (by simp) _ _) ((Ext.refl _).alloc _)
  have hR0 : Blk ((w.alloc (.cells ca 27)).alloc (.cells #[.bool false, .slice none 0 0, .bool false, .slice none 0 0, .bool false, .slice none 0 0, .bool false, .slice none 0 0] 27)) (w.heap.size + 1) 27 #[.bool false, .slice none 0 0, .bool false, .slice none 0 0, .bool false, .slice none 0 0, .bool false, .slice none 0 0] := Blk.ext (Blk.new_at (w.alloc (.cells ca 27)) _ (by simp) _ _) (Ext.refl _)
  have hE : Ext w ((w.alloc (.cells ca 27)).alloc (.cells #[.bool false, .slice none 0 0, .bool false, .slice none 0 0, .bool false, .slice none 0 0, .bool false, .slice none 0 0] 27)) := (((Ext.refl _).alloc _).alloc _)
  have gR0 : w.heap.size ≤ w.heap.size + 1 := by omega
  have nbx0_R0 : w.heap.size ≠ w.heap.size + 1 := by omega
  generalize ((w.alloc (.cells ca 27)).alloc (.cells #[.bool false, .slice none 0 0, .bool false, .slice none 0 0, .bool false, .slice none 0 0, .bool false, .slice none 0 0] 27)) = wa at *
  generalize w.heap.size + 1 = R0 at *
  have E1 := zH (show Ext w wa from hE)
  have Fbx0 := zH hbx0
  have FR0 := zH hR0
  clear hE hbx0 hR0
  refine wp_region_held_drew (S := fun x => Own R0 wa x) (by kernel_rfl) (Own.of_ext (Ext.refl _).drew) (fun _ => ?_)
  have E2 := zH (show Ext wa wa.drew from (Ext.refl _).drew)
  refine md_val (i := 0) (v := ?vm6) (listed' := #[true, false, false, false, false, false, false, false]) (by rfl) (by kernel_rfl) (by kernel_rfl) (by kernel_rfl) (by intro _ _ _ h; exact h) (by rfl) ?hm6 (Own.of_ext E2.out) (by kernel_rfl) ?rm6
  case hm6 => (intro w hSw; (try dsimp only at hSw); go_simp <;> with_reducible rfl)
  (try simp only [Act.put, zA, zB, zC])
  refine md_part (i := 1) (listed' := #[true, true, false, false, false, false, false, false]) (by rfl) (by kernel_rfl) (by kernel_rfl) (by kernel_rfl) _ _ (by rfl) w.heap.size 0 4 _ ca _ (by intro _ _ _ h; exact h) (by rfl) (by rfl) (fun x hx => (Fbx0.out).own hx nbx0_R0) Tryz.underlying26 (by rfl) (by kernel_rfl) (by rw [show (ca : Array Value).size = 8 from ZA]; omega) (Own.of_ext E2.out) (by kernel_rfl) ?_
  (try simp only [Act.put, zA, zB, zC])
  refine md_val (i := 3) (v := ?vm7) (listed' := #[true, true, false, true, false, false, false, false]) (by rfl) (by kernel_rfl) (by kernel_rfl) (by kernel_rfl) (by intro _ _ _ h; exact h) (by rfl) ?hm7 (Own.of_ext E2.out) (by kernel_rfl) ?rm7
  case hm7 => (intro w hSw; (try dsimp only at hSw); go_simp <;> with_reducible rfl)
  (try simp only [Act.put, zA, zB, zC])
  refine md_part (i := 4) (listed' := #[true, true, false, true, true, false, false, false]) (by rfl) (by kernel_rfl) (by kernel_rfl) (by kernel_rfl) _ _ (by rfl) w.heap.size 4 4 _ ca _ (by intro _ _ _ h; exact h) (by rfl) (by rfl) (fun x hx => (Fbx0.out).own hx nbx0_R0) Tryz.underlying26 (by rfl) (by kernel_rfl) (by rw [show (ca : Array Value).size = 8 from ZA]; omega) (Own.of_ext E2.out) (by kernel_rfl) ?_
  (try simp only [Act.put, zA, zB, zC])
  refine md_call (i := 2) (listed' := #[true, true, true, true, true, false, false, false]) (by rfl) (by kernel_rfl) (by rfl) (by go_simp) (r03Norm (FA.out.ext (E1.out.trans E2.out)).c0 hL) (by kernel_rfl) ?_
  rintro e w3 ⟨_, rfl, ⟨u0, rfl, hc⟩, hx⟩
  have E3 := zH (show Ext wa.drew w3 from hx)
  have Fu0 := zH hc
  clear hc
  clear hx
  refine ⟨_, rfl, (Own.of_ext (E2.out.trans E3.out)), ?_⟩
  (try simp only [Act.put, zA, zB, zC])
  refine md_call (i := 5) (listed' := #[true, true, true, true, true, true, false, false]) (by rfl) (by kernel_rfl) (by rfl) (by go_simp) (r03Norm (FA.out.ext (E1.out.trans (E2.out.trans E3.out))).c1 hL) (by kernel_rfl) ?_
  rintro e w4 ⟨_, rfl, ⟨u1, rfl, hc⟩, hx⟩
  have E4 := zH (show Ext w3 w4 from hx)
  have Fu1 := zH hc
  clear hc
  clear hx
  refine ⟨_, rfl, (Own.of_ext (E2.out.trans (E3.out.trans E4.out))), ?_⟩
  (try simp only [Act.put, zA, zB, zC])
  refine md_val (i := 6) (v := ?vm8) (listed' := #[true, true, true, true, true, true, true, false]) (by rfl) (by kernel_rfl) (by kernel_rfl) (by kernel_rfl) (by intro _ _ _ h; exact h) (by rfl) ?hm8 (Own.of_ext (E2.out.trans (E3.out.trans E4.out))) (by kernel_rfl) ?rm8
  case hm8 => (intro w hSw; (try dsimp only at hSw); go_simp <;> with_reducible rfl)
  (try simp only [Act.put, zA, zB, zC])
  have o1 := Own.setCells w4 R0 #[.bool u0.n, .slice u0.p u0.l u0.c, .bool u0.m, .slice u0.p2 u0.l2 u0.c2, .bool u1.n, .slice u1.p u1.l u1.c, .bool u1.m, .slice u1.p2 u1.l2 u1.c2]
  have kb1 := (FR0.out.ext (E2.out.trans (E3.out.trans E4.out)))
  have hs1 : Own R0 wa (w4.setCells R0 0 (#[.bool u0.n, .slice u0.p u0.l u0.c, .bool u0.m, .slice u0.p2 u0.l2 u0.c2, .bool u1.n, .slice u1.p u1.l u1.c, .bool u1.m, .slice u1.p2 u1.l2 u1.c2] : Array Value).toList) := (Own.then_ext' (E2.out.trans (E3.out.trans E4.out)) o1)
  refine md_store (i := 7) (listed' := #[true, true, true, true, true, true, true, true]) (by rfl) (by kernel_rfl) (by rfl) _ _ _ (by rfl) R0 _ #[.bool false, .slice none 0 0, .bool false, .slice none 0 0, .bool false, .slice none 0 0, .bool false, .slice none 0 0] #[.bool u0.n, .slice u0.p u0.l u0.c, .bool u0.m, .slice u0.p2 u0.l2 u0.c2, .bool u1.n, .slice u1.p u1.l u1.c, .bool u1.m, .slice u1.p2 u1.l2 u1.c2] (by rfl) (by rfl) kb1 (by rw [show (#[.bool u0.n, .slice u0.p u0.l u0.c, .bool u0.m, .slice u0.p2 u0.l2 u0.c2, .bool u1.n, .slice u1.p u1.l u1.c, .bool u1.m, .slice u1.p2 u1.l2 u1.c2] : Array Value).size = 8 from rfl]; rfl) (by rw [show (#[.bool u0.n, .slice u0.p u0.l u0.c, .bool u0.m, .slice u0.p2 u0.l2 u0.c2, .bool u1.n, .slice u1.p u1.l u1.c, .bool u1.m, .slice u1.p2 u1.l2 u1.c2] : Array Value).size = 8 from rfl]; kernel_rfl) (all_oneCell_toArray (by simp [Value.oneCell'])) hs1 (by kernel_rfl) ?_
  (try simp only [Act.put])
  have kc1 := kb1.setCells #[.bool u0.n, .slice u0.p u0.l u0.c, .bool u0.m, .slice u0.p2 u0.l2 u0.c2, .bool u1.n, .slice u1.p u1.l u1.c, .bool u1.m, .slice u1.p2 u1.l2 u1.c2] (by rw [show (#[.bool u0.n, .slice u0.p u0.l u0.c, .bool u0.m, .slice u0.p2 u0.l2 u0.c2, .bool u1.n, .slice u1.p u1.l u1.c, .bool u1.m, .slice u1.p2 u1.l2 u1.c2] : Array Value).size = 8 from rfl]; rfl)
  refine wpAnyH_done (by kernel_rfl) ?_ _
  go_wp2_with fail
  refine bodyPost_ret (v := .agg #[.bool u0.n, .slice u0.p u0.l u0.c, .bool u0.m, .slice u0.p2 u0.l2 u0.c2, .bool u1.n, .slice u1.p u1.l u1.c, .bool u1.m, .slice u1.p2 u1.l2 u1.c2]) ?_ rfl ⟨_, rfl, ⟨u0, u1, rfl, ((Fu0.out.ext E4.out).own kb1 (noU_of _ (by simp)) o1), (Fu1.out.own kb1 (noU_of _ (by simp)) o1)⟩, (o1.ext (E1.out.trans (E2.out.trans (E3.out.trans E4.out))) gR0)⟩
  exact results_cell1 rfl rfl (kc1.loadVar rfl rfl (by rfl))

end Go.Proofs.YtllpkoinjompcaaGreat

namespace Go.Proofs.YtllpkoinjompcaaGreat
open Go.RowKit
attribute [local go_sem ↓] Go.wp_at_zero Go.wp_at_succ run_max_ii run_min_ii

theorem one_cast : ((1 : Int) : Rat) = 1 := rfl
theorem two_cast : ((2 : Int) : Rat) = 2 := rfl
theorem zero_cast : ((0 : Int) : Rat) = 0 := rfl
theorem rlk (k : Int) (h : k.natAbs < 4294967296) : Nm.rl (k : Rat) ≤ 1 := by
  unfold Nm.rl
  rw [Rat.num_intCast, Rat.den_intCast]
  have h1 : Nm.nl k.natAbs ≤ 1 := Nm.nl_le (by omega)
  have h2 : Nm.nl 1 ≤ 1 := Nm.nl_le (by decide)
  omega
theorem ev3 (A B C S : Rat) : sumTo (prods [(((1 : Int) : Rat) - S) * (((1 : Int) : Rat) - S), ((2 : Int) : Rat) * (S * (((1 : Int) : Rat) - S)), S * S] [A, B, C]) [(((1 : Int) : Rat) - S) * (((1 : Int) : Rat) - S), ((2 : Int) : Rat) * (S * (((1 : Int) : Rat) - S)), S * S].length = quadV A B C S := by
  show (((((0 : Int) : Rat) + (((1 : Int) : Rat) - S) * (((1 : Int) : Rat) - S) * A) + ((2 : Int) : Rat) * (S * (((1 : Int) : Rat) - S)) * B) + S * S * C) = _
  rw [one_cast, two_cast, zero_cast]
  simp only [quadV, lerpV]
  grind
theorem x3from (k : Int) (w : World) (h1 : -9223372036854775808 ≤ k) (h2 : k ≤ 9223372036854775807) : Calls Tryz.prog 36 #[.int .i64 k] w (RetV (k : Rat) w) := (r3fromInt_any k w h1 h2).mono fun _ _ h => RetR.v h
theorem x3sub {L : Nat} {w : World} {a b : RV} {q r : Rat} (h : a.In L w q) (h' : b.In L w r) (hL : L ≤ 69000) : Calls Tryz.prog 35 #[.agg #[.bool a.n, .slice a.p a.l a.c, .bool a.m, .slice a.p2 a.l2 a.c2], .agg #[.bool b.n, .slice b.p b.l b.c, .bool b.m, .slice b.p2 b.l2 b.c2]] w (RetV (q - r) w) := (r3sub_any _ _ _ _ _ _ _ _ L q r w h h' hL).mono fun _ _ h => RetR.v h

set_option maxRecDepth 20000 in
set_option maxHeartbeats 8000000 in
theorem revalQuad_any (L : Nat) (cp ct : Array Value) (A0 A1 B0 B1 C0 C1 S : Rat) (w : World) (hP : Q3In L w cp A0 A1 B0 B1 C0 C1) (hS : NIn L w ct S) (h1 : 1 ≤ L) (hL : L ≤ 120) :
  Calls Tryz.prog 15 #[.agg cp, .agg ct] w fun e w' => ∃ c, e = .returned (.agg c) ∧ PtIs w' c (quadV A0 B0 C0 S) (quadV A1 B1 C1 S) ∧ Ext w w' := by
 have rS := hS.rl h1
 obtain ⟨a0, a1, b0, b1, c0, c1, rfl, ha0, ha1, hb0, hb1, hc0, hc1⟩ := hP
 obtain ⟨t, rfl, ht⟩ := hS
 have Fa0 := zH ha0
 have Fa1 := zH ha1
 have Fb0 := zH hb0
 have Fb1 := zH hb1
 have Fc0 := zH hc0
 have Fc1 := zH hc1
 have Ft := zH ht
 clear ha0 ha1 hb0 hb1 hc0 hc1 ht
 have rl1 := rlk 1 (by decide)
 have q1 := Nm.rl_sub ((1 : Int) : Rat) S
 go_enter Tryz.func15, Tryz.ntmps15
 go_upto_region 1 with fail
 have hbx0 : Blk (((w.alloc (.cells #[.bool a0.n, .slice a0.p a0.l a0.c, .bool a0.m, .slice a0.p2 a0.l2 a0.c2, .bool a1.n, .slice a1.p a1.l a1.c, .bool a1.m, .slice a1.p2 a1.l2 a1.c2, .bool b0.n, .slice b0.p b0.l b0.c, .bool b0.m, .slice b0.p2 b0.l2 b0.c2, .bool b1.n, .slice b1.p b1.l b1.c, .bool b1.m, .slice b1.p2 b1.l2 b1.c2, .bool c0.n, .slice c0.p c0.l c0.c, .bool c0.m, .slice c0.p2 c0.l2 c0.c2, .bool c1.n, .slice c1.p c1.l c1.c, .bool c1.m, .slice c1.p2 c1.l2 c1.c2] 32)).alloc (.cells #[.bool t.n, .slice t.p t.l t.c, .bool t.m, .slice t.p2 t.l2 t.c2] 26)).alloc (.cells z8 27)) (w.heap.size) 32 #[.bool a0.n, .slice a0.p a0.l a0.c, .bool a0.m, .slice a0.p2 a0.l2 a0.c2, .bool a1.n, .slice a1.p a1.l a1.c, .bool a1.m, .slice a1.p2 a1.l2 a1.c2, .bool b0.n, .slice b0.p b0.l b0.c, .bool b0.m, .slice b0.p2 b0.l2 b0.c2, .bool b1.n, .slice b1.p b1.l b1.c, .bool b1.m, .slice b1.p2 b1.l2 b1.c2, .bool c0.n, .slice c0.p c0.l c0.c, .bool c0.m, .slice c0.p2 c0.l2 c0.c2, .bool c1.n, .slice c1.p c1.l c1.c, .bool c1.m, .slice c1.p2 c1.l2 c1.c2] := Blk.ext (Blk.new_at w _ (by simp) _ _) (((Ext.refl _).alloc _).alloc _)
 have hbx1 : Blk (((w.alloc (.cells #[.bool a0.n, .slice a0.p a0.l a0.c, .bool a0.m, .slice a0.p2 a0.l2 a0.c2, .bool a1.n, .slice a1.p a1.l a1.c, .bool a1.m, .slice a1.p2 a1.l2 a1.c2, .bool b0.n, .slice b0.p b0.l b0.c, .bool b0.m, .slice b0.p2 b0.l2 b0.c2, .bool b1.n, .slice b1.p b1.l b1.c, .bool b1.m, .slice b1.p2 b1.l2 b1.c2, .bool c0.n, .slice c0.p c0.l c0.c, .bool c0.m, .slice c0.p2 c0.l2 c0.c2, .bool c1.n, .slice c1.p c1.l c1.c, .bool c1.m, .slice c1.p2 c1.l2 c1.c2] 32)).alloc (.cells #[.bool t.n, .slice t.p t.l t.c, .bool t.m, .slice t.p2 t.l2 t.c2] 26)).alloc (.cells z8 27)) (w.heap.size + 1) 26 #[.bool t.n, .slice t.p t.l t.c, .bool t.m, .slice t.p2 t.l2 t.c2] := Blk.ext (Blk.new_at (w.alloc (.cells #[.bool a0.n, .slice a0.p a0.l a0.c, .bool a0.m, .slice a0.p2 a0.l2 a0.c2, .bool a1.n, .slice a1.p a1.l a1.c, .bool a1.m, .slice a1.p2 a1.l2 a1.c2, .bool b0.n, .slice b0.p b0.l b0.c, .bool b0.m, .slice b0.p2 b0.l2 b0.c2, .bool b1.n, .slice b1.p b1.l b1.c, .bool b1.m, .slice b1.p2 b1.l2 b1.c2, .bool c0.n, .slice c0.p c0.l c0.c, .bool c0.m, .slice c0.p2 c0.l2 c0.c2, .bool c1.n, .slice c1.p c1.l c1.c, .bool c1.m, .slice c1.p2 c1.l2 c1.c2] 32)) _ (by simp) _ _) ((Ext.refl _).alloc _)
 have hR0 : Blk (((w.alloc (.cells #[.bool a0.n, .slice a0.p a0.l a0.c, .bool a0.m, .slice a0.p2 a0.l2 a0.c2, .bool a1.n, .slice a1.p a1.l a1.c, .bool a1.m, .slice a1.p2 a1.l2 a1.c2, .bool b0.n, .slice b0.p b0.l b0.c, .bool b0.m, .slice b0.p2 b0.l2 b0.c2, .bool b1.n, .slice b1.p b1.l b1.c, .bool b1.m, .slice b1.p2 b1.l2 b1.c2, .bool c0.n, .slice c0.p c0.l c0.c, .bool c0.m, .slice c0.p2 c0.l2 c0.c2, .bool c1.n, .slice c1.p c1.l c1.c, .bool c1.m, .slice c1.p2 c1.l2 c1.c2] 32)).alloc (.cells #[.bool t.n, .slice t.p t.l t.c, .bool t.m, .slice t.p2 t.l2 t.c2] 26)).alloc (.cells z8 27)) (w.heap.size + 1 + 1) 27 z8 := Blk.ext (Blk.new_at ((w.alloc (.cells #[.bool a0.n, .slice a0.p a0.l a0.c, .bool a0.m, .slice a0.p2 a0.l2 a0.c2, .bool a1.n, .slice a1.p a1.l a1.c, .bool a1.m, .slice a1.p2 a1.l2 a1.c2, .bool b0.n, .slice b0.p b0.l b0.c, .bool b0.m, .slice b0.p2 b0.l2 b0.c2, .bool b1.n, .slice b1.p b1.l b1.c, .bool b1.m, .slice b1.p2 b1.l2 b1.c2, .bool c0.n, .slice c0.p c0.l c0.c, .bool c0.m, .slice c0.p2 c0.l2 c0.c2, .bool c1.n, .slice c1.p c1.l c1.c, .bool c1.m, .slice c1.p2 c1.l2 c1.c2] 32)).alloc (.cells #[.bool t.n, .slice t.p t.l t.c, .bool t.m, .slice t.p2 t.l2 t.c2] 26)) _ (by simp) _ _) (Ext.refl _)
 have hE : Ext w (((w.alloc (.cells #[.bool a0.n, .slice a0.p a0.l a0.c, .bool a0.m, .slice a0.p2 a0.l2 a0.c2, .bool a1.n, .slice a1.p a1.l a1.c, .bool a1.m, .slice a1.p2 a1.l2 a1.c2, .bool b0.n, .slice b0.p b0.l b0.c, .bool b0.m, .slice b0.p2 b0.l2 b0.c2, .bool b1.n, .slice b1.p b1.l b1.c, .bool b1.m, .slice b1.p2 b1.l2 b1.c2, .bool c0.n, .slice c0.p c0.l c0.c, .bool c0.m, .slice c0.p2 c0.l2 c0.c2, .bool c1.n, .slice c1.p c1.l c1.c, .bool c1.m, .slice c1.p2 c1.l2 c1.c2] 32)).alloc (.cells #[.bool t.n, .slice t.p t.l t.c, .bool t.m, .slice t.p2 t.l2 t.c2] 26)).alloc (.cells z8 27)) := ((((Ext.refl _).alloc _).alloc _).alloc _)
 have gR0 : w.heap.size ≤ w.heap.size + 1 + 1 := by omega
 have nbx0_R0 : w.heap.size ≠ w.heap.size + 1 + 1 := by omega
 have nbx1_R0 : w.heap.size + 1 ≠ w.heap.size + 1 + 1 := by omega
 generalize (((w.alloc (.cells #[.bool a0.n, .slice a0.p a0.l a0.c, .bool a0.m, .slice a0.p2 a0.l2 a0.c2, .bool a1.n, .slice a1.p a1.l a1.c, .bool a1.m, .slice a1.p2 a1.l2 a1.c2, .bool b0.n, .slice b0.p b0.l b0.c, .bool b0.m, .slice b0.p2 b0.l2 b0.c2, .bool b1.n, .slice b1.p b1.l b1.c, .bool b1.m, .slice b1.p2 b1.l2 b1.c2, .bool c0.n, .slice c0.p c0.l c0.c, .bool c0.m, .slice c0.p2 c0.l2 c0.c2, .bool c1.n, .slice c1.p c1.l c1.c, .bool c1.m, .slice c1.p2 c1.l2 c1.c2] 32)).alloc (.cells #[.bool t.n, .slice t.p t.l t.c, .bool t.m, .slice t.p2 t.l2 t.c2] 26)).alloc (.cells z8 27)) = wa at *
 generalize w.heap.size + 1 + 1 = R0 at *
 generalize w.heap.size + 1 = bx1 at *
 have E1 : Hid (Ext w wa) := hE
 have Fbx0 := zH hbx0
 have Fbx1 := zH hbx1
 have FR0 := zH hR0
 clear hE hbx0 hbx1 hR0
 have rl2 := rlk 2 (by decide)
 have rl3 := rlk 3 (by decide)
 have rl_m1 := Nm.rl_mul (((1 : Int) : Rat) - S) (((1 : Int) : Rat) - S)
 have rl_ts := Nm.rl_mul S (((1 : Int) : Rat) - S)
 have rl_m2 := Nm.rl_mul ((2 : Int) : Rat) (S * (((1 : Int) : Rat) - S))
 have rl_m3 := Nm.rl_mul S S
 go_cut [5] (fun s wx => ∃ (X : Nat) (r : RV), s = .pointer (some ⟨X, 0, none⟩) ∧ wa.heap.size ≤ X ∧ r.Is wx (((1 : Int) : Rat) - S) ∧ Blk wx X 26 #[.bool r.n, .slice r.p r.l r.c, .bool r.m, .slice r.p2 r.l2 r.c2] ∧ Ext wa wx)
 case first =>
  refine wp_region_held_drew (S := fun x => Ext wa x) (by kernel_rfl) (Ext.refl _).drew (fun _ => ?_)
  have E2 := zH (show Ext wa wa.drew from (Ext.refl _).drew)
  refine mR 1 (bs 5 2) bx1 0 [.bool t.n, .slice t.p t.l t.c, .bool t.m, .slice t.p2 t.l2 t.c2] (fun x hx => ((Fbx1.out).ext hx).part 0 4) Tryz.underlying26 E2.out ?_
  (try simp only [Act.put, zA, zB, zC])
  refine mB 0 3 (bs 5 3) (bs 5 10) (u := .pointer (some ⟨wa.drew.heap.size, 0, none⟩)) (wj := (wa.drew.alloc (.cells z4 26))) (x3from 1 _ (by omega) (by omega)) (E2.out.alloc _) ?_ ?_
  ·rintro e w3 ⟨k1, rfl, hc, hx⟩
   have E3 : Hid (Ext wa.drew w3) := hx
   have Fk1 := zH hc
   clear hc
   clear hx
   refine ⟨_, rfl, (tr E2 E3).out, ?_⟩
   (try simp only [Act.put, zA, zB, zC])
   refine mB 2 3 (bs 5 7) (bs 5 11) (u := .pointer (some ⟨w3.heap.size, 0, none⟩)) (wj := (w3.alloc (.cells z4 26))) (x3sub (L := L + 1) (Fk1.out.isIn (by omega)) ((Ft.out.ext (tr E1 (tr E2 E3)).out).mono (by omega)) (by omega)) ((tr E2 E3).out.alloc _) ?_ ?_
   ·rintro e w4 ⟨sv, rfl, hc, hx⟩
    have E4 : Hid (Ext w3 w4) := hx
    have Fsv := zH hc
    clear hc
    clear hx
    refine ⟨_, rfl, (tr E2 (tr E3 E4)).out, ?_⟩
    (try simp only [Act.put, zA, zB, zC])
    refine mU 3 (bs 5 15) (v := .pointer (some ⟨w4.heap.size, 0, none⟩)) (w' := (w4.alloc (.cells z4 26))) ((tr E2 (tr E3 E4)).out.alloc _) ?_
    (try simp only [Act.put, zA, zB, zC])
    have E5 := zH (show Ext w4 (w4.alloc (.cells z4 26)) from (Ext.refl _).alloc _)
    have Fnb3 := zH (Blk.new w4 26 z4)
    have hbx := Fnb3.out
    have ob := Own.setCells (w4.alloc (.cells z4 26)) w4.heap.size #[.bool sv.n, .slice sv.p sv.l sv.c, .bool sv.m, .slice sv.p2 sv.l2 sv.c2]
    have hgb : wa.heap.size ≤ w4.heap.size := (tr E2 (tr E3 E4)).out.size
    have hS8 : Ext wa ((w4.alloc (.cells z4 26)).setCells w4.heap.size 0 (#[.bool sv.n, .slice sv.p sv.l sv.c, .bool sv.m, .slice sv.p2 sv.l2 sv.c2] : Array Value).toList) := ob.ext (tr E2 (tr E3 (tr E4 E5))).out hgb
    refine mO 4 (bs 5 31) #[.bool sv.n, .slice sv.p sv.l sv.c, .bool sv.m, .slice sv.p2 sv.l2 sv.c2] hbx rfl (by kernel_rfl) (all_oneCell_toArray (by simp [Value.oneCell'])) hS8 ?_
    (try simp only [Act.put])
    refine wpAnyH_done (by kernel_rfl) ?_ _
    go_wp2_with fail
    go_meet
    exact ⟨_, sv, rfl, hgb, ((Fsv.out.ext E5.out)).own hbx (noU_of _ (by simp)) ob, hbx.setCells #[.bool sv.n, .slice sv.p sv.l sv.c, .bool sv.m, .slice sv.p2 sv.l2 sv.c2] rfl, hS8⟩
   ·(try simp only [Act.put, zA, zB, zC])
    have E4 := zH (show Ext w3 (w3.alloc (.cells z4 26)) from (Ext.refl _).alloc _)
    have Fnb3 := zH (Blk.new w3 26 z4)
    refine mC 2 (bs 5 15) (x3sub (L := L + 1) ((Fk1.out.ext E4.out).isIn (by omega)) ((Ft.out.ext (tr E1 (tr E2 (tr E3 E4))).out).mono (by omega)) (by omega)) ?_
    rintro e w5 ⟨sv, rfl, hc, hx⟩
    have E5 := zH (show Ext (w3.alloc (.cells z4 26)) w5 from hx)
    have Fsv := zH hc
    clear hc
    clear hx
    refine ⟨_, rfl, (tr E2 (tr E3 (tr E4 E5))).out, ?_⟩
    (try simp only [Act.put, zA, zB, zC])
    have hbx := (Fnb3.out.ext E5.out)
    have ob := Own.setCells w5 w3.heap.size #[.bool sv.n, .slice sv.p sv.l sv.c, .bool sv.m, .slice sv.p2 sv.l2 sv.c2]
    have hgb : wa.heap.size ≤ w3.heap.size := (tr E2 E3).out.size
    have hS8 : Ext wa (w5.setCells w3.heap.size 0 (#[.bool sv.n, .slice sv.p sv.l sv.c, .bool sv.m, .slice sv.p2 sv.l2 sv.c2] : Array Value).toList) := ob.ext (tr E2 (tr E3 (tr E4 E5))).out hgb
    refine mO 4 (bs 5 31) #[.bool sv.n, .slice sv.p sv.l sv.c, .bool sv.m, .slice sv.p2 sv.l2 sv.c2] hbx rfl (by kernel_rfl) (all_oneCell_toArray (by simp [Value.oneCell'])) hS8 ?_
    (try simp only [Act.put])
    refine wpAnyH_done (by kernel_rfl) ?_ _
    go_wp2_with fail
    go_meet
    exact ⟨_, sv, rfl, hgb, (Fsv.out).own hbx (noU_of _ (by simp)) ob, hbx.setCells #[.bool sv.n, .slice sv.p sv.l sv.c, .bool sv.m, .slice sv.p2 sv.l2 sv.c2] rfl, hS8⟩
  ·(try simp only [Act.put, zA, zB, zC])
   have E3 := zH (show Ext wa.drew (wa.drew.alloc (.cells z4 26)) from (Ext.refl _).alloc _)
   have Fnb3 := zH (Blk.new wa.drew 26 z4)
   refine mC 0 (bs 5 11) (x3from 1 _ (by omega) (by omega)) ?_
   rintro e w4 ⟨k1, rfl, hc, hx⟩
   have E4 := zH (show Ext (wa.drew.alloc (.cells z4 26)) w4 from hx)
   have Fk1 := zH hc
   clear hc
   clear hx
   refine ⟨_, rfl, (tr E2 (tr E3 E4)).out, ?_⟩
   (try simp only [Act.put, zA, zB, zC])
   refine mC 2 (bs 5 15) (x3sub (L := L + 1) (Fk1.out.isIn (by omega)) ((Ft.out.ext (tr E1 (tr E2 (tr E3 E4))).out).mono (by omega)) (by omega)) ?_
   rintro e w5 ⟨sv, rfl, hc, hx⟩
   have E5 : Hid (Ext w4 w5) := hx
   have Fsv := zH hc
   clear hc
   clear hx
   refine ⟨_, rfl, (tr E2 (tr E3 (tr E4 E5))).out, ?_⟩
   (try simp only [Act.put, zA, zB, zC])
   have hbx := (Fnb3.out.ext (tr E4 E5).out)
   have ob := Own.setCells w5 wa.drew.heap.size #[.bool sv.n, .slice sv.p sv.l sv.c, .bool sv.m, .slice sv.p2 sv.l2 sv.c2]
   have hgb : wa.heap.size ≤ wa.drew.heap.size := E2.out.size
   have hS8 : Ext wa (w5.setCells wa.drew.heap.size 0 (#[.bool sv.n, .slice sv.p sv.l sv.c, .bool sv.m, .slice sv.p2 sv.l2 sv.c2] : Array Value).toList) := ob.ext (tr E2 (tr E3 (tr E4 E5))).out hgb
   refine mO 4 (bs 5 31) #[.bool sv.n, .slice sv.p sv.l sv.c, .bool sv.m, .slice sv.p2 sv.l2 sv.c2] hbx rfl (by kernel_rfl) (all_oneCell_toArray (by simp [Value.oneCell'])) hS8 ?_
   (try simp only [Act.put])
   refine wpAnyH_done (by kernel_rfl) ?_ _
   go_wp2_with fail
   go_meet
   exact ⟨_, sv, rfl, hgb, (Fsv.out).own hbx (noU_of _ (by simp)) ob, hbx.setCells #[.bool sv.n, .slice sv.p sv.l sv.c, .bool sv.m, .slice sv.p2 sv.l2 sv.c2] rfl, hS8⟩
 case rest =>
  obtain ⟨XS, sv, rfl, hXS, hs, hb, hx⟩ := hcut
  have nbs_R0 : XS ≠ R0 := by have h9 := Blk.lt FR0.out; omega
  have E2 : Hid (Ext wa wc) := hx
  have Fsv := zH hs
  have Fbs := zH hb
  clear hs hb hx hXS
  go_upto_region 2 with fail
  refine wp_region_held_drew (S := fun x => Ext wc x) (by kernel_rfl) (Ext.refl _).drew (fun _ => ?_)
  have E3 := zH (show Ext wc wc.drew from (Ext.refl _).drew)
  refine mR 0 (bs 13 1) XS 0 [.bool sv.n, .slice sv.p sv.l sv.c, .bool sv.m, .slice sv.p2 sv.l2 sv.c2] (fun x hx => ((Fbs.out).ext hx).part 0 4) Tryz.underlying26 E3.out ?_
  refine mR 1 (bs 13 3) XS 0 [.bool sv.n, .slice sv.p sv.l sv.c, .bool sv.m, .slice sv.p2 sv.l2 sv.c2] (fun x hx => ((Fbs.out).ext hx).part 0 4) Tryz.underlying26 E3.out ?_
  refine mR 4 (bs 13 19) bx1 0 [.bool t.n, .slice t.p t.l t.c, .bool t.m, .slice t.p2 t.l2 t.c2] (fun x hx => (((Fbx1.out.ext E2.out)).ext hx).part 0 4) Tryz.underlying26 E3.out ?_
  refine mR 5 (bs 13 51) XS 0 [.bool sv.n, .slice sv.p sv.l sv.c, .bool sv.m, .slice sv.p2 sv.l2 sv.c2] (fun x hx => ((Fbs.out).ext hx).part 0 4) Tryz.underlying26 E3.out ?_
  refine mR 8 (bs 13 307) bx1 0 [.bool t.n, .slice t.p t.l t.c, .bool t.m, .slice t.p2 t.l2 t.c2] (fun x hx => (((Fbx1.out.ext E2.out)).ext hx).part 0 4) Tryz.underlying26 E3.out ?_
  refine mR 9 (bs 13 819) bx1 0 [.bool t.n, .slice t.p t.l t.c, .bool t.m, .slice t.p2 t.l2 t.c2] (fun x hx => (((Fbx1.out.ext E2.out)).ext hx).part 0 4) Tryz.underlying26 E3.out ?_
  (try simp only [Act.put, zA, zB, zC])
  refine mC 2 (bs 13 823) (x3mul (L := 4 * L + 8) ((Fsv.out.ext E3.out).isIn (by omega)) ((Fsv.out.ext E3.out).isIn (by omega)) (by omega)) ?_
  rintro e w4 ⟨m1, rfl, hc, hx⟩
  have E4 : Hid (Ext wc.drew w4) := hx
  have Fm1 := zH hc
  clear hc
  clear hx
  refine ⟨_, rfl, (tr E3 E4).out, ?_⟩
  (try simp only [Act.put, zA, zB, zC])
  refine mC 3 (bs 13 831) (x3from 2 _ (by omega) (by omega)) ?_
  rintro e w5 ⟨k2, rfl, hc, hx⟩
  have E5 : Hid (Ext w4 w5) := hx
  have Fk2 := zH hc
  clear hc
  clear hx
  refine ⟨_, rfl, (tr E3 (tr E4 E5)).out, ?_⟩
  (try simp only [Act.put, zA, zB, zC])
  refine mC 6 (bs 13 895) (x3mul (L := 4 * L + 8) ((Ft.out.ext (tr E1 (tr E2 (tr E3 (tr E4 E5)))).out).mono (by omega)) ((Fsv.out.ext (tr E3 (tr E4 E5)).out).isIn (by omega)) (by omega)) ?_
  rintro e w6 ⟨ts, rfl, hc, hx⟩
  have E6 : Hid (Ext w5 w6) := hx
  have Fts := zH hc
  clear hc
  clear hx
  refine ⟨_, rfl, (tr E3 (tr E4 (tr E5 E6))).out, ?_⟩
  (try simp only [Act.put, zA, zB, zC])
  refine mC 7 (bs 13 1023) (x3mul (L := 4 * L + 8) ((Fk2.out.ext E6.out).isIn (by omega)) (Fts.out.isIn (by omega)) (by omega)) ?_
  rintro e w7 ⟨m2, rfl, hc, hx⟩
  have E7 : Hid (Ext w6 w7) := hx
  have Fm2 := zH hc
  clear hc
  clear hx
  refine ⟨_, rfl, (tr E3 (tr E4 (tr E5 (tr E6 E7)))).out, ?_⟩
  (try simp only [Act.put, zA, zB, zC])
  refine mC 10 (bs 13 2047) (x3mul (L := 4 * L + 8) ((Ft.out.ext (tr E1 (tr E2 (tr E3 (tr E4 (tr E5 (tr E6 E7)))))).out).mono (by omega)) ((Ft.out.ext (tr E1 (tr E2 (tr E3 (tr E4 (tr E5 (tr E6 E7)))))).out).mono (by omega)) (by omega)) ?_
  rintro e w8 ⟨m3, rfl, hc, hx⟩
  have E8 : Hid (Ext w7 w8) := hx
  have Fm3 := zH hc
  clear hc
  clear hx
  refine ⟨_, rfl, (tr E3 (tr E4 (tr E5 (tr E6 (tr E7 E8))))).out, ?_⟩
  (try simp only [Act.put, zA, zB, zC])
  refine mU 11 (bs 13 4095) (v := .slice (some ⟨w8.heap.size, 0, none⟩) 3 3) (w' := (w8.alloc (.cells #[.bool m1.n, .slice m1.p m1.l m1.c, .bool m1.m, .slice m1.p2 m1.l2 m1.c2, .bool m2.n, .slice m2.p m2.l m2.c, .bool m2.m, .slice m2.p2 m2.l2 m2.c2, .bool m3.n, .slice m3.p m3.l m3.c, .bool m3.m, .slice m3.p2 m3.l2 m3.c2] 26))) ((tr E3 (tr E4 (tr E5 (tr E6 (tr E7 E8))))).out.alloc _) ?_
  (try simp only [Act.put, zA, zB, zC])
  have E9 := zH (show Ext w8 (w8.alloc (.cells #[.bool m1.n, .slice m1.p m1.l m1.c, .bool m1.m, .slice m1.p2 m1.l2 m1.c2, .bool m2.n, .slice m2.p m2.l m2.c, .bool m2.m, .slice m2.p2 m2.l2 m2.c2, .bool m3.n, .slice m3.p m3.l m3.c, .bool m3.m, .slice m3.p2 m3.l2 m3.c2] 26)) from (Ext.refl _).alloc _)
  have Fnb11 := zH (Blk.new w8 26 #[.bool m1.n, .slice m1.p m1.l m1.c, .bool m1.m, .slice m1.p2 m1.l2 m1.c2, .bool m2.n, .slice m2.p m2.l m2.c, .bool m2.m, .slice m2.p2 m2.l2 m2.c2, .bool m3.n, .slice m3.p m3.l m3.c, .bool m3.m, .slice m3.p2 m3.l2 m3.c2])
  refine mV 12 (bs 13 8191) (tr E3 (tr E4 (tr E5 (tr E6 (tr E7 (tr E8 E9)))))).out ?_
  (try simp only [Act.put, zA, zB, zC])
  refine wpAnyH_done (by kernel_rfl) ?_ _
  have nbW_R0 : w8.heap.size ≠ R0 := Nat.ne_of_gt (Blk.lt (FR0.out.ext (tr E2 (tr E3 (tr E4 (tr E5 (tr E6 (tr E7 E8)))))).out))
  generalize (w8.alloc (.cells #[.bool m1.n, .slice m1.p m1.l m1.c, .bool m1.m, .slice m1.p2 m1.l2 m1.c2, .bool m2.n, .slice m2.p m2.l m2.c, .bool m2.m, .slice m2.p2 m2.l2 m2.c2, .bool m3.n, .slice m3.p m3.l m3.c, .bool m3.m, .slice m3.p2 m3.l2 m3.c2] 26)) = wW at *
  generalize w8.heap.size = XW at *
  have FbW := Fnb11
  go_upto_region 3 with fail
  refine wp_region_held_drew (S := fun x => Own R0 wW x) (by kernel_rfl) (Own.of_ext (Ext.refl _).drew) (fun _ => ?_)
  have E10 := zH (show Ext wW wW.drew from (Ext.refl _).drew)
  refine mV 0 (bs 26 1) (Own.of_ext E10.out) ?_
  (try simp only [Act.put, zA, zB, zC])
  refine mV 1 (bs 26 3) (Own.of_ext E10.out) ?_
  (try simp only [Act.put, zA, zB, zC])
  refine mV 2 (bs 26 7) (Own.of_ext E10.out) ?_
  refine mR 3 (bs 26 15) w.heap.size 0 [.bool a0.n, .slice a0.p a0.l a0.c, .bool a0.m, .slice a0.p2 a0.l2 a0.c2] (fun x hx => (((Fbx0.out.ext (tr E2 (tr E3 (tr E4 (tr E5 (tr E6 (tr E7 (tr E8 E9))))))).out)).own hx nbx0_R0).part 0 4) Tryz.underlying26 (Own.of_ext E10.out) ?_
  (try simp only [Act.put, zA, zB, zC])
  refine mV 4 (bs 26 31) (Own.of_ext E10.out) ?_
  (try simp only [Act.put, zA, zB, zC])
  refine mV 5 (bs 26 63) (Own.of_ext E10.out) ?_
  refine mR 6 (bs 26 127) w.heap.size 8 [.bool b0.n, .slice b0.p b0.l b0.c, .bool b0.m, .slice b0.p2 b0.l2 b0.c2] (fun x hx => (((Fbx0.out.ext (tr E2 (tr E3 (tr E4 (tr E5 (tr E6 (tr E7 (tr E8 E9))))))).out)).own hx nbx0_R0).part 8 4) Tryz.underlying26 (Own.of_ext E10.out) ?_
  (try simp only [Act.put, zA, zB, zC])
  refine mV 7 (bs 26 255) (Own.of_ext E10.out) ?_
  (try simp only [Act.put, zA, zB, zC])
  refine mV 8 (bs 26 511) (Own.of_ext E10.out) ?_
  refine mR 9 (bs 26 1023) w.heap.size 16 [.bool c0.n, .slice c0.p c0.l c0.c, .bool c0.m, .slice c0.p2 c0.l2 c0.c2] (fun x hx => (((Fbx0.out.ext (tr E2 (tr E3 (tr E4 (tr E5 (tr E6 (tr E7 (tr E8 E9))))))).out)).own hx nbx0_R0).part 16 4) Tryz.underlying26 (Own.of_ext E10.out) ?_
  (try simp only [Act.put, zA, zB, zC])
  refine mV 12 (bs 26 5119) (Own.of_ext E10.out) ?_
  (try simp only [Act.put, zA, zB, zC])
  refine mV 13 (bs 26 13311) (Own.of_ext E10.out) ?_
  (try simp only [Act.put, zA, zB, zC])
  refine mV 14 (bs 26 29695) (Own.of_ext E10.out) ?_
  refine mR 15 (bs 26 62463) w.heap.size 4 [.bool a1.n, .slice a1.p a1.l a1.c, .bool a1.m, .slice a1.p2 a1.l2 a1.c2] (fun x hx => (((Fbx0.out.ext (tr E2 (tr E3 (tr E4 (tr E5 (tr E6 (tr E7 (tr E8 E9))))))).out)).own hx nbx0_R0).part 4 4) Tryz.underlying26 (Own.of_ext E10.out) ?_
  (try simp only [Act.put, zA, zB, zC])
  refine mV 16 (bs 26 127999) (Own.of_ext E10.out) ?_
  (try simp only [Act.put, zA, zB, zC])
  refine mV 17 (bs 26 259071) (Own.of_ext E10.out) ?_
  refine mR 18 (bs 26 521215) w.heap.size 12 [.bool b1.n, .slice b1.p b1.l b1.c, .bool b1.m, .slice b1.p2 b1.l2 b1.c2] (fun x hx => (((Fbx0.out.ext (tr E2 (tr E3 (tr E4 (tr E5 (tr E6 (tr E7 (tr E8 E9))))))).out)).own hx nbx0_R0).part 12 4) Tryz.underlying26 (Own.of_ext E10.out) ?_
  (try simp only [Act.put, zA, zB, zC])
  refine mV 19 (bs 26 1045503) (Own.of_ext E10.out) ?_
  (try simp only [Act.put, zA, zB, zC])
  refine mV 20 (bs 26 2094079) (Own.of_ext E10.out) ?_
  refine mR 21 (bs 26 4191231) w.heap.size 20 [.bool c1.n, .slice c1.p c1.l c1.c, .bool c1.m, .slice c1.p2 c1.l2 c1.c2] (fun x hx => (((Fbx0.out.ext (tr E2 (tr E3 (tr E4 (tr E5 (tr E6 (tr E7 (tr E8 E9))))))).out)).own hx nbx0_R0).part 20 4) Tryz.underlying26 (Own.of_ext E10.out) ?_
  (try simp only [Act.put, zA, zB, zC])
  refine md_two (i := 10) (j := 22) (listed' := (bs 26 4192255)) (lj := (bs 26 8385535)) (v := .slice (some ⟨wW.drew.heap.size, 0, none⟩) 3 3) (wi := (wW.drew.alloc (.cells #[.bool a0.n, .slice a0.p a0.l a0.c, .bool a0.m, .slice a0.p2 a0.l2 a0.c2, .bool b0.n, .slice b0.p b0.l b0.c, .bool b0.m, .slice b0.p2 b0.l2 b0.c2, .bool c0.n, .slice c0.p c0.l c0.c, .bool c0.m, .slice c0.p2 c0.l2 c0.c2] 26))) (u := .slice (some ⟨wW.drew.heap.size, 0, none⟩) 3 3) (wj := (wW.drew.alloc (.cells #[.bool a1.n, .slice a1.p a1.l a1.c, .bool a1.m, .slice a1.p2 a1.l2 a1.c2, .bool b1.n, .slice b1.p b1.l b1.c, .bool b1.m, .slice b1.p2 b1.l2 b1.c2, .bool c1.n, .slice c1.p c1.l c1.c, .bool c1.m, .slice c1.p2 c1.l2 c1.c2] 26))) (by rfl) (by rfl) (by kernel_rfl) (by rfl) (by go_simp) (Own.of_ext (E10.out.alloc _)) (by kernel_rfl) (by rfl) (by go_simp) (Own.of_ext (E10.out.alloc _)) (by kernel_rfl) ?_ ?_
  ·(try simp only [Act.put, zA, zB, zC])
   have E11 := zH (show Ext wW.drew (wW.drew.alloc (.cells #[.bool a0.n, .slice a0.p a0.l a0.c, .bool a0.m, .slice a0.p2 a0.l2 a0.c2, .bool b0.n, .slice b0.p b0.l b0.c, .bool b0.m, .slice b0.p2 b0.l2 b0.c2, .bool c0.n, .slice c0.p c0.l c0.c, .bool c0.m, .slice c0.p2 c0.l2 c0.c2] 26)) from (Ext.refl _).alloc _)
   have Fnb10 := zH (Blk.new wW.drew 26 #[.bool a0.n, .slice a0.p a0.l a0.c, .bool a0.m, .slice a0.p2 a0.l2 a0.c2, .bool b0.n, .slice b0.p b0.l b0.c, .bool b0.m, .slice b0.p2 b0.l2 b0.c2, .bool c0.n, .slice c0.p c0.l c0.c, .bool c0.m, .slice c0.p2 c0.l2 c0.c2])
   refine mB 11 22 (bs 26 4194303) (bs 26 8386559) (u := .slice (some ⟨(wW.drew.alloc (.cells #[.bool a0.n, .slice a0.p a0.l a0.c, .bool a0.m, .slice a0.p2 a0.l2 a0.c2, .bool b0.n, .slice b0.p b0.l b0.c, .bool b0.m, .slice b0.p2 b0.l2 b0.c2, .bool c0.n, .slice c0.p c0.l c0.c, .bool c0.m, .slice c0.p2 c0.l2 c0.c2] 26)).heap.size, 0, none⟩) 3 3) (wj := ((wW.drew.alloc (.cells #[.bool a0.n, .slice a0.p a0.l a0.c, .bool a0.m, .slice a0.p2 a0.l2 a0.c2, .bool b0.n, .slice b0.p b0.l b0.c, .bool b0.m, .slice b0.p2 b0.l2 b0.c2, .bool c0.n, .slice c0.p c0.l c0.c, .bool c0.m, .slice c0.p2 c0.l2 c0.c2] 26)).alloc (.cells #[.bool a1.n, .slice a1.p a1.l a1.c, .bool a1.m, .slice a1.p2 a1.l2 a1.c2, .bool b1.n, .slice b1.p b1.l b1.c, .bool b1.m, .slice b1.p2 b1.l2 b1.c2, .bool c1.n, .slice c1.p c1.l c1.c, .bool c1.m, .slice c1.p2 c1.l2 c1.c2] 26))) (rweighted_any (4 * L + 8) _ _ [((((1 : Int) : Rat) - S) * (((1 : Int) : Rat) - S)), (((2 : Int) : Rat) * (S * (((1 : Int) : Rat) - S))), (S * S)] [A0, B0, C0] _ (RatsV.of_blk (rs := [m1, m2, m3]) (FbW.out.ext (tr E10 E11).out) rfl (in3 ((Fm1.out.ext (tr E5 (tr E6 (tr E7 (tr E8 (tr E9 (tr E10 E11)))))).out).isIn (by omega)) ((Fm2.out.ext (tr E8 (tr E9 (tr E10 E11))).out).isIn (by omega)) ((Fm3.out.ext (tr E9 (tr E10 E11)).out).isIn (by omega)))) (RatsV.of_blk (rs := [a0, b0, c0]) Fnb10.out rfl (in3 ((Fa0.out.ext (tr E1 (tr E2 (tr E3 (tr E4 (tr E5 (tr E6 (tr E7 (tr E8 (tr E9 (tr E10 E11)))))))))).out).mono (by omega)) ((Fb0.out.ext (tr E1 (tr E2 (tr E3 (tr E4 (tr E5 (tr E6 (tr E7 (tr E8 (tr E9 (tr E10 E11)))))))))).out).mono (by omega)) ((Fc0.out.ext (tr E1 (tr E2 (tr E3 (tr E4 (tr E5 (tr E6 (tr E7 (tr E8 (tr E9 (tr E10 E11)))))))))).out).mono (by omega)))) rfl (by simp) (by omega) (by omega)) (Own.of_ext ((tr E10 E11).out.alloc _)) ?_ ?_
   ·rintro e w12 ⟨u0, rfl, hc, hx⟩
    have E12 := zH (show Ext (wW.drew.alloc (.cells #[.bool a0.n, .slice a0.p a0.l a0.c, .bool a0.m, .slice a0.p2 a0.l2 a0.c2, .bool b0.n, .slice b0.p b0.l b0.c, .bool b0.m, .slice b0.p2 b0.l2 b0.c2, .bool c0.n, .slice c0.p c0.l c0.c, .bool c0.m, .slice c0.p2 c0.l2 c0.c2] 26)) w12 from hx)
    rw [ev3] at hc
    have Fu0 := zH hc
    clear hc
    clear hx
    refine ⟨_, rfl, (Own.of_ext (tr E10 (tr E11 E12)).out), ?_⟩
    (try simp only [Act.put, zA, zB, zC])
    refine mU 22 (bs 26 8388607) (v := .slice (some ⟨w12.heap.size, 0, none⟩) 3 3) (w' := (w12.alloc (.cells #[.bool a1.n, .slice a1.p a1.l a1.c, .bool a1.m, .slice a1.p2 a1.l2 a1.c2, .bool b1.n, .slice b1.p b1.l b1.c, .bool b1.m, .slice b1.p2 b1.l2 b1.c2, .bool c1.n, .slice c1.p c1.l c1.c, .bool c1.m, .slice c1.p2 c1.l2 c1.c2] 26))) (Own.of_ext ((tr E10 (tr E11 E12)).out.alloc _)) ?_
    (try simp only [Act.put, zA, zB, zC])
    have E13 := zH (show Ext w12 (w12.alloc (.cells #[.bool a1.n, .slice a1.p a1.l a1.c, .bool a1.m, .slice a1.p2 a1.l2 a1.c2, .bool b1.n, .slice b1.p b1.l b1.c, .bool b1.m, .slice b1.p2 b1.l2 b1.c2, .bool c1.n, .slice c1.p c1.l c1.c, .bool c1.m, .slice c1.p2 c1.l2 c1.c2] 26)) from (Ext.refl _).alloc _)
    have Fnb22 := zH (Blk.new w12 26 #[.bool a1.n, .slice a1.p a1.l a1.c, .bool a1.m, .slice a1.p2 a1.l2 a1.c2, .bool b1.n, .slice b1.p b1.l b1.c, .bool b1.m, .slice b1.p2 b1.l2 b1.c2, .bool c1.n, .slice c1.p c1.l c1.c, .bool c1.m, .slice c1.p2 c1.l2 c1.c2])
    refine mC 23 (bs 26 16777215) (rweighted_any (4 * L + 8) _ _ [((((1 : Int) : Rat) - S) * (((1 : Int) : Rat) - S)), (((2 : Int) : Rat) * (S * (((1 : Int) : Rat) - S))), (S * S)] [A1, B1, C1] _ (RatsV.of_blk (rs := [m1, m2, m3]) (FbW.out.ext (tr E10 (tr E11 (tr E12 E13))).out) rfl (in3 ((Fm1.out.ext (tr E5 (tr E6 (tr E7 (tr E8 (tr E9 (tr E10 (tr E11 (tr E12 E13)))))))).out).isIn (by omega)) ((Fm2.out.ext (tr E8 (tr E9 (tr E10 (tr E11 (tr E12 E13))))).out).isIn (by omega)) ((Fm3.out.ext (tr E9 (tr E10 (tr E11 (tr E12 E13)))).out).isIn (by omega)))) (RatsV.of_blk (rs := [a1, b1, c1]) Fnb22.out rfl (in3 ((Fa1.out.ext (tr E1 (tr E2 (tr E3 (tr E4 (tr E5 (tr E6 (tr E7 (tr E8 (tr E9 (tr E10 (tr E11 (tr E12 E13)))))))))))).out).mono (by omega)) ((Fb1.out.ext (tr E1 (tr E2 (tr E3 (tr E4 (tr E5 (tr E6 (tr E7 (tr E8 (tr E9 (tr E10 (tr E11 (tr E12 E13)))))))))))).out).mono (by omega)) ((Fc1.out.ext (tr E1 (tr E2 (tr E3 (tr E4 (tr E5 (tr E6 (tr E7 (tr E8 (tr E9 (tr E10 (tr E11 (tr E12 E13)))))))))))).out).mono (by omega)))) rfl (by simp) (by omega) (by omega)) ?_
    rintro e w14 ⟨u1, rfl, hc, hx⟩
    have E14 := zH (show Ext (w12.alloc (.cells #[.bool a1.n, .slice a1.p a1.l a1.c, .bool a1.m, .slice a1.p2 a1.l2 a1.c2, .bool b1.n, .slice b1.p b1.l b1.c, .bool b1.m, .slice b1.p2 b1.l2 b1.c2, .bool c1.n, .slice c1.p c1.l c1.c, .bool c1.m, .slice c1.p2 c1.l2 c1.c2] 26)) w14 from hx)
    rw [ev3] at hc
    have Fu1 := zH hc
    clear hc
    clear hx
    refine ⟨_, rfl, (Own.of_ext (tr E10 (tr E11 (tr E12 (tr E13 E14)))).out), ?_⟩
    (try simp only [Act.put, zA, zB, zC])
    refine mV 24 (bs 26 33554431) (Own.of_ext (tr E10 (tr E11 (tr E12 (tr E13 E14)))).out) ?_
    (try simp only [Act.put, zA, zB, zC])
    have o1 := Own.setCells w14 R0 #[.bool u0.n, .slice u0.p u0.l u0.c, .bool u0.m, .slice u0.p2 u0.l2 u0.c2, .bool u1.n, .slice u1.p u1.l u1.c, .bool u1.m, .slice u1.p2 u1.l2 u1.c2]
    have kb1 := (FR0.out.ext (tr E2 (tr E3 (tr E4 (tr E5 (tr E6 (tr E7 (tr E8 (tr E9 (tr E10 (tr E11 (tr E12 (tr E13 E14)))))))))))).out)
    have hs1 : Own R0 wW (w14.setCells R0 0 (#[.bool u0.n, .slice u0.p u0.l u0.c, .bool u0.m, .slice u0.p2 u0.l2 u0.c2, .bool u1.n, .slice u1.p u1.l u1.c, .bool u1.m, .slice u1.p2 u1.l2 u1.c2] : Array Value).toList) := (Own.then_ext' (tr E10 (tr E11 (tr E12 (tr E13 E14)))).out o1)
    refine mO 25 (bs 26 67108863) #[.bool u0.n, .slice u0.p u0.l u0.c, .bool u0.m, .slice u0.p2 u0.l2 u0.c2, .bool u1.n, .slice u1.p u1.l u1.c, .bool u1.m, .slice u1.p2 u1.l2 u1.c2] kb1 (by rw [show (#[.bool u0.n, .slice u0.p u0.l u0.c, .bool u0.m, .slice u0.p2 u0.l2 u0.c2, .bool u1.n, .slice u1.p u1.l u1.c, .bool u1.m, .slice u1.p2 u1.l2 u1.c2] : Array Value).size = 8 from rfl]; rfl) (by rw [show (#[.bool u0.n, .slice u0.p u0.l u0.c, .bool u0.m, .slice u0.p2 u0.l2 u0.c2, .bool u1.n, .slice u1.p u1.l u1.c, .bool u1.m, .slice u1.p2 u1.l2 u1.c2] : Array Value).size = 8 from rfl]; kernel_rfl) (all_oneCell_toArray (by simp [Value.oneCell'])) hs1 ?_
    (try simp only [Act.put])
    have kc1 := kb1.setCells #[.bool u0.n, .slice u0.p u0.l u0.c, .bool u0.m, .slice u0.p2 u0.l2 u0.c2, .bool u1.n, .slice u1.p u1.l u1.c, .bool u1.m, .slice u1.p2 u1.l2 u1.c2] (by rw [show (#[.bool u0.n, .slice u0.p u0.l u0.c, .bool u0.m, .slice u0.p2 u0.l2 u0.c2, .bool u1.n, .slice u1.p u1.l u1.c, .bool u1.m, .slice u1.p2 u1.l2 u1.c2] : Array Value).size = 8 from rfl]; rfl)
    refine wpAnyH_done (by kernel_rfl) ?_ _
    go_wp2_with fail
    refine bodyPost_ret (v := .agg #[.bool u0.n, .slice u0.p u0.l u0.c, .bool u0.m, .slice u0.p2 u0.l2 u0.c2, .bool u1.n, .slice u1.p u1.l u1.c, .bool u1.m, .slice u1.p2 u1.l2 u1.c2]) ?_ rfl ⟨_, rfl, ⟨u0, u1, rfl, ((Fu0.out.ext (tr E13 E14).out).own kb1 (noU_of _ (by simp)) o1), (Fu1.out.own kb1 (noU_of _ (by simp)) o1)⟩, (o1.ext (tr E1 (tr E2 (tr E3 (tr E4 (tr E5 (tr E6 (tr E7 (tr E8 (tr E9 (tr E10 (tr E11 (tr E12 (tr E13 E14))))))))))))).out gR0)⟩
    exact results_cell1 rfl rfl (kc1.loadVar rfl rfl (by rfl))
   ·(try simp only [Act.put, zA, zB, zC])
    have E12 := zH (show Ext (wW.drew.alloc (.cells #[.bool a0.n, .slice a0.p a0.l a0.c, .bool a0.m, .slice a0.p2 a0.l2 a0.c2, .bool b0.n, .slice b0.p b0.l b0.c, .bool b0.m, .slice b0.p2 b0.l2 b0.c2, .bool c0.n, .slice c0.p c0.l c0.c, .bool c0.m, .slice c0.p2 c0.l2 c0.c2] 26)) ((wW.drew.alloc (.cells #[.bool a0.n, .slice a0.p a0.l a0.c, .bool a0.m, .slice a0.p2 a0.l2 a0.c2, .bool b0.n, .slice b0.p b0.l b0.c, .bool b0.m, .slice b0.p2 b0.l2 b0.c2, .bool c0.n, .slice c0.p c0.l c0.c, .bool c0.m, .slice c0.p2 c0.l2 c0.c2] 26)).alloc (.cells #[.bool a1.n, .slice a1.p a1.l a1.c, .bool a1.m, .slice a1.p2 a1.l2 a1.c2, .bool b1.n, .slice b1.p b1.l b1.c, .bool b1.m, .slice b1.p2 b1.l2 b1.c2, .bool c1.n, .slice c1.p c1.l c1.c, .bool c1.m, .slice c1.p2 c1.l2 c1.c2] 26)) from (Ext.refl _).alloc _)
    have Fnb22 := zH (Blk.new (wW.drew.alloc (.cells #[.bool a0.n, .slice a0.p a0.l a0.c, .bool a0.m, .slice a0.p2 a0.l2 a0.c2, .bool b0.n, .slice b0.p b0.l b0.c, .bool b0.m, .slice b0.p2 b0.l2 b0.c2, .bool c0.n, .slice c0.p c0.l c0.c, .bool c0.m, .slice c0.p2 c0.l2 c0.c2] 26)) 26 #[.bool a1.n, .slice a1.p a1.l a1.c, .bool a1.m, .slice a1.p2 a1.l2 a1.c2, .bool b1.n, .slice b1.p b1.l b1.c, .bool b1.m, .slice b1.p2 b1.l2 b1.c2, .bool c1.n, .slice c1.p c1.l c1.c, .bool c1.m, .slice c1.p2 c1.l2 c1.c2])
    refine mC 11 (bs 26 8388607) (rweighted_any (4 * L + 8) _ _ [((((1 : Int) : Rat) - S) * (((1 : Int) : Rat) - S)), (((2 : Int) : Rat) * (S * (((1 : Int) : Rat) - S))), (S * S)] [A0, B0, C0] _ (RatsV.of_blk (rs := [m1, m2, m3]) (FbW.out.ext (tr E10 (tr E11 E12)).out) rfl (in3 ((Fm1.out.ext (tr E5 (tr E6 (tr E7 (tr E8 (tr E9 (tr E10 (tr E11 E12))))))).out).isIn (by omega)) ((Fm2.out.ext (tr E8 (tr E9 (tr E10 (tr E11 E12)))).out).isIn (by omega)) ((Fm3.out.ext (tr E9 (tr E10 (tr E11 E12))).out).isIn (by omega)))) (RatsV.of_blk (rs := [a0, b0, c0]) (Fnb10.out.ext E12.out) rfl (in3 ((Fa0.out.ext (tr E1 (tr E2 (tr E3 (tr E4 (tr E5 (tr E6 (tr E7 (tr E8 (tr E9 (tr E10 (tr E11 E12))))))))))).out).mono (by omega)) ((Fb0.out.ext (tr E1 (tr E2 (tr E3 (tr E4 (tr E5 (tr E6 (tr E7 (tr E8 (tr E9 (tr E10 (tr E11 E12))))))))))).out).mono (by omega)) ((Fc0.out.ext (tr E1 (tr E2 (tr E3 (tr E4 (tr E5 (tr E6 (tr E7 (tr E8 (tr E9 (tr E10 (tr E11 E12))))))))))).out).mono (by omega)))) rfl (by simp) (by omega) (by omega)) ?_
    rintro e w13 ⟨u0, rfl, hc, hx⟩
    have E13 := zH (show Ext ((wW.drew.alloc (.cells #[.bool a0.n, .slice a0.p a0.l a0.c, .bool a0.m, .slice a0.p2 a0.l2 a0.c2, .bool b0.n, .slice b0.p b0.l b0.c, .bool b0.m, .slice b0.p2 b0.l2 b0.c2, .bool c0.n, .slice c0.p c0.l c0.c, .bool c0.m, .slice c0.p2 c0.l2 c0.c2] 26)).alloc (.cells #[.bool a1.n, .slice a1.p a1.l a1.c, .bool a1.m, .slice a1.p2 a1.l2 a1.c2, .bool b1.n, .slice b1.p b1.l b1.c, .bool b1.m, .slice b1.p2 b1.l2 b1.c2, .bool c1.n, .slice c1.p c1.l c1.c, .bool c1.m, .slice c1.p2 c1.l2 c1.c2] 26)) w13 from hx)
    rw [ev3] at hc
    have Fu0 := zH hc
    clear hc
    clear hx
    refine ⟨_, rfl, (Own.of_ext (tr E10 (tr E11 (tr E12 E13))).out), ?_⟩
    (try simp only [Act.put, zA, zB, zC])
    refine mC 23 (bs 26 16777215) (rweighted_any (4 * L + 8) _ _ [((((1 : Int) : Rat) - S) * (((1 : Int) : Rat) - S)), (((2 : Int) : Rat) * (S * (((1 : Int) : Rat) - S))), (S * S)] [A1, B1, C1] _ (RatsV.of_blk (rs := [m1, m2, m3]) (FbW.out.ext (tr E10 (tr E11 (tr E12 E13))).out) rfl (in3 ((Fm1.out.ext (tr E5 (tr E6 (tr E7 (tr E8 (tr E9 (tr E10 (tr E11 (tr E12 E13)))))))).out).isIn (by omega)) ((Fm2.out.ext (tr E8 (tr E9 (tr E10 (tr E11 (tr E12 E13))))).out).isIn (by omega)) ((Fm3.out.ext (tr E9 (tr E10 (tr E11 (tr E12 E13)))).out).isIn (by omega)))) (RatsV.of_blk (rs := [a1, b1, c1]) (Fnb22.out.ext E13.out) rfl (in3 ((Fa1.out.ext (tr E1 (tr E2 (tr E3 (tr E4 (tr E5 (tr E6 (tr E7 (tr E8 (tr E9 (tr E10 (tr E11 (tr E12 E13)))))))))))).out).mono (by omega)) ((Fb1.out.ext (tr E1 (tr E2 (tr E3 (tr E4 (tr E5 (tr E6 (tr E7 (tr E8 (tr E9 (tr E10 (tr E11 (tr E12 E13)))))))))))).out).mono (by omega)) ((Fc1.out.ext (tr E1 (tr E2 (tr E3 (tr E4 (tr E5 (tr E6 (tr E7 (tr E8 (tr E9 (tr E10 (tr E11 (tr E12 E13)))))))))))).out).mono (by omega)))) rfl (by simp) (by omega) (by omega)) ?_
    rintro e w14 ⟨u1, rfl, hc, hx⟩
    have E14 : Hid (Ext w13 w14) := hx
    rw [ev3] at hc
    have Fu1 := zH hc
    clear hc
    clear hx
    refine ⟨_, rfl, (Own.of_ext (tr E10 (tr E11 (tr E12 (tr E13 E14)))).out), ?_⟩
    (try simp only [Act.put, zA, zB, zC])
    refine mV 24 (bs 26 33554431) (Own.of_ext (tr E10 (tr E11 (tr E12 (tr E13 E14)))).out) ?_
    (try simp only [Act.put, zA, zB, zC])
    have o1 := Own.setCells w14 R0 #[.bool u0.n, .slice u0.p u0.l u0.c, .bool u0.m, .slice u0.p2 u0.l2 u0.c2, .bool u1.n, .slice u1.p u1.l u1.c, .bool u1.m, .slice u1.p2 u1.l2 u1.c2]
    have kb1 := (FR0.out.ext (tr E2 (tr E3 (tr E4 (tr E5 (tr E6 (tr E7 (tr E8 (tr E9 (tr E10 (tr E11 (tr E12 (tr E13 E14)))))))))))).out)
    have hs1 : Own R0 wW (w14.setCells R0 0 (#[.bool u0.n, .slice u0.p u0.l u0.c, .bool u0.m, .slice u0.p2 u0.l2 u0.c2, .bool u1.n, .slice u1.p u1.l u1.c, .bool u1.m, .slice u1.p2 u1.l2 u1.c2] : Array Value).toList) := (Own.then_ext' (tr E10 (tr E11 (tr E12 (tr E13 E14)))).out o1)
    refine mO 25 (bs 26 67108863) #[.bool u0.n, .slice u0.p u0.l u0.c, .bool u0.m, .slice u0.p2 u0.l2 u0.c2, .bool u1.n, .slice u1.p u1.l u1.c, .bool u1.m, .slice u1.p2 u1.l2 u1.c2] kb1 (by rw [show (#[.bool u0.n, .slice u0.p u0.l u0.c, .bool u0.m, .slice u0.p2 u0.l2 u0.c2, .bool u1.n, .slice u1.p u1.l u1.c, .bool u1.m, .slice u1.p2 u1.l2 u1.c2] : Array Value).size = 8 from rfl]; rfl) (by rw [show (#[.bool u0.n, .slice u0.p u0.l u0.c, .bool u0.m, .slice u0.p2 u0.l2 u0.c2, .bool u1.n, .slice u1.p u1.l u1.c, .bool u1.m, .slice u1.p2 u1.l2 u1.c2] : Array Value).size = 8 from rfl]; kernel_rfl) (all_oneCell_toArray (by simp [Value.oneCell'])) hs1 ?_
    (try simp only [Act.put])
    have kc1 := kb1.setCells #[.bool u0.n, .slice u0.p u0.l u0.c, .bool u0.m, .slice u0.p2 u0.l2 u0.c2, .bool u1.n, .slice u1.p u1.l u1.c, .bool u1.m, .slice u1.p2 u1.l2 u1.c2] (by rw [show (#[.bool u0.n, .slice u0.p u0.l u0.c, .bool u0.m, .slice u0.p2 u0.l2 u0.c2, .bool u1.n, .slice u1.p u1.l u1.c, .bool u1.m, .slice u1.p2 u1.l2 u1.c2] : Array Value).size = 8 from rfl]; rfl)
    refine wpAnyH_done (by kernel_rfl) ?_ _
    go_wp2_with fail
    refine bodyPost_ret (v := .agg #[.bool u0.n, .slice u0.p u0.l u0.c, .bool u0.m, .slice u0.p2 u0.l2 u0.c2, .bool u1.n, .slice u1.p u1.l u1.c, .bool u1.m, .slice u1.p2 u1.l2 u1.c2]) ?_ rfl ⟨_, rfl, ⟨u0, u1, rfl, ((Fu0.out.ext E14.out).own kb1 (noU_of _ (by simp)) o1), (Fu1.out.own kb1 (noU_of _ (by simp)) o1)⟩, (o1.ext (tr E1 (tr E2 (tr E3 (tr E4 (tr E5 (tr E6 (tr E7 (tr E8 (tr E9 (tr E10 (tr E11 (tr E12 (tr E13 E14))))))))))))).out gR0)⟩
    exact results_cell1 rfl rfl (kc1.loadVar rfl rfl (by rfl))
  ·(try simp only [Act.put, zA, zB, zC])
   have E11 := zH (show Ext wW.drew (wW.drew.alloc (.cells #[.bool a1.n, .slice a1.p a1.l a1.c, .bool a1.m, .slice a1.p2 a1.l2 a1.c2, .bool b1.n, .slice b1.p b1.l b1.c, .bool b1.m, .slice b1.p2 b1.l2 b1.c2, .bool c1.n, .slice c1.p c1.l c1.c, .bool c1.m, .slice c1.p2 c1.l2 c1.c2] 26)) from (Ext.refl _).alloc _)
   have Fnb22 := zH (Blk.new wW.drew 26 #[.bool a1.n, .slice a1.p a1.l a1.c, .bool a1.m, .slice a1.p2 a1.l2 a1.c2, .bool b1.n, .slice b1.p b1.l b1.c, .bool b1.m, .slice b1.p2 b1.l2 b1.c2, .bool c1.n, .slice c1.p c1.l c1.c, .bool c1.m, .slice c1.p2 c1.l2 c1.c2])
   refine mU 10 (bs 26 8386559) (v := .slice (some ⟨(wW.drew.alloc (.cells #[.bool a1.n, .slice a1.p a1.l a1.c, .bool a1.m, .slice a1.p2 a1.l2 a1.c2, .bool b1.n, .slice b1.p b1.l b1.c, .bool b1.m, .slice b1.p2 b1.l2 b1.c2, .bool c1.n, .slice c1.p c1.l c1.c, .bool c1.m, .slice c1.p2 c1.l2 c1.c2] 26)).heap.size, 0, none⟩) 3 3) (w' := ((wW.drew.alloc (.cells #[.bool a1.n, .slice a1.p a1.l a1.c, .bool a1.m, .slice a1.p2 a1.l2 a1.c2, .bool b1.n, .slice b1.p b1.l b1.c, .bool b1.m, .slice b1.p2 b1.l2 b1.c2, .bool c1.n, .slice c1.p c1.l c1.c, .bool c1.m, .slice c1.p2 c1.l2 c1.c2] 26)).alloc (.cells #[.bool a0.n, .slice a0.p a0.l a0.c, .bool a0.m, .slice a0.p2 a0.l2 a0.c2, .bool b0.n, .slice b0.p b0.l b0.c, .bool b0.m, .slice b0.p2 b0.l2 b0.c2, .bool c0.n, .slice c0.p c0.l c0.c, .bool c0.m, .slice c0.p2 c0.l2 c0.c2] 26))) (Own.of_ext ((tr E10 E11).out.alloc _)) ?_
   (try simp only [Act.put, zA, zB, zC])
   have E12 := zH (show Ext (wW.drew.alloc (.cells #[.bool a1.n, .slice a1.p a1.l a1.c, .bool a1.m, .slice a1.p2 a1.l2 a1.c2, .bool b1.n, .slice b1.p b1.l b1.c, .bool b1.m, .slice b1.p2 b1.l2 b1.c2, .bool c1.n, .slice c1.p c1.l c1.c, .bool c1.m, .slice c1.p2 c1.l2 c1.c2] 26)) ((wW.drew.alloc (.cells #[.bool a1.n, .slice a1.p a1.l a1.c, .bool a1.m, .slice a1.p2 a1.l2 a1.c2, .bool b1.n, .slice b1.p b1.l b1.c, .bool b1.m, .slice b1.p2 b1.l2 b1.c2, .bool c1.n, .slice c1.p c1.l c1.c, .bool c1.m, .slice c1.p2 c1.l2 c1.c2] 26)).alloc (.cells #[.bool a0.n, .slice a0.p a0.l a0.c, .bool a0.m, .slice a0.p2 a0.l2 a0.c2, .bool b0.n, .slice b0.p b0.l b0.c, .bool b0.m, .slice b0.p2 b0.l2 b0.c2, .bool c0.n, .slice c0.p c0.l c0.c, .bool c0.m, .slice c0.p2 c0.l2 c0.c2] 26)) from (Ext.refl _).alloc _)
   have Fnb10 := zH (Blk.new (wW.drew.alloc (.cells #[.bool a1.n, .slice a1.p a1.l a1.c, .bool a1.m, .slice a1.p2 a1.l2 a1.c2, .bool b1.n, .slice b1.p b1.l b1.c, .bool b1.m, .slice b1.p2 b1.l2 b1.c2, .bool c1.n, .slice c1.p c1.l c1.c, .bool c1.m, .slice c1.p2 c1.l2 c1.c2] 26)) 26 #[.bool a0.n, .slice a0.p a0.l a0.c, .bool a0.m, .slice a0.p2 a0.l2 a0.c2, .bool b0.n, .slice b0.p b0.l b0.c, .bool b0.m, .slice b0.p2 b0.l2 b0.c2, .bool c0.n, .slice c0.p c0.l c0.c, .bool c0.m, .slice c0.p2 c0.l2 c0.c2])
   refine mC 11 (bs 26 8388607) (rweighted_any (4 * L + 8) _ _ [((((1 : Int) : Rat) - S) * (((1 : Int) : Rat) - S)), (((2 : Int) : Rat) * (S * (((1 : Int) : Rat) - S))), (S * S)] [A0, B0, C0] _ (RatsV.of_blk (rs := [m1, m2, m3]) (FbW.out.ext (tr E10 (tr E11 E12)).out) rfl (in3 ((Fm1.out.ext (tr E5 (tr E6 (tr E7 (tr E8 (tr E9 (tr E10 (tr E11 E12))))))).out).isIn (by omega)) ((Fm2.out.ext (tr E8 (tr E9 (tr E10 (tr E11 E12)))).out).isIn (by omega)) ((Fm3.out.ext (tr E9 (tr E10 (tr E11 E12))).out).isIn (by omega)))) (RatsV.of_blk (rs := [a0, b0, c0]) Fnb10.out rfl (in3 ((Fa0.out.ext (tr E1 (tr E2 (tr E3 (tr E4 (tr E5 (tr E6 (tr E7 (tr E8 (tr E9 (tr E10 (tr E11 E12))))))))))).out).mono (by omega)) ((Fb0.out.ext (tr E1 (tr E2 (tr E3 (tr E4 (tr E5 (tr E6 (tr E7 (tr E8 (tr E9 (tr E10 (tr E11 E12))))))))))).out).mono (by omega)) ((Fc0.out.ext (tr E1 (tr E2 (tr E3 (tr E4 (tr E5 (tr E6 (tr E7 (tr E8 (tr E9 (tr E10 (tr E11 E12))))))))))).out).mono (by omega)))) rfl (by simp) (by omega) (by omega)) ?_
   rintro e w13 ⟨u0, rfl, hc, hx⟩
   have E13 := zH (show Ext ((wW.drew.alloc (.cells #[.bool a1.n, .slice a1.p a1.l a1.c, .bool a1.m, .slice a1.p2 a1.l2 a1.c2, .bool b1.n, .slice b1.p b1.l b1.c, .bool b1.m, .slice b1.p2 b1.l2 b1.c2, .bool c1.n, .slice c1.p c1.l c1.c, .bool c1.m, .slice c1.p2 c1.l2 c1.c2] 26)).alloc (.cells #[.bool a0.n, .slice a0.p a0.l a0.c, .bool a0.m, .slice a0.p2 a0.l2 a0.c2, .bool b0.n, .slice b0.p b0.l b0.c, .bool b0.m, .slice b0.p2 b0.l2 b0.c2, .bool c0.n, .slice c0.p c0.l c0.c, .bool c0.m, .slice c0.p2 c0.l2 c0.c2] 26)) w13 from hx)
   rw [ev3] at hc
   have Fu0 := zH hc
   clear hc
   clear hx
   refine ⟨_, rfl, (Own.of_ext (tr E10 (tr E11 (tr E12 E13))).out), ?_⟩
   (try simp only [Act.put, zA, zB, zC])
   refine mC 23 (bs 26 16777215) (rweighted_any (4 * L + 8) _ _ [((((1 : Int) : Rat) - S) * (((1 : Int) : Rat) - S)), (((2 : Int) : Rat) * (S * (((1 : Int) : Rat) - S))), (S * S)] [A1, B1, C1] _ (RatsV.of_blk (rs := [m1, m2, m3]) (FbW.out.ext (tr E10 (tr E11 (tr E12 E13))).out) rfl (in3 ((Fm1.out.ext (tr E5 (tr E6 (tr E7 (tr E8 (tr E9 (tr E10 (tr E11 (tr E12 E13)))))))).out).isIn (by omega)) ((Fm2.out.ext (tr E8 (tr E9 (tr E10 (tr E11 (tr E12 E13))))).out).isIn (by omega)) ((Fm3.out.ext (tr E9 (tr E10 (tr E11 (tr E12 E13)))).out).isIn (by omega)))) (RatsV.of_blk (rs := [a1, b1, c1]) (Fnb22.out.ext (tr E12 E13).out) rfl (in3 ((Fa1.out.ext (tr E1 (tr E2 (tr E3 (tr E4 (tr E5 (tr E6 (tr E7 (tr E8 (tr E9 (tr E10 (tr E11 (tr E12 E13)))))))))))).out).mono (by omega)) ((Fb1.out.ext (tr E1 (tr E2 (tr E3 (tr E4 (tr E5 (tr E6 (tr E7 (tr E8 (tr E9 (tr E10 (tr E11 (tr E12 E13)))))))))))).out).mono (by omega)) ((Fc1.out.ext (tr E1 (tr E2 (tr E3 (tr E4 (tr E5 (tr E6 (tr E7 (tr E8 (tr E9 (tr E10 (tr E11 (tr E12 E13)))))))))))).out).mono (by omega)))) rfl (by simp) (by omega) (by omega)) ?_
   rintro e w14 ⟨u1, rfl, hc, hx⟩
   have E14 : Hid (Ext w13 w14) := hx
   rw [ev3] at hc
   have Fu1 := zH hc
   clear hc
   clear hx
   refine ⟨_, rfl, (Own.of_ext (tr E10 (tr E11 (tr E12 (tr E13 E14)))).out), ?_⟩
   (try simp only [Act.put, zA, zB, zC])
   refine mV 24 (bs 26 33554431) (Own.of_ext (tr E10 (tr E11 (tr E12 (tr E13 E14)))).out) ?_
   (try simp only [Act.put, zA, zB, zC])
   have o1 := Own.setCells w14 R0 #[.bool u0.n, .slice u0.p u0.l u0.c, .bool u0.m, .slice u0.p2 u0.l2 u0.c2, .bool u1.n, .slice u1.p u1.l u1.c, .bool u1.m, .slice u1.p2 u1.l2 u1.c2]
   have kb1 := (FR0.out.ext (tr E2 (tr E3 (tr E4 (tr E5 (tr E6 (tr E7 (tr E8 (tr E9 (tr E10 (tr E11 (tr E12 (tr E13 E14)))))))))))).out)
   have hs1 : Own R0 wW (w14.setCells R0 0 (#[.bool u0.n, .slice u0.p u0.l u0.c, .bool u0.m, .slice u0.p2 u0.l2 u0.c2, .bool u1.n, .slice u1.p u1.l u1.c, .bool u1.m, .slice u1.p2 u1.l2 u1.c2] : Array Value).toList) := (Own.then_ext' (tr E10 (tr E11 (tr E12 (tr E13 E14)))).out o1)
   refine mO 25 (bs 26 67108863) #[.bool u0.n, .slice u0.p u0.l u0.c, .bool u0.m, .slice u0.p2 u0.l2 u0.c2, .bool u1.n, .slice u1.p u1.l u1.c, .bool u1.m, .slice u1.p2 u1.l2 u1.c2] kb1 (by rw [show (#[.bool u0.n, .slice u0.p u0.l u0.c, .bool u0.m, .slice u0.p2 u0.l2 u0.c2, .bool u1.n, .slice u1.p u1.l u1.c, .bool u1.m, .slice u1.p2 u1.l2 u1.c2] : Array Value).size = 8 from rfl]; rfl) (by rw [show (#[.bool u0.n, .slice u0.p u0.l u0.c, .bool u0.m, .slice u0.p2 u0.l2 u0.c2, .bool u1.n, .slice u1.p u1.l u1.c, .bool u1.m, .slice u1.p2 u1.l2 u1.c2] : Array Value).size = 8 from rfl]; kernel_rfl) (all_oneCell_toArray (by simp [Value.oneCell'])) hs1 ?_
   (try simp only [Act.put])
   have kc1 := kb1.setCells #[.bool u0.n, .slice u0.p u0.l u0.c, .bool u0.m, .slice u0.p2 u0.l2 u0.c2, .bool u1.n, .slice u1.p u1.l u1.c, .bool u1.m, .slice u1.p2 u1.l2 u1.c2] (by rw [show (#[.bool u0.n, .slice u0.p u0.l u0.c, .bool u0.m, .slice u0.p2 u0.l2 u0.c2, .bool u1.n, .slice u1.p u1.l u1.c, .bool u1.m, .slice u1.p2 u1.l2 u1.c2] : Array Value).size = 8 from rfl]; rfl)
   refine wpAnyH_done (by kernel_rfl) ?_ _
   go_wp2_with fail
   refine bodyPost_ret (v := .agg #[.bool u0.n, .slice u0.p u0.l u0.c, .bool u0.m, .slice u0.p2 u0.l2 u0.c2, .bool u1.n, .slice u1.p u1.l u1.c, .bool u1.m, .slice u1.p2 u1.l2 u1.c2]) ?_ rfl ⟨_, rfl, ⟨u0, u1, rfl, ((Fu0.out.ext E14.out).own kb1 (noU_of _ (by simp)) o1), (Fu1.out.own kb1 (noU_of _ (by simp)) o1)⟩, (o1.ext (tr E1 (tr E2 (tr E3 (tr E4 (tr E5 (tr E6 (tr E7 (tr E8 (tr E9 (tr E10 (tr E11 (tr E12 (tr E13 E14))))))))))))).out gR0)⟩
   exact results_cell1 rfl rfl (kc1.loadVar rfl rfl (by rfl))

end Go.Proofs.YtllpkoinjompcaaGreat

namespace Go.Proofs.YtllpkoinjompcaaGreat
open Go.RowKit
attribute [local go_sem ↓] Go.wp_at_zero Go.wp_at_succ run_max_ii run_min_ii

theorem n03CmpS {L : Nat} {w : World} {cs ct : Array Value} {q r : Rat} {s : Int} (hs : s = rcmp q r) (hp : NIn L w cs q) (hq : NIn L w ct r) (hL : L ≤ 60000) :
    Calls Tryz.prog 78 #[.agg cs, .agg ct] w fun e w' => e = .returned (.int .i64 s) ∧ Ext w w' := by
  subst hs
  obtain ⟨a, rfl, h1⟩ := hp
  obtain ⟨b, rfl, h2⟩ := hq
  exact r3cmp_any _ _ _ _ _ _ _ _ L q r w h1 h2 (by omega)
theorem n03Sub {L : Nat} {w : World} {cs ct : Array Value} {q r : Rat} (hp : NIn L w cs q) (hq : NIn L w ct r) (hL : L ≤ 60000) :
    Calls Tryz.prog 35 #[.agg cs, .agg ct] w fun e w' => ∃ c, e = .returned (.agg c) ∧ NIs w' c (q - r) ∧ Ext w w' := by
  obtain ⟨a, rfl, h1⟩ := hp
  obtain ⟨b, rfl, h2⟩ := hq
  refine (r3sub_any _ _ _ _ _ _ _ _ L q r w h1 h2 (by omega)).mono fun e w' h => ?_
  obtain ⟨c, rfl, h3, h4⟩ := RetR.v h
  exact ⟨_, rfl, ⟨c, rfl, h3⟩, h4⟩
theorem RowN.made {w : World} {X base : Nat} {e : TypeId} {xs : List Value} {n size : Nat} (hb : Blk w X e xs.toArray) (hg : base ≤ X) (hl : xs.length = n * size) (hn : NoUL xs) (hm : n ≤ maxLen) : RowN w base e size (.slice (some ⟨X, 0, none⟩) n n) n xs :=
  ⟨hl, .inr ⟨X, n, [], rfl, hg, by rw [List.append_nil]; exact hb, Nat.le_refl _, hm, by simpa using hl, by rw [List.append_nil]; exact hn⟩⟩
theorem in2 {L : Nat} {w : World} {a b : RV} {p q : Rat} (h0 : a.In L w p) (h1 : b.In L w q) : ∀ i, i < [p, q].length → ([a, b].getD i RV.zero).In L w ([p, q].getD i 0) := by
  intro i hi
  match i, hi with
  | 0, _ => exact h0
  | 1, _ => exact h1
def qVals (a b c : Rat) : List Rat := if 0 < qTop a b c ∧ qTop a b c < 1 then [a, c, quadV a b c (qTop a b c)] else [a, c]
theorem qVals_lo (a b c : Rat) : boxLo (qVals a b c) = quadLo a b c := by unfold qVals quadLo; split <;> rfl
theorem qVals_hi (a b c : Rat) : boxHi (qVals a b c) = quadHi a b c := by unfold qVals quadHi; split <;> rfl
theorem qVals_length (a b c : Rat) : 0 < (qVals a b c).length ∧ (qVals a b c).length ≤ 50 := by unfold qVals; split <;> simp
theorem qVals_in {a b c : Rat} (h : 0 < qTop a b c ∧ qTop a b c < 1) : qVals a b c = [a, c, quadV a b c ((a - b) / ((a - b) + (c - b)))] := if_pos h
theorem qVals_out {a b c : Rat} (h : ¬ (0 < qTop a b c ∧ qTop a b c < 1)) : qVals a b c = [a, c] := if_neg h
theorem den_eq (a b c : Rat) : (a - b) - (b - c) = (a - b) + (c - b) := by grind
theorem NIn.mk {L : Nat} {w : World} {a : RV} {q : Rat} (h : a.In L w q) : NIn L w #[.bool a.n, .slice a.p a.l a.c, .bool a.m, .slice a.p2 a.l2 a.c2] q := ⟨a, rfl, h⟩
set_option maxRecDepth 20000 in
set_option maxHeartbeats 8000000 in
theorem qvals0_any (L : Nat) (cp : Array Value) (A0 A1 B0 B1 C0 C1 : Rat) (w : World) (hP : Q3In L w cp A0 A1 B0 B1 C0 C1) (h1 : 1 ≤ L) (hL : L ≤ 15) :
  Calls Tryz.prog 49 #[.agg cp, .int .i64 0] w fun e w' => ∃ v, e = .returned v ∧ RatsV (16 * (6 * L + 8) + 10) w' v (qVals A0 B0 C0) ∧ Ext w w' := by
 have hq := hP
 obtain ⟨a0, a1, b0, b1, c0, c1, rfl, ha0, ha1, hb0, hb1, hc0, hc1⟩ := hP
 obtain ⟨i0, hi, hz0, hz1, hz2⟩ := info_parts infoRat
 have HI := zH (And.intro hi (And.intro hz0 (And.intro hz1 hz2)))
 clear hi hz0 hz1 hz2
 have ra0 : Nm.rl A0 ≤ L := by have := ha0.rl; omega
 have Fa0 := zH ha0
 have ra1 : Nm.rl A1 ≤ L := by have := ha1.rl; omega
 have Fa1 := zH ha1
 have rb0 : Nm.rl B0 ≤ L := by have := hb0.rl; omega
 have Fb0 := zH hb0
 have rb1 : Nm.rl B1 ≤ L := by have := hb1.rl; omega
 have Fb1 := zH hb1
 have rc0 : Nm.rl C0 ≤ L := by have := hc0.rl; omega
 have Fc0 := zH hc0
 have rc1 : Nm.rl C1 ≤ L := by have := hc1.rl; omega
 have Fc1 := zH hc1
 have FP := zH hq
 clear ha0 ha1 hb0 hb1 hc0 hc1 hq
 have rz := rlI 0 (by decide)
 have ro := rlI 1 (by decide)
 have rfa := Nm.rl_sub A0 B0
 have rfc := Nm.rl_sub C0 B0
 have rfd := Nm.rl_sub B0 C0
 have rde := Nm.rl_add (A0 - B0) (C0 - B0)
 have rto := Nm.rl_div (A0 - B0) ((A0 - B0) + (C0 - B0))
 have rev := rl_quadV3 (a := A0) (b := B0) (c := C0) (t := ((A0 - B0) / ((A0 - B0) + (C0 - B0)))) (L := 6 * L + 8) (by omega) (by omega) (by omega) (by omega)
 go_enter Tryz.func49, Tryz.ntmps49
 go_upto_region 1 with fail
 have hbx0 : Blk (w.alloc (.cells #[.bool a0.n, .slice a0.p a0.l a0.c, .bool a0.m, .slice a0.p2 a0.l2 a0.c2, .bool a1.n, .slice a1.p a1.l a1.c, .bool a1.m, .slice a1.p2 a1.l2 a1.c2, .bool b0.n, .slice b0.p b0.l b0.c, .bool b0.m, .slice b0.p2 b0.l2 b0.c2, .bool b1.n, .slice b1.p b1.l b1.c, .bool b1.m, .slice b1.p2 b1.l2 b1.c2, .bool c0.n, .slice c0.p c0.l c0.c, .bool c0.m, .slice c0.p2 c0.l2 c0.c2, .bool c1.n, .slice c1.p c1.l c1.c, .bool c1.m, .slice c1.p2 c1.l2 c1.c2] 32)) (w.heap.size) 32 #[.bool a0.n, .slice a0.p a0.l a0.c, .bool a0.m, .slice a0.p2 a0.l2 a0.c2, .bool a1.n, .slice a1.p a1.l a1.c, .bool a1.m, .slice a1.p2 a1.l2 a1.c2, .bool b0.n, .slice b0.p b0.l b0.c, .bool b0.m, .slice b0.p2 b0.l2 b0.c2, .bool b1.n, .slice b1.p b1.l b1.c, .bool b1.m, .slice b1.p2 b1.l2 b1.c2, .bool c0.n, .slice c0.p c0.l c0.c, .bool c0.m, .slice c0.p2 c0.l2 c0.c2, .bool c1.n, .slice c1.p c1.l c1.c, .bool c1.m, .slice c1.p2 c1.l2 c1.c2] := Blk.ext (Blk.new_at w _ (by simp) _ _) (Ext.refl _)
 have hE : Ext w (w.alloc (.cells #[.bool a0.n, .slice a0.p a0.l a0.c, .bool a0.m, .slice a0.p2 a0.l2 a0.c2, .bool a1.n, .slice a1.p a1.l a1.c, .bool a1.m, .slice a1.p2 a1.l2 a1.c2, .bool b0.n, .slice b0.p b0.l b0.c, .bool b0.m, .slice b0.p2 b0.l2 b0.c2, .bool b1.n, .slice b1.p b1.l b1.c, .bool b1.m, .slice b1.p2 b1.l2 b1.c2, .bool c0.n, .slice c0.p c0.l c0.c, .bool c0.m, .slice c0.p2 c0.l2 c0.c2, .bool c1.n, .slice c1.p c1.l c1.c, .bool c1.m, .slice c1.p2 c1.l2 c1.c2] 32)) := ((Ext.refl _).alloc _)
 generalize (w.alloc (.cells #[.bool a0.n, .slice a0.p a0.l a0.c, .bool a0.m, .slice a0.p2 a0.l2 a0.c2, .bool a1.n, .slice a1.p a1.l a1.c, .bool a1.m, .slice a1.p2 a1.l2 a1.c2, .bool b0.n, .slice b0.p b0.l b0.c, .bool b0.m, .slice b0.p2 b0.l2 b0.c2, .bool b1.n, .slice b1.p b1.l b1.c, .bool b1.m, .slice b1.p2 b1.l2 b1.c2, .bool c0.n, .slice c0.p c0.l c0.c, .bool c0.m, .slice c0.p2 c0.l2 c0.c2, .bool c1.n, .slice c1.p c1.l c1.c, .bool c1.m, .slice c1.p2 c1.l2 c1.c2] 32)) = wa at *
 have E1 : Hid (Ext w wa) := hE
 have Fbx0 := zH hbx0
 clear hE hbx0
 refine wp_region_held_drew (S := fun x => Ext wa x) (by kernel_rfl) (Ext.refl _).drew (fun _ => ?_)
 have E2 := zH (show Ext wa wa.drew from (Ext.refl _).drew)
 refine mV 0 (bs 10 1) E2.out ?_
 (try simp only [Act.put, zA, zB, zC])
 refine mV 1 (bs 10 3) E2.out ?_
 (try simp only [Act.put, zA, zB, zC])
 refine mV 2 (bs 10 7) E2.out ?_
 refine mR 3 (bs 10 15) w.heap.size 0 [.bool a0.n, .slice a0.p a0.l a0.c, .bool a0.m, .slice a0.p2 a0.l2 a0.c2] (fun x hx => ((Fbx0.out).ext hx).part 0 4) Tryz.underlying26 E2.out ?_
 (try simp only [Act.put, zA, zB, zC])
 refine mV 4 (bs 10 31) E2.out ?_
 (try simp only [Act.put, zA, zB, zC])
 refine mV 5 (bs 10 63) E2.out ?_
 (try simp only [Act.put, zA, zB, zC])
 refine mV 6 (bs 10 127) E2.out ?_
 refine mR 7 (bs 10 255) w.heap.size 16 [.bool c0.n, .slice c0.p c0.l c0.c, .bool c0.m, .slice c0.p2 c0.l2 c0.c2] (fun x hx => ((Fbx0.out).ext hx).part 16 4) Tryz.underlying26 E2.out ?_
 (try simp only [Act.put, zA, zB, zC])
 refine mU 8 (bs 10 511) (v := .slice (some ⟨wa.drew.heap.size, 0, none⟩) 2 2) (w' := (wa.drew.alloc (.cells #[.bool a0.n, .slice a0.p a0.l a0.c, .bool a0.m, .slice a0.p2 a0.l2 a0.c2, .bool c0.n, .slice c0.p c0.l c0.c, .bool c0.m, .slice c0.p2 c0.l2 c0.c2] 26))) (E2.out.alloc _) ?_
 (try simp only [Act.put, zA, zB, zC])
 have E3 := zH (show Ext wa.drew (wa.drew.alloc (.cells #[.bool a0.n, .slice a0.p a0.l a0.c, .bool a0.m, .slice a0.p2 a0.l2 a0.c2, .bool c0.n, .slice c0.p c0.l c0.c, .bool c0.m, .slice c0.p2 c0.l2 c0.c2] 26)) from (Ext.refl _).alloc _)
 have Fnb8 := zH (Blk.new wa.drew 26 #[.bool a0.n, .slice a0.p a0.l a0.c, .bool a0.m, .slice a0.p2 a0.l2 a0.c2, .bool c0.n, .slice c0.p c0.l c0.c, .bool c0.m, .slice c0.p2 c0.l2 c0.c2])
 refine mV 9 (bs 10 1023) (tr E2 E3).out ?_
 (try simp only [Act.put, zA, zB, zC])
 refine wpAnyH_done (by kernel_rfl) ?_ _
 have hgl : w.heap.size ≤ wa.heap.size := ((tr E1 E2).out).size
 generalize (wa.drew.alloc (.cells #[.bool a0.n, .slice a0.p a0.l a0.c, .bool a0.m, .slice a0.p2 a0.l2 a0.c2, .bool c0.n, .slice c0.p c0.l c0.c, .bool c0.m, .slice c0.p2 c0.l2 c0.c2] 26)) = wL at *
 have hFb : Blk wL wa.heap.size 26 #[.bool a0.n, .slice a0.p a0.l a0.c, .bool a0.m, .slice a0.p2 a0.l2 a0.c2, .bool c0.n, .slice c0.p c0.l c0.c, .bool c0.m, .slice c0.p2 c0.l2 c0.c2] := Fnb8.out
 (try simp only [World.size_drew])
 generalize wa.heap.size = XL at *
 have FbL := zH hFb
 clear hFb
 go_upto_region 2 with fail
 go_cut [6] (fun s wx => ∃ (X8 : Nat) (c8 : Array Value), s = .pointer (some ⟨X8, 0, none⟩) ∧ NIs wx c8 (A0 - B0) ∧ Blk wx X8 26 c8 ∧ Ext wL wx)
 case first =>
  refine wp_region_held_drew (S := fun x => Ext wL x) (by kernel_rfl) (Ext.refl _).drew (fun _ => ?_)
  have E4 := zH (show Ext wL wL.drew from (Ext.refl _).drew)
  refine mV 0 (bs 11 1) E4.out ?_
  (try simp only [Act.put, zA, zB, zC])
  refine mV 1 (bs 11 3) E4.out ?_
  (try simp only [Act.put, zA, zB, zC])
  refine mV 2 (bs 11 7) E4.out ?_
  refine mR 3 (bs 11 15) w.heap.size 0 [.bool a0.n, .slice a0.p a0.l a0.c, .bool a0.m, .slice a0.p2 a0.l2 a0.c2] (fun x hx => (((Fbx0.out.ext (tr E2 E3).out)).ext hx).part 0 4) Tryz.underlying26 E4.out ?_
  (try simp only [Act.put, zA, zB, zC])
  refine mV 4 (bs 11 31) E4.out ?_
  (try simp only [Act.put, zA, zB, zC])
  refine mV 5 (bs 11 63) E4.out ?_
  (try simp only [Act.put, zA, zB, zC])
  refine mV 6 (bs 11 127) E4.out ?_
  refine mR 7 (bs 11 255) w.heap.size 8 [.bool b0.n, .slice b0.p b0.l b0.c, .bool b0.m, .slice b0.p2 b0.l2 b0.c2] (fun x hx => (((Fbx0.out.ext (tr E2 E3).out)).ext hx).part 8 4) Tryz.underlying26 E4.out ?_
  (try simp only [Act.put, zA, zB, zC])
  refine mB 8 9 (bs 11 511) (bs 11 767) (u := .pointer (some ⟨wL.drew.heap.size, 0, none⟩)) (wj := (wL.drew.alloc (.cells z4 26))) (n03Sub (L := L) (NIn.mk (Fa0.out.ext (tr E1 (tr E2 (tr E3 E4))).out)) (NIn.mk (Fb0.out.ext (tr E1 (tr E2 (tr E3 E4))).out)) (by omega)) (E4.out.alloc _) ?_ ?_
  ·rintro e w5 ⟨cf, rfl, hc, hx⟩
   have E5 : Hid (Ext wL.drew w5) := hx
   have FFA := zH hc
   have Z_cf := hc.size
   have O_cf := hc.one
   clear hc
   clear hx
   refine ⟨_, rfl, (tr E4 E5).out, ?_⟩
   (try simp only [Act.put, zA, zB, zC])
   refine mU 9 (bs 11 1023) (v := .pointer (some ⟨w5.heap.size, 0, none⟩)) (w' := (w5.alloc (.cells z4 26))) ((tr E4 E5).out.alloc _) ?_
   (try simp only [Act.put, zA, zB, zC])
   have E6 := zH (show Ext w5 (w5.alloc (.cells z4 26)) from (Ext.refl _).alloc _)
   have Fnb9 := zH (Blk.new w5 26 z4)
   have hbx := Fnb9.out
   have ob := Own.setCells (w5.alloc (.cells z4 26)) w5.heap.size cf
   have hgb : wL.heap.size ≤ w5.heap.size := (tr E4 E5).out.size
   have hS8 : Ext wL ((w5.alloc (.cells z4 26)).setCells w5.heap.size 0 (cf : Array Value).toList) := ob.ext (tr E4 (tr E5 E6)).out hgb
   refine mO 10 (bs 11 2047) cf hbx (Eq.trans Z_cf rfl) (by rw [show (cf : Array Value).size = 4 from Z_cf]; kernel_rfl) O_cf hS8 ?_
   (try simp only [Act.put])
   refine wpAnyH_done (by kernel_rfl) ?_ _
   go_wp2_with fail
   go_meet
   exact ⟨_, _, rfl, ((FFA.out.ext E6.out)).map (fun r q h => h.own hbx (noU_of _ (by simp)) ob), hbx.setCells cf (Eq.trans Z_cf rfl), hS8⟩
  ·(try simp only [Act.put, zA, zB, zC])
   have E5 := zH (show Ext wL.drew (wL.drew.alloc (.cells z4 26)) from (Ext.refl _).alloc _)
   have Fnb9 := zH (Blk.new wL.drew 26 z4)
   refine mC 8 (bs 11 1023) (n03Sub (L := L) (NIn.mk (Fa0.out.ext (tr E1 (tr E2 (tr E3 (tr E4 E5)))).out)) (NIn.mk (Fb0.out.ext (tr E1 (tr E2 (tr E3 (tr E4 E5)))).out)) (by omega)) ?_
   rintro e w6 ⟨cf, rfl, hc, hx⟩
   have E6 := zH (show Ext (wL.drew.alloc (.cells z4 26)) w6 from hx)
   have FFA := zH hc
   have Z_cf := hc.size
   have O_cf := hc.one
   clear hc
   clear hx
   refine ⟨_, rfl, (tr E4 (tr E5 E6)).out, ?_⟩
   (try simp only [Act.put, zA, zB, zC])
   have hbx := (Fnb9.out.ext E6.out)
   have ob := Own.setCells w6 wL.drew.heap.size cf
   have hgb : wL.heap.size ≤ wL.drew.heap.size := E4.out.size
   have hS8 : Ext wL (w6.setCells wL.drew.heap.size 0 (cf : Array Value).toList) := ob.ext (tr E4 (tr E5 E6)).out hgb
   refine mO 10 (bs 11 2047) cf hbx (Eq.trans Z_cf rfl) (by rw [show (cf : Array Value).size = 4 from Z_cf]; kernel_rfl) O_cf hS8 ?_
   (try simp only [Act.put])
   refine wpAnyH_done (by kernel_rfl) ?_ _
   go_wp2_with fail
   go_meet
   exact ⟨_, _, rfl, (FFA.out).map (fun r q h => h.own hbx (noU_of _ (by simp)) ob), hbx.setCells cf (Eq.trans Z_cf rfl), hS8⟩
 case rest =>
  obtain ⟨Xcfa, cfa, rfl, hfa, hb8, hx⟩ := hcut
  generalize wc = wv at *
  have E4 : Hid (Ext wL wv) := hx
  have Zcfa := hfa.size
  have Ocfa := hfa.one
  have FFA := zH hfa
  have Fbcfa := zH hb8
  clear hfa hb8 hx
  go_upto_region 3 with fail
  go_cut [7] (fun s wx => ∃ (X8 : Nat) (c8 : Array Value), s = .pointer (some ⟨X8, 0, none⟩) ∧ NIs wx c8 ((A0 - B0) + (C0 - B0)) ∧ Blk wx X8 26 c8 ∧ Ext wv wx)
  case first =>
   refine wp_region_held_drew (S := fun x => Ext wv x) (by kernel_rfl) (Ext.refl _).drew (fun _ => ?_)
   have E5 := zH (show Ext wv wv.drew from (Ext.refl _).drew)
   refine mL 0 (bs 13 1) (fun x hx => (Fbcfa.out).ext hx) Tryz.underlying26 (by rw [show (cfa : Array Value).size = 4 from Zcfa]; kernel_rfl) E5.out ?_
   (try simp only [Act.put, zA, zB, zC])
   refine mV 1 (bs 13 3) E5.out ?_
   (try simp only [Act.put, zA, zB, zC])
   refine mV 2 (bs 13 7) E5.out ?_
   (try simp only [Act.put, zA, zB, zC])
   refine mV 3 (bs 13 15) E5.out ?_
   refine mR 4 (bs 13 31) w.heap.size 8 [.bool b0.n, .slice b0.p b0.l b0.c, .bool b0.m, .slice b0.p2 b0.l2 b0.c2] (fun x hx => (((Fbx0.out.ext (tr E2 (tr E3 E4)).out)).ext hx).part 8 4) Tryz.underlying26 E5.out ?_
   (try simp only [Act.put, zA, zB, zC])
   refine mV 5 (bs 13 63) E5.out ?_
   (try simp only [Act.put, zA, zB, zC])
   refine mV 6 (bs 13 127) E5.out ?_
   (try simp only [Act.put, zA, zB, zC])
   refine mV 7 (bs 13 255) E5.out ?_
   refine mR 8 (bs 13 511) w.heap.size 16 [.bool c0.n, .slice c0.p c0.l c0.c, .bool c0.m, .slice c0.p2 c0.l2 c0.c2] (fun x hx => (((Fbx0.out.ext (tr E2 (tr E3 E4)).out)).ext hx).part 16 4) Tryz.underlying26 E5.out ?_
   (try simp only [Act.put, zA, zB, zC])
   refine mB 9 11 (bs 13 1023) (bs 13 2559) (u := .pointer (some ⟨wv.drew.heap.size, 0, none⟩)) (wj := (wv.drew.alloc (.cells z4 26))) (n03Sub (L := L) (NIn.mk (Fb0.out.ext (tr E1 (tr E2 (tr E3 (tr E4 E5)))).out)) (NIn.mk (Fc0.out.ext (tr E1 (tr E2 (tr E3 (tr E4 E5)))).out)) (by omega)) (E5.out.alloc _) ?_ ?_
   ·rintro e w6 ⟨cg, rfl, hc, hx⟩
    have E6 : Hid (Ext wv.drew w6) := hx
    have FFC := zH hc
    have Z_cg := hc.size
    have O_cg := hc.one
    clear hc
    clear hx
    refine ⟨_, rfl, (tr E5 E6).out, ?_⟩
    (try simp only [Act.put, zA, zB, zC])
    refine mB 10 11 (bs 13 2047) (bs 13 3071) (u := .pointer (some ⟨w6.heap.size, 0, none⟩)) (wj := (w6.alloc (.cells z4 26))) (n03Sub (L := 2 * L + 1) ((FFA.out.ext (tr E5 E6).out).isIn (by omega)) (FFC.out.isIn (by omega)) (by omega)) ((tr E5 E6).out.alloc _) ?_ ?_
    ·rintro e w7 ⟨ch, rfl, hc, hx⟩
     have E7 : Hid (Ext w6 w7) := hx
     rw [den_eq] at hc
     have FDE := zH hc
     have Z_ch := hc.size
     have O_ch := hc.one
     clear hc
     clear hx
     refine ⟨_, rfl, (tr E5 (tr E6 E7)).out, ?_⟩
     (try simp only [Act.put, zA, zB, zC])
     refine mU 11 (bs 13 4095) (v := .pointer (some ⟨w7.heap.size, 0, none⟩)) (w' := (w7.alloc (.cells z4 26))) ((tr E5 (tr E6 E7)).out.alloc _) ?_
     (try simp only [Act.put, zA, zB, zC])
     have E8 := zH (show Ext w7 (w7.alloc (.cells z4 26)) from (Ext.refl _).alloc _)
     have Fnb11 := zH (Blk.new w7 26 z4)
     have hbx := Fnb11.out
     have ob := Own.setCells (w7.alloc (.cells z4 26)) w7.heap.size ch
     have hgb : wv.heap.size ≤ w7.heap.size := (tr E5 (tr E6 E7)).out.size
     have hS8 : Ext wv ((w7.alloc (.cells z4 26)).setCells w7.heap.size 0 (ch : Array Value).toList) := ob.ext (tr E5 (tr E6 (tr E7 E8))).out hgb
     refine mO 12 (bs 13 8191) ch hbx (Eq.trans Z_ch rfl) (by rw [show (ch : Array Value).size = 4 from Z_ch]; kernel_rfl) O_ch hS8 ?_
     (try simp only [Act.put])
     refine wpAnyH_done (by kernel_rfl) ?_ _
     go_wp2_with fail
     go_meet
     exact ⟨_, _, rfl, ((FDE.out.ext E8.out)).map (fun r q h => h.own hbx (noU_of _ (by simp)) ob), hbx.setCells ch (Eq.trans Z_ch rfl), hS8⟩
    ·(try simp only [Act.put, zA, zB, zC])
     have E7 := zH (show Ext w6 (w6.alloc (.cells z4 26)) from (Ext.refl _).alloc _)
     have Fnb11 := zH (Blk.new w6 26 z4)
     refine mC 10 (bs 13 4095) (n03Sub (L := 2 * L + 1) ((FFA.out.ext (tr E5 (tr E6 E7)).out).isIn (by omega)) ((FFC.out.ext E7.out).isIn (by omega)) (by omega)) ?_
     rintro e w8 ⟨ch, rfl, hc, hx⟩
     have E8 := zH (show Ext (w6.alloc (.cells z4 26)) w8 from hx)
     rw [den_eq] at hc
     have FDE := zH hc
     have Z_ch := hc.size
     have O_ch := hc.one
     clear hc
     clear hx
     refine ⟨_, rfl, (tr E5 (tr E6 (tr E7 E8))).out, ?_⟩
     (try simp only [Act.put, zA, zB, zC])
     have hbx := (Fnb11.out.ext E8.out)
     have ob := Own.setCells w8 w6.heap.size ch
     have hgb : wv.heap.size ≤ w6.heap.size := (tr E5 E6).out.size
     have hS8 : Ext wv (w8.setCells w6.heap.size 0 (ch : Array Value).toList) := ob.ext (tr E5 (tr E6 (tr E7 E8))).out hgb
     refine mO 12 (bs 13 8191) ch hbx (Eq.trans Z_ch rfl) (by rw [show (ch : Array Value).size = 4 from Z_ch]; kernel_rfl) O_ch hS8 ?_
     (try simp only [Act.put])
     refine wpAnyH_done (by kernel_rfl) ?_ _
     go_wp2_with fail
     go_meet
     exact ⟨_, _, rfl, (FDE.out).map (fun r q h => h.own hbx (noU_of _ (by simp)) ob), hbx.setCells ch (Eq.trans Z_ch rfl), hS8⟩
   ·(try simp only [Act.put, zA, zB, zC])
    have E6 := zH (show Ext wv.drew (wv.drew.alloc (.cells z4 26)) from (Ext.refl _).alloc _)
    have Fnb11 := zH (Blk.new wv.drew 26 z4)
    refine mC 9 (bs 13 3071) (n03Sub (L := L) (NIn.mk (Fb0.out.ext (tr E1 (tr E2 (tr E3 (tr E4 (tr E5 E6))))).out)) (NIn.mk (Fc0.out.ext (tr E1 (tr E2 (tr E3 (tr E4 (tr E5 E6))))).out)) (by omega)) ?_
    rintro e w7 ⟨cg, rfl, hc, hx⟩
    have E7 := zH (show Ext (wv.drew.alloc (.cells z4 26)) w7 from hx)
    have FFC := zH hc
    have Z_cg := hc.size
    have O_cg := hc.one
    clear hc
    clear hx
    refine ⟨_, rfl, (tr E5 (tr E6 E7)).out, ?_⟩
    (try simp only [Act.put, zA, zB, zC])
    refine mC 10 (bs 13 4095) (n03Sub (L := 2 * L + 1) ((FFA.out.ext (tr E5 (tr E6 E7)).out).isIn (by omega)) (FFC.out.isIn (by omega)) (by omega)) ?_
    rintro e w8 ⟨ch, rfl, hc, hx⟩
    have E8 : Hid (Ext w7 w8) := hx
    rw [den_eq] at hc
    have FDE := zH hc
    have Z_ch := hc.size
    have O_ch := hc.one
    clear hc
    clear hx
    refine ⟨_, rfl, (tr E5 (tr E6 (tr E7 E8))).out, ?_⟩
    (try simp only [Act.put, zA, zB, zC])
    have hbx := (Fnb11.out.ext (tr E7 E8).out)
    have ob := Own.setCells w8 wv.drew.heap.size ch
    have hgb : wv.heap.size ≤ wv.drew.heap.size := E5.out.size
    have hS8 : Ext wv (w8.setCells wv.drew.heap.size 0 (ch : Array Value).toList) := ob.ext (tr E5 (tr E6 (tr E7 E8))).out hgb
    refine mO 12 (bs 13 8191) ch hbx (Eq.trans Z_ch rfl) (by rw [show (ch : Array Value).size = 4 from Z_ch]; kernel_rfl) O_ch hS8 ?_
    (try simp only [Act.put])
    refine wpAnyH_done (by kernel_rfl) ?_ _
    go_wp2_with fail
    go_meet
    exact ⟨_, _, rfl, (FDE.out).map (fun r q h => h.own hbx (noU_of _ (by simp)) ob), hbx.setCells ch (Eq.trans Z_ch rfl), hS8⟩
  case rest =>
   obtain ⟨Xcde, cde, rfl, hfa, hb8, hx⟩ := hcut
   generalize wc = wu at *
   have E5 : Hid (Ext wv wu) := hx
   have Zcde := hfa.size
   have Ocde := hfa.one
   have FDE := zH hfa
   have Fbcde := zH hb8
   clear hfa hb8 hx
   by_cases hden : ((A0 - B0) + (C0 - B0)) = 0
   ·go_upto_region 4 with fail
    refine wp_region_lit ?_
    refine pL (Fbcfa.out.ext E5.out) Tryz.underlying26 (by rw [show (cfa : Array Value).size = 4 from Zcfa]; kernel_rfl) ?_
    (try simp only [Act.put, zA, zB, zC])
    refine pL Fbcde.out Tryz.underlying26 (by rw [show (cde : Array Value).size = 4 from Zcde]; kernel_rfl) ?_
    (try simp only [Act.put, zA, zB, zC])
    refine mv_call (by rfl) (by go_simp) (r3quo_zero (6 * L + 8) _ _ (A0 - B0) ((A0 - B0) + (C0 - B0)) _ ((FFA.out.ext E5.out).isIn (by omega)) (FDE.out.isIn (by omega)) (by omega) hden) ?_
    rintro e w6 ⟨rfl, hx⟩
    have E6 : Hid (Ext wu w6) := hx
    clear hx
    refine ⟨_, rfl, ?_⟩
    (try simp only [Act.put, zA, zB, zC])
    refine pV (w' := w6) ?_
    (try simp only [Act.put, zA, zB, zC])
    refine pV (w' := w6) ?_
    (try simp only [Act.put, zA, zB, zC])
    refine pV (w' := w6) ?_
    (try simp only [Act.put, zA, zB, zC])
    refine mv_val (v := .pointer (some ⟨w6.heap.size, 0, none⟩)) (w' := w6.alloc (.cells z4 26)) (by rfl) (by go_simp) ?_
    (try simp only [Act.put, zA, zB, zC])
    refine pO z4 (Blk.new w6 _ _) rfl (by kernel_rfl) (all_oneCell_toArray (by simp [Value.oneCell'])) ?_
    (try simp only [Act.put])
    obtain ⟨xq1, xq2⟩ := new_var w6 26 z4 z4 rfl
    generalize (w6.alloc (.cells z4 26)).setCells w6.heap.size 0 (z4 : Array Value).toList = w7 at *
    generalize w6.heap.size = X7 at *
    have E7 : Hid (Ext w6 w7) := xq1
    have FV8 := zH xq2
    clear xq1 xq2
    refine pV (w' := w7) ?_
    (try simp only [Act.put, zA, zB, zC])
    go_upto_region 5 with fail
    refine wp_region_held_drew (S := fun x => Ext w7 x) (by kernel_rfl) (Ext.refl _).drew (fun _ => ?_)
    have E8 := zH (show Ext w7 w7.drew from (Ext.refl _).drew)
    refine mV 0 (bs 14 1) E8.out ?_
    (try simp only [Act.put, zA, zB, zC])
    refine mV 1 (bs 14 3) E8.out ?_
    (try simp only [Act.put, zA, zB, zC])
    refine mV 2 (bs 14 7) E8.out ?_
    refine mS 3 (bs 14 15) E8.out ?_
    refine mS 4 (bs 14 31) E8.out ?_
    refine mS 5 (bs 14 63) E8.out ?_
    refine mS 6 (bs 14 127) E8.out ?_
    (try simp only [Act.put, zA, zB, zC])
    refine mV 7 (bs 14 255) E8.out ?_
    (try simp only [Act.put, zA, zB, zC])
    refine mV 8 (bs 14 511) E8.out ?_
    refine mS 9 (bs 14 1023) E8.out ?_
    refine mS 10 (bs 14 2047) E8.out ?_
    refine mS 11 (bs 14 4095) E8.out ?_
    refine mS 12 (bs 14 8191) E8.out ?_
    (try simp only [Act.put, zA, zB, zC])
    refine mV 13 (bs 14 16383) E8.out ?_
    (try simp only [Act.put, zA, zB, zC])
    refine wpAnyH_done (by kernel_rfl) ?_ _
    go_wp2_with fail
    go_ret
    exact ⟨_, rfl, (by rw [qVals_out (qTop_out0 hden)]; exact RatsV.of_blk (rs := [a0, c0]) (FbL.out.ext (tr E4 (tr E5 (tr E6 (tr E7 E8)))).out) rfl (in2 ((Fa0.out.ext (tr E1 (tr E2 (tr E3 (tr E4 (tr E5 (tr E6 (tr E7 E8))))))).out).mono (by omega)) ((Fc0.out.ext (tr E1 (tr E2 (tr E3 (tr E4 (tr E5 (tr E6 (tr E7 E8))))))).out).mono (by omega)))), (tr E1 (tr E2 (tr E3 (tr E4 (tr E5 (tr E6 (tr E7 E8))))))).out⟩
   ·go_upto_region 4 with fail
    refine wp_region_lit ?_
    refine pL (Fbcfa.out.ext E5.out) Tryz.underlying26 (by rw [show (cfa : Array Value).size = 4 from Zcfa]; kernel_rfl) ?_
    (try simp only [Act.put, zA, zB, zC])
    refine pL Fbcde.out Tryz.underlying26 (by rw [show (cde : Array Value).size = 4 from Zcde]; kernel_rfl) ?_
    (try simp only [Act.put, zA, zB, zC])
    refine mv_call (by rfl) (by go_simp) (r3quo_any (6 * L + 8) _ _ (A0 - B0) ((A0 - B0) + (C0 - B0)) _ ((FFA.out.ext E5.out).isIn (by omega)) (FDE.out.isIn (by omega)) (by omega) hden) ?_
    rintro e w6 ⟨ct, rfl, hc, hx⟩
    have E6 : Hid (Ext wu w6) := hx
    have FTO := zH hc
    have Z_ct := hc.size
    have O_ct := hc.one
    clear hc
    clear hx
    refine ⟨_, rfl, ?_⟩
    (try simp only [Act.put, zA, zB, zC])
    refine pV (w' := w6) ?_
    (try simp only [Act.put, zA, zB, zC])
    refine pV (w' := w6) ?_
    (try simp only [Act.put, zA, zB, zC])
    refine pV (w' := w6) ?_
    (try simp only [Act.put, zA, zB, zC])
    refine mv_val (v := .pointer (some ⟨w6.heap.size, 0, none⟩)) (w' := w6.alloc (.cells z4 26)) (by rfl) (by go_simp) ?_
    (try simp only [Act.put, zA, zB, zC])
    refine pO ct (Blk.new w6 _ _) (Eq.trans Z_ct rfl) (by rw [show (ct : Array Value).size = 4 from Z_ct]; kernel_rfl) O_ct ?_
    (try simp only [Act.put])
    obtain ⟨xq1, xq2⟩ := new_var w6 26 z4 ct (Eq.trans Z_ct rfl)
    generalize (w6.alloc (.cells z4 26)).setCells w6.heap.size 0 (ct : Array Value).toList = w7 at *
    generalize w6.heap.size = X7 at *
    have E7 : Hid (Ext w6 w7) := xq1
    have FV8 := zH xq2
    clear xq1 xq2
    refine pV (w' := w7) ?_
    (try simp only [Act.put, zA, zB, zC])
    obtain ⟨s0, hs0⟩ : ∃ s, s = rcmp ((A0 - B0) / ((A0 - B0) + (C0 - B0))) ((0 : Int) : Rat) := ⟨_, rfl⟩
    obtain ⟨s1, hs1⟩ : ∃ s, s = rcmp ((A0 - B0) / ((A0 - B0) + (C0 - B0))) ((1 : Int) : Rat) := ⟨_, rfl⟩
    have HSZ := zH hs0
    have HSO := zH hs1
    clear hs0 hs1
    by_cases hgt : 0 < s0
    ·by_cases hlt : s1 < 0
     ·go_upto_region 5 with fail
      refine wp_region_held_drew (S := fun x => Ext w7 x) (by kernel_rfl) (Ext.refl _).drew (fun _ => ?_)
      have E8 := zH (show Ext w7 w7.drew from (Ext.refl _).drew)
      refine mV 0 (bs 14 1) E8.out ?_
      (try simp only [Act.put, zA, zB, zC])
      refine mV 1 (bs 14 3) E8.out ?_
      (try simp only [Act.put, zA, zB, zC])
      refine mV 2 (bs 14 7) E8.out ?_
      refine mL 3 (bs 14 15) (fun x hx => (FV8.out).ext hx) Tryz.underlying26 (by rw [show (ct : Array Value).size = 4 from Z_ct]; kernel_rfl) E8.out ?_
      (try simp only [Act.put, zA, zB, zC])
      refine mC 4 (bs 14 31) (r03FromInt 0 _ (by omega) (by omega)) ?_
      rintro e w9 ⟨n0, rfl, hc, hx⟩
      have E9 : Hid (Ext w7.drew w9) := hx
      have FIn0 := zH hc
      have Z_n0 := hc.size
      have O_n0 := hc.one
      clear hc
      clear hx
      refine ⟨_, rfl, (tr E8 E9).out, ?_⟩
      (try simp only [Act.put, zA, zB, zC])
      refine mC 5 (bs 14 63) (n03CmpS HSZ.out (L := 6 * L + 8) ((FTO.out.ext (tr E7 (tr E8 E9)).out).isIn (by omega)) (FIn0.out.isIn (by omega)) (by omega)) ?_
      rintro e w10 ⟨rfl, hx⟩
      have E10 : Hid (Ext w9 w10) := hx
      clear hx
      refine ⟨_, rfl, (tr E8 (tr E9 E10)).out, ?_⟩
      (try simp only [Act.put, zA, zB, zC])
      refine mV 6 (bs 14 127) (tr E8 (tr E9 E10)).out ?_
      (try simp only [Act.put, zA, zB, zC])
      refine mV 7 (bs 14 255) (tr E8 (tr E9 E10)).out ?_
      (try simp only [Act.put, zA, zB, zC])
      refine mV 8 (bs 14 511) (tr E8 (tr E9 E10)).out ?_
      refine mL 9 (bs 14 1023) (fun x hx => (FV8.out).ext hx) Tryz.underlying26 (by rw [show (ct : Array Value).size = 4 from Z_ct]; kernel_rfl) (tr E8 (tr E9 E10)).out ?_
      (try simp only [Act.put, zA, zB, zC])
      refine mC 10 (bs 14 2047) (r03FromInt 1 _ (by omega) (by omega)) ?_
      rintro e w11 ⟨n1, rfl, hc, hx⟩
      have E11 : Hid (Ext w10 w11) := hx
      have FIn1 := zH hc
      have Z_n1 := hc.size
      have O_n1 := hc.one
      clear hc
      clear hx
      refine ⟨_, rfl, (tr E8 (tr E9 (tr E10 E11))).out, ?_⟩
      (try simp only [Act.put, zA, zB, zC])
      refine mC 11 (bs 14 4095) (n03CmpS HSO.out (L := 6 * L + 8) ((FTO.out.ext (tr E7 (tr E8 (tr E9 (tr E10 E11)))).out).isIn (by omega)) (FIn1.out.isIn (by omega)) (by omega)) ?_
      rintro e w12 ⟨rfl, hx⟩
      have E12 : Hid (Ext w11 w12) := hx
      clear hx
      refine ⟨_, rfl, (tr E8 (tr E9 (tr E10 (tr E11 E12)))).out, ?_⟩
      (try simp only [Act.put, zA, zB, zC])
      refine mV 12 (bs 14 8191) (tr E8 (tr E9 (tr E10 (tr E11 E12)))).out ?_
      (try simp only [Act.put, zA, zB, zC])
      refine mV 13 (bs 14 16383) (tr E8 (tr E9 (tr E10 (tr E11 E12)))).out ?_
      (try simp only [Act.put, zA, zB, zC])
      refine wpAnyH_done (by kernel_rfl) ?_ _
      go_upto_region 6 with fail
      refine wp_region_lit ?_
      refine pV (w' := w12) ?_
      (try simp only [Act.put, zA, zB, zC])
      refine pL (Fbx0.out.ext (tr E2 (tr E3 (tr E4 (tr E5 (tr E6 (tr E7 (tr E8 (tr E9 (tr E10 (tr E11 E12)))))))))).out) Tryz.underlying32 (by rw [show (#[.bool a0.n, .slice a0.p a0.l a0.c, .bool a0.m, .slice a0.p2 a0.l2 a0.c2, .bool a1.n, .slice a1.p a1.l a1.c, .bool a1.m, .slice a1.p2 a1.l2 a1.c2, .bool b0.n, .slice b0.p b0.l b0.c, .bool b0.m, .slice b0.p2 b0.l2 b0.c2, .bool b1.n, .slice b1.p b1.l b1.c, .bool b1.m, .slice b1.p2 b1.l2 b1.c2, .bool c0.n, .slice c0.p c0.l c0.c, .bool c0.m, .slice c0.p2 c0.l2 c0.c2, .bool c1.n, .slice c1.p c1.l c1.c, .bool c1.m, .slice c1.p2 c1.l2 c1.c2] : Array Value).size = 24 from rfl]; kernel_rfl) ?_
      (try simp only [Act.put, zA, zB, zC])
      refine pL (FV8.out.ext (tr E8 (tr E9 (tr E10 (tr E11 E12)))).out) Tryz.underlying26 (by rw [show (ct : Array Value).size = 4 from Z_ct]; kernel_rfl) ?_
      (try simp only [Act.put, zA, zB, zC])
      refine mv_call (by rfl) (by go_simp) (revalQuad_any (6 * L + 8) _ _ A0 A1 B0 B1 C0 C1 ((A0 - B0) / ((A0 - B0) + (C0 - B0))) _ ((FP.out.ext (tr E1 (tr E2 (tr E3 (tr E4 (tr E5 (tr E6 (tr E7 (tr E8 (tr E9 (tr E10 (tr E11 E12))))))))))).out).mono (by omega)) ((FTO.out.ext (tr E7 (tr E8 (tr E9 (tr E10 (tr E11 E12))))).out).isIn (by omega)) (by omega) (by omega)) ?_
      rintro e w13 ⟨ce, rfl, hc, hx⟩
      have E13 : Hid (Ext w12 w13) := hx
      obtain ⟨e0, e1, rfl, hc0, hc1⟩ := hc
      have Fe0 := zH hc0
      have Fe1 := zH hc1
      clear hc0 hc1
      clear hx
      refine ⟨_, rfl, ?_⟩
      (try simp only [Act.put, zA, zB, zC])
      refine pV (w' := w13) ?_
      (try simp only [Act.put, zA, zB, zC])
      refine mv_val (v := .agg #[.bool e0.n, .slice e0.p e0.l e0.c, .bool e0.m, .slice e0.p2 e0.l2 e0.c2]) (w' := w13) (by rfl) (by have hix := idx0 e0 e1; go_simp <;> with_reducible rfl) ?_
      (try simp only [Act.put, zA, zB, zC])
      refine mv_val (v := .slice (some ⟨w13.heap.size, 0, none⟩) 1 1) (w' := (w13.alloc (.cells #[.bool e0.n, .slice e0.p e0.l e0.c, .bool e0.m, .slice e0.p2 e0.l2 e0.c2] 26))) (by rfl) (by go_simp) ?_
      (try simp only [Act.put, zA, zB, zC])
      have hrow : RowN (w13.alloc (.cells #[.bool e0.n, .slice e0.p e0.l e0.c, .bool e0.m, .slice e0.p2 e0.l2 e0.c2] 26)) XL 26 4 (.slice (some ⟨XL, 0, none⟩) 2 2) 2 (rvCells [a0, c0]) := (RowN.made (xs := rvCells [a0, c0]) (FbL.out.ext (tr E4 (tr E5 (tr E6 (tr E7 (tr E8 (tr E9 (tr E10 (tr E11 (tr E12 E13))))))))).out) (Nat.le_refl _) rfl (noUL_rv _) (by unfold maxLen; omega)).alloc' _
      have hbl : XL ≤ (w13.alloc (.cells #[.bool e0.n, .slice e0.p e0.l e0.c, .bool e0.m, .slice e0.p2 e0.l2 e0.c2] 26)).heap.size := Nat.le_of_lt (((FbL.out.ext (tr E4 (tr E5 (tr E6 (tr E7 (tr E8 (tr E9 (tr E10 (tr E11 (tr E12 E13))))))))).out)).alloc _).lt
      have hEL : Ext w (w13.alloc (.cells #[.bool e0.n, .slice e0.p e0.l e0.c, .bool e0.m, .slice e0.p2 e0.l2 e0.c2] 26)) := ((tr E1 (tr E2 (tr E3 (tr E4 (tr E5 (tr E6 (tr E7 (tr E8 (tr E9 (tr E10 (tr E11 (tr E12 E13)))))))))))).out).alloc _
      have hee := (Fe0.out).ext ((Ext.refl _).alloc (.cells #[.bool e0.n, .slice e0.p e0.l e0.c, .bool e0.m, .slice e0.p2 e0.l2 e0.c2] 26))
      refine wpList_if (by rfl) (wp_append_rowN _ _ 64 (by rfl) XL 26 i0 _ 4 64 Tryz.underlying64 HI.out.1 HI.out.2.1 HI.out.2.2.1 HI.out.2.2.2 rfl (by decide) noUL_z _ 2 (rvCells [a0, c0]) (by rfl) hrow ⟨w13.heap.size, 0, none⟩ 1 1 [.bool e0.n, .slice e0.p e0.l e0.c, .bool e0.m, .slice e0.p2 e0.l2 e0.c2] (by rfl) rfl (four_new _ _ _ _ _ _) (one_rv e0) (noUL_one e0) (by decide) (by unfold maxLen; omega) (by omega) hbl ?_)
      intro g cap w3 h2 h3 h4
      (try simp only [Act.put, zA, zB, zC])
      have hE3 : Ext w w3 := hEL.grown h3 (fun j hj => Nat.le_trans hgl (hrow.block j hj))
      have h5 := h4 _ _ hee
      have h6 : RatsV (16 * (6 * L + 8) + 10) w3 (.slice (some ⟨g, 0, none⟩) (2 + 1) cap) (qVals A0 B0 C0) := by
       rw [qVals_in (qTop_in (by have := HSZ.out; omega) (by have := HSO.out; omega))]
       exact RatsV.of_row (rs := [a0, c0, e0]) h2 rfl (in3 ((Fa0.out.ext hE3).mono (by omega)) ((Fc0.out.ext hE3).mono (by omega)) (h5.isIn (by omega)))
      clear hrow hbl hEL hee h2 h3 h4 h5
      generalize w3 = w4 at *
      refine mv_val (v := .slice (some ⟨g, 0, none⟩) (2 + 1) cap) (w' := w4) (by rfl) (by go_simp) ?_
      (try simp only [Act.put, zA, zB, zC])
      go_wp2_with fail
      go_ret
      exact ⟨_, rfl, h6, hE3⟩
     ·go_upto_region 5 with fail
      refine wp_region_held_drew (S := fun x => Ext w7 x) (by kernel_rfl) (Ext.refl _).drew (fun _ => ?_)
      have E8 := zH (show Ext w7 w7.drew from (Ext.refl _).drew)
      refine mV 0 (bs 14 1) E8.out ?_
      (try simp only [Act.put, zA, zB, zC])
      refine mV 1 (bs 14 3) E8.out ?_
      (try simp only [Act.put, zA, zB, zC])
      refine mV 2 (bs 14 7) E8.out ?_
      refine mL 3 (bs 14 15) (fun x hx => (FV8.out).ext hx) Tryz.underlying26 (by rw [show (ct : Array Value).size = 4 from Z_ct]; kernel_rfl) E8.out ?_
      (try simp only [Act.put, zA, zB, zC])
      refine mC 4 (bs 14 31) (r03FromInt 0 _ (by omega) (by omega)) ?_
      rintro e w9 ⟨n0, rfl, hc, hx⟩
      have E9 : Hid (Ext w7.drew w9) := hx
      have FIn0 := zH hc
      have Z_n0 := hc.size
      have O_n0 := hc.one
      clear hc
      clear hx
      refine ⟨_, rfl, (tr E8 E9).out, ?_⟩
      (try simp only [Act.put, zA, zB, zC])
      refine mC 5 (bs 14 63) (n03CmpS HSZ.out (L := 6 * L + 8) ((FTO.out.ext (tr E7 (tr E8 E9)).out).isIn (by omega)) (FIn0.out.isIn (by omega)) (by omega)) ?_
      rintro e w10 ⟨rfl, hx⟩
      have E10 : Hid (Ext w9 w10) := hx
      clear hx
      refine ⟨_, rfl, (tr E8 (tr E9 E10)).out, ?_⟩
      (try simp only [Act.put, zA, zB, zC])
      refine mV 6 (bs 14 127) (tr E8 (tr E9 E10)).out ?_
      (try simp only [Act.put, zA, zB, zC])
      refine mV 7 (bs 14 255) (tr E8 (tr E9 E10)).out ?_
      (try simp only [Act.put, zA, zB, zC])
      refine mV 8 (bs 14 511) (tr E8 (tr E9 E10)).out ?_
      refine mL 9 (bs 14 1023) (fun x hx => (FV8.out).ext hx) Tryz.underlying26 (by rw [show (ct : Array Value).size = 4 from Z_ct]; kernel_rfl) (tr E8 (tr E9 E10)).out ?_
      (try simp only [Act.put, zA, zB, zC])
      refine mC 10 (bs 14 2047) (r03FromInt 1 _ (by omega) (by omega)) ?_
      rintro e w11 ⟨n1, rfl, hc, hx⟩
      have E11 : Hid (Ext w10 w11) := hx
      have FIn1 := zH hc
      have Z_n1 := hc.size
      have O_n1 := hc.one
      clear hc
      clear hx
      refine ⟨_, rfl, (tr E8 (tr E9 (tr E10 E11))).out, ?_⟩
      (try simp only [Act.put, zA, zB, zC])
      refine mC 11 (bs 14 4095) (n03CmpS HSO.out (L := 6 * L + 8) ((FTO.out.ext (tr E7 (tr E8 (tr E9 (tr E10 E11)))).out).isIn (by omega)) (FIn1.out.isIn (by omega)) (by omega)) ?_
      rintro e w12 ⟨rfl, hx⟩
      have E12 : Hid (Ext w11 w12) := hx
      clear hx
      refine ⟨_, rfl, (tr E8 (tr E9 (tr E10 (tr E11 E12)))).out, ?_⟩
      (try simp only [Act.put, zA, zB, zC])
      refine mV 12 (bs 14 8191) (tr E8 (tr E9 (tr E10 (tr E11 E12)))).out ?_
      (try simp only [Act.put, zA, zB, zC])
      refine mV 13 (bs 14 16383) (tr E8 (tr E9 (tr E10 (tr E11 E12)))).out ?_
      (try simp only [Act.put, zA, zB, zC])
      refine wpAnyH_done (by kernel_rfl) ?_ _
      go_wp2_with fail
      go_ret
      exact ⟨_, rfl, (by rw [qVals_out (qTop_out2 (by have := HSO.out; omega))]; exact RatsV.of_blk (rs := [a0, c0]) (FbL.out.ext (tr E4 (tr E5 (tr E6 (tr E7 (tr E8 (tr E9 (tr E10 (tr E11 E12)))))))).out) rfl (in2 ((Fa0.out.ext (tr E1 (tr E2 (tr E3 (tr E4 (tr E5 (tr E6 (tr E7 (tr E8 (tr E9 (tr E10 (tr E11 E12))))))))))).out).mono (by omega)) ((Fc0.out.ext (tr E1 (tr E2 (tr E3 (tr E4 (tr E5 (tr E6 (tr E7 (tr E8 (tr E9 (tr E10 (tr E11 E12))))))))))).out).mono (by omega)))), (tr E1 (tr E2 (tr E3 (tr E4 (tr E5 (tr E6 (tr E7 (tr E8 (tr E9 (tr E10 (tr E11 E12))))))))))).out⟩
    ·go_upto_region 5 with fail
     refine wp_region_held_drew (S := fun x => Ext w7 x) (by kernel_rfl) (Ext.refl _).drew (fun _ => ?_)
     have E8 := zH (show Ext w7 w7.drew from (Ext.refl _).drew)
     refine mV 0 (bs 14 1) E8.out ?_
     (try simp only [Act.put, zA, zB, zC])
     refine mV 1 (bs 14 3) E8.out ?_
     (try simp only [Act.put, zA, zB, zC])
     refine mV 2 (bs 14 7) E8.out ?_
     refine mL 3 (bs 14 15) (fun x hx => (FV8.out).ext hx) Tryz.underlying26 (by rw [show (ct : Array Value).size = 4 from Z_ct]; kernel_rfl) E8.out ?_
     (try simp only [Act.put, zA, zB, zC])
     refine mC 4 (bs 14 31) (r03FromInt 0 _ (by omega) (by omega)) ?_
     rintro e w9 ⟨n0, rfl, hc, hx⟩
     have E9 : Hid (Ext w7.drew w9) := hx
     have FIn0 := zH hc
     have Z_n0 := hc.size
     have O_n0 := hc.one
     clear hc
     clear hx
     refine ⟨_, rfl, (tr E8 E9).out, ?_⟩
     (try simp only [Act.put, zA, zB, zC])
     refine mC 5 (bs 14 63) (n03CmpS HSZ.out (L := 6 * L + 8) ((FTO.out.ext (tr E7 (tr E8 E9)).out).isIn (by omega)) (FIn0.out.isIn (by omega)) (by omega)) ?_
     rintro e w10 ⟨rfl, hx⟩
     have E10 : Hid (Ext w9 w10) := hx
     clear hx
     refine ⟨_, rfl, (tr E8 (tr E9 E10)).out, ?_⟩
     (try simp only [Act.put, zA, zB, zC])
     refine mV 6 (bs 14 127) (tr E8 (tr E9 E10)).out ?_
     (try simp only [Act.put, zA, zB, zC])
     refine mV 7 (bs 14 255) (tr E8 (tr E9 E10)).out ?_
     (try simp only [Act.put, zA, zB, zC])
     refine mV 8 (bs 14 511) (tr E8 (tr E9 E10)).out ?_
     refine mS 9 (bs 14 1023) (tr E8 (tr E9 E10)).out ?_
     refine mS 10 (bs 14 2047) (tr E8 (tr E9 E10)).out ?_
     refine mS 11 (bs 14 4095) (tr E8 (tr E9 E10)).out ?_
     refine mS 12 (bs 14 8191) (tr E8 (tr E9 E10)).out ?_
     (try simp only [Act.put, zA, zB, zC])
     refine mV 13 (bs 14 16383) (tr E8 (tr E9 E10)).out ?_
     (try simp only [Act.put, zA, zB, zC])
     refine wpAnyH_done (by kernel_rfl) ?_ _
     go_wp2_with fail
     go_ret
     exact ⟨_, rfl, (by rw [qVals_out (qTop_out1 (by have := HSZ.out; omega))]; exact RatsV.of_blk (rs := [a0, c0]) (FbL.out.ext (tr E4 (tr E5 (tr E6 (tr E7 (tr E8 (tr E9 E10)))))).out) rfl (in2 ((Fa0.out.ext (tr E1 (tr E2 (tr E3 (tr E4 (tr E5 (tr E6 (tr E7 (tr E8 (tr E9 E10))))))))).out).mono (by omega)) ((Fc0.out.ext (tr E1 (tr E2 (tr E3 (tr E4 (tr E5 (tr E6 (tr E7 (tr E8 (tr E9 E10))))))))).out).mono (by omega)))), (tr E1 (tr E2 (tr E3 (tr E4 (tr E5 (tr E6 (tr E7 (tr E8 (tr E9 E10))))))))).out⟩
set_option maxRecDepth 20000 in
set_option maxHeartbeats 8000000 in
theorem qvals1_any (L : Nat) (cp : Array Value) (A0 A1 B0 B1 C0 C1 : Rat) (w : World) (hP : Q3In L w cp A0 A1 B0 B1 C0 C1) (h1 : 1 ≤ L) (hL : L ≤ 15) :
  Calls Tryz.prog 49 #[.agg cp, .int .i64 1] w fun e w' => ∃ v, e = .returned v ∧ RatsV (16 * (6 * L + 8) + 10) w' v (qVals A1 B1 C1) ∧ Ext w w' := by
 have hq := hP
 obtain ⟨a0, a1, b0, b1, c0, c1, rfl, ha0, ha1, hb0, hb1, hc0, hc1⟩ := hP
 obtain ⟨i0, hi, hz0, hz1, hz2⟩ := info_parts infoRat
 have HI := zH (And.intro hi (And.intro hz0 (And.intro hz1 hz2)))
 clear hi hz0 hz1 hz2
 have ra0 : Nm.rl A0 ≤ L := by have := ha0.rl; omega
 have Fa0 := zH ha0
 have ra1 : Nm.rl A1 ≤ L := by have := ha1.rl; omega
 have Fa1 := zH ha1
 have rb0 : Nm.rl B0 ≤ L := by have := hb0.rl; omega
 have Fb0 := zH hb0
 have rb1 : Nm.rl B1 ≤ L := by have := hb1.rl; omega
 have Fb1 := zH hb1
 have rc0 : Nm.rl C0 ≤ L := by have := hc0.rl; omega
 have Fc0 := zH hc0
 have rc1 : Nm.rl C1 ≤ L := by have := hc1.rl; omega
 have Fc1 := zH hc1
 have FP := zH hq
 clear ha0 ha1 hb0 hb1 hc0 hc1 hq
 have rz := rlI 0 (by decide)
 have ro := rlI 1 (by decide)
 have rfa := Nm.rl_sub A1 B1
 have rfc := Nm.rl_sub C1 B1
 have rfd := Nm.rl_sub B1 C1
 have rde := Nm.rl_add (A1 - B1) (C1 - B1)
 have rto := Nm.rl_div (A1 - B1) ((A1 - B1) + (C1 - B1))
 have rev := rl_quadV3 (a := A1) (b := B1) (c := C1) (t := ((A1 - B1) / ((A1 - B1) + (C1 - B1)))) (L := 6 * L + 8) (by omega) (by omega) (by omega) (by omega)
 go_enter Tryz.func49, Tryz.ntmps49
 go_upto_region 1 with fail
 have hbx0 : Blk (w.alloc (.cells #[.bool a0.n, .slice a0.p a0.l a0.c, .bool a0.m, .slice a0.p2 a0.l2 a0.c2, .bool a1.n, .slice a1.p a1.l a1.c, .bool a1.m, .slice a1.p2 a1.l2 a1.c2, .bool b0.n, .slice b0.p b0.l b0.c, .bool b0.m, .slice b0.p2 b0.l2 b0.c2, .bool b1.n, .slice b1.p b1.l b1.c, .bool b1.m, .slice b1.p2 b1.l2 b1.c2, .bool c0.n, .slice c0.p c0.l c0.c, .bool c0.m, .slice c0.p2 c0.l2 c0.c2, .bool c1.n, .slice c1.p c1.l c1.c, .bool c1.m, .slice c1.p2 c1.l2 c1.c2] 32)) (w.heap.size) 32 #[.bool a0.n, .slice a0.p a0.l a0.c, .bool a0.m, .slice a0.p2 a0.l2 a0.c2, .bool a1.n, .slice a1.p a1.l a1.c, .bool a1.m, .slice a1.p2 a1.l2 a1.c2, .bool b0.n, .slice b0.p b0.l b0.c, .bool b0.m, .slice b0.p2 b0.l2 b0.c2, .bool b1.n, .slice b1.p b1.l b1.c, .bool b1.m, .slice b1.p2 b1.l2 b1.c2, .bool c0.n, .slice c0.p c0.l c0.c, .bool c0.m, .slice c0.p2 c0.l2 c0.c2, .bool c1.n, .slice c1.p c1.l c1.c, .bool c1.m, .slice c1.p2 c1.l2 c1.c2] := Blk.ext (Blk.new_at w _ (by simp) _ _) (Ext.refl _)
 have hE : Ext w (w.alloc (.cells #[.bool a0.n, .slice a0.p a0.l a0.c, .bool a0.m, .slice a0.p2 a0.l2 a0.c2, .bool a1.n, .slice a1.p a1.l a1.c, .bool a1.m, .slice a1.p2 a1.l2 a1.c2, .bool b0.n, .slice b0.p b0.l b0.c, .bool b0.m, .slice b0.p2 b0.l2 b0.c2, .bool b1.n, .slice b1.p b1.l b1.c, .bool b1.m, .slice b1.p2 b1.l2 b1.c2, .bool c0.n, .slice c0.p c0.l c0.c, .bool c0.m, .slice c0.p2 c0.l2 c0.c2, .bool c1.n, .slice c1.p c1.l c1.c, .bool c1.m, .slice c1.p2 c1.l2 c1.c2] 32)) := ((Ext.refl _).alloc _)
 generalize (w.alloc (.cells #[.bool a0.n, .slice a0.p a0.l a0.c, .bool a0.m, .slice a0.p2 a0.l2 a0.c2, .bool a1.n, .slice a1.p a1.l a1.c, .bool a1.m, .slice a1.p2 a1.l2 a1.c2, .bool b0.n, .slice b0.p b0.l b0.c, .bool b0.m, .slice b0.p2 b0.l2 b0.c2, .bool b1.n, .slice b1.p b1.l b1.c, .bool b1.m, .slice b1.p2 b1.l2 b1.c2, .bool c0.n, .slice c0.p c0.l c0.c, .bool c0.m, .slice c0.p2 c0.l2 c0.c2, .bool c1.n, .slice c1.p c1.l c1.c, .bool c1.m, .slice c1.p2 c1.l2 c1.c2] 32)) = wa at *
 have E1 : Hid (Ext w wa) := hE
 have Fbx0 := zH hbx0
 clear hE hbx0
 refine wp_region_held_drew (S := fun x => Ext wa x) (by kernel_rfl) (Ext.refl _).drew (fun _ => ?_)
 have E2 := zH (show Ext wa wa.drew from (Ext.refl _).drew)
 refine mV 0 (bs 10 1) E2.out ?_
 (try simp only [Act.put, zA, zB, zC])
 refine mV 1 (bs 10 3) E2.out ?_
 (try simp only [Act.put, zA, zB, zC])
 refine mV 2 (bs 10 7) E2.out ?_
 refine mR 3 (bs 10 15) w.heap.size 4 [.bool a1.n, .slice a1.p a1.l a1.c, .bool a1.m, .slice a1.p2 a1.l2 a1.c2] (fun x hx => ((Fbx0.out).ext hx).part 4 4) Tryz.underlying26 E2.out ?_
 (try simp only [Act.put, zA, zB, zC])
 refine mV 4 (bs 10 31) E2.out ?_
 (try simp only [Act.put, zA, zB, zC])
 refine mV 5 (bs 10 63) E2.out ?_
 (try simp only [Act.put, zA, zB, zC])
 refine mV 6 (bs 10 127) E2.out ?_
 refine mR 7 (bs 10 255) w.heap.size 20 [.bool c1.n, .slice c1.p c1.l c1.c, .bool c1.m, .slice c1.p2 c1.l2 c1.c2] (fun x hx => ((Fbx0.out).ext hx).part 20 4) Tryz.underlying26 E2.out ?_
 (try simp only [Act.put, zA, zB, zC])
 refine mU 8 (bs 10 511) (v := .slice (some ⟨wa.drew.heap.size, 0, none⟩) 2 2) (w' := (wa.drew.alloc (.cells #[.bool a1.n, .slice a1.p a1.l a1.c, .bool a1.m, .slice a1.p2 a1.l2 a1.c2, .bool c1.n, .slice c1.p c1.l c1.c, .bool c1.m, .slice c1.p2 c1.l2 c1.c2] 26))) (E2.out.alloc _) ?_
 (try simp only [Act.put, zA, zB, zC])
 have E3 := zH (show Ext wa.drew (wa.drew.alloc (.cells #[.bool a1.n, .slice a1.p a1.l a1.c, .bool a1.m, .slice a1.p2 a1.l2 a1.c2, .bool c1.n, .slice c1.p c1.l c1.c, .bool c1.m, .slice c1.p2 c1.l2 c1.c2] 26)) from (Ext.refl _).alloc _)
 have Fnb8 := zH (Blk.new wa.drew 26 #[.bool a1.n, .slice a1.p a1.l a1.c, .bool a1.m, .slice a1.p2 a1.l2 a1.c2, .bool c1.n, .slice c1.p c1.l c1.c, .bool c1.m, .slice c1.p2 c1.l2 c1.c2])
 refine mV 9 (bs 10 1023) (tr E2 E3).out ?_
 (try simp only [Act.put, zA, zB, zC])
 refine wpAnyH_done (by kernel_rfl) ?_ _
 have hgl : w.heap.size ≤ wa.heap.size := ((tr E1 E2).out).size
 generalize (wa.drew.alloc (.cells #[.bool a1.n, .slice a1.p a1.l a1.c, .bool a1.m, .slice a1.p2 a1.l2 a1.c2, .bool c1.n, .slice c1.p c1.l c1.c, .bool c1.m, .slice c1.p2 c1.l2 c1.c2] 26)) = wL at *
 have hFb : Blk wL wa.heap.size 26 #[.bool a1.n, .slice a1.p a1.l a1.c, .bool a1.m, .slice a1.p2 a1.l2 a1.c2, .bool c1.n, .slice c1.p c1.l c1.c, .bool c1.m, .slice c1.p2 c1.l2 c1.c2] := Fnb8.out
 (try simp only [World.size_drew])
 generalize wa.heap.size = XL at *
 have FbL := zH hFb
 clear hFb
 go_upto_region 2 with fail
 go_cut [6] (fun s wx => ∃ (X8 : Nat) (c8 : Array Value), s = .pointer (some ⟨X8, 0, none⟩) ∧ NIs wx c8 (A1 - B1) ∧ Blk wx X8 26 c8 ∧ Ext wL wx)
 case first =>
  refine wp_region_held_drew (S := fun x => Ext wL x) (by kernel_rfl) (Ext.refl _).drew (fun _ => ?_)
  have E4 := zH (show Ext wL wL.drew from (Ext.refl _).drew)
  refine mV 0 (bs 11 1) E4.out ?_
  (try simp only [Act.put, zA, zB, zC])
  refine mV 1 (bs 11 3) E4.out ?_
  (try simp only [Act.put, zA, zB, zC])
  refine mV 2 (bs 11 7) E4.out ?_
  refine mR 3 (bs 11 15) w.heap.size 4 [.bool a1.n, .slice a1.p a1.l a1.c, .bool a1.m, .slice a1.p2 a1.l2 a1.c2] (fun x hx => (((Fbx0.out.ext (tr E2 E3).out)).ext hx).part 4 4) Tryz.underlying26 E4.out ?_
  (try simp only [Act.put, zA, zB, zC])
  refine mV 4 (bs 11 31) E4.out ?_
  (try simp only [Act.put, zA, zB, zC])
  refine mV 5 (bs 11 63) E4.out ?_
  (try simp only [Act.put, zA, zB, zC])
  refine mV 6 (bs 11 127) E4.out ?_
  refine mR 7 (bs 11 255) w.heap.size 12 [.bool b1.n, .slice b1.p b1.l b1.c, .bool b1.m, .slice b1.p2 b1.l2 b1.c2] (fun x hx => (((Fbx0.out.ext (tr E2 E3).out)).ext hx).part 12 4) Tryz.underlying26 E4.out ?_
  (try simp only [Act.put, zA, zB, zC])
  refine mB 8 9 (bs 11 511) (bs 11 767) (u := .pointer (some ⟨wL.drew.heap.size, 0, none⟩)) (wj := (wL.drew.alloc (.cells z4 26))) (n03Sub (L := L) (NIn.mk (Fa1.out.ext (tr E1 (tr E2 (tr E3 E4))).out)) (NIn.mk (Fb1.out.ext (tr E1 (tr E2 (tr E3 E4))).out)) (by omega)) (E4.out.alloc _) ?_ ?_
  ·rintro e w5 ⟨cf, rfl, hc, hx⟩
   have E5 : Hid (Ext wL.drew w5) := hx
   have FFA := zH hc
   have Z_cf := hc.size
   have O_cf := hc.one
   clear hc
   clear hx
   refine ⟨_, rfl, (tr E4 E5).out, ?_⟩
   (try simp only [Act.put, zA, zB, zC])
   refine mU 9 (bs 11 1023) (v := .pointer (some ⟨w5.heap.size, 0, none⟩)) (w' := (w5.alloc (.cells z4 26))) ((tr E4 E5).out.alloc _) ?_
   (try simp only [Act.put, zA, zB, zC])
   have E6 := zH (show Ext w5 (w5.alloc (.cells z4 26)) from (Ext.refl _).alloc _)
   have Fnb9 := zH (Blk.new w5 26 z4)
   have hbx := Fnb9.out
   have ob := Own.setCells (w5.alloc (.cells z4 26)) w5.heap.size cf
   have hgb : wL.heap.size ≤ w5.heap.size := (tr E4 E5).out.size
   have hS8 : Ext wL ((w5.alloc (.cells z4 26)).setCells w5.heap.size 0 (cf : Array Value).toList) := ob.ext (tr E4 (tr E5 E6)).out hgb
   refine mO 10 (bs 11 2047) cf hbx (Eq.trans Z_cf rfl) (by rw [show (cf : Array Value).size = 4 from Z_cf]; kernel_rfl) O_cf hS8 ?_
   (try simp only [Act.put])
   refine wpAnyH_done (by kernel_rfl) ?_ _
   go_wp2_with fail
   go_meet
   exact ⟨_, _, rfl, ((FFA.out.ext E6.out)).map (fun r q h => h.own hbx (noU_of _ (by simp)) ob), hbx.setCells cf (Eq.trans Z_cf rfl), hS8⟩
  ·(try simp only [Act.put, zA, zB, zC])
   have E5 := zH (show Ext wL.drew (wL.drew.alloc (.cells z4 26)) from (Ext.refl _).alloc _)
   have Fnb9 := zH (Blk.new wL.drew 26 z4)
   refine mC 8 (bs 11 1023) (n03Sub (L := L) (NIn.mk (Fa1.out.ext (tr E1 (tr E2 (tr E3 (tr E4 E5)))).out)) (NIn.mk (Fb1.out.ext (tr E1 (tr E2 (tr E3 (tr E4 E5)))).out)) (by omega)) ?_
   rintro e w6 ⟨cf, rfl, hc, hx⟩
   have E6 := zH (show Ext (wL.drew.alloc (.cells z4 26)) w6 from hx)
   have FFA := zH hc
   have Z_cf := hc.size
   have O_cf := hc.one
   clear hc
   clear hx
   refine ⟨_, rfl, (tr E4 (tr E5 E6)).out, ?_⟩
   (try simp only [Act.put, zA, zB, zC])
   have hbx := (Fnb9.out.ext E6.out)
   have ob := Own.setCells w6 wL.drew.heap.size cf
   have hgb : wL.heap.size ≤ wL.drew.heap.size := E4.out.size
   have hS8 : Ext wL (w6.setCells wL.drew.heap.size 0 (cf : Array Value).toList) := ob.ext (tr E4 (tr E5 E6)).out hgb
   refine mO 10 (bs 11 2047) cf hbx (Eq.trans Z_cf rfl) (by rw [show (cf : Array Value).size = 4 from Z_cf]; kernel_rfl) O_cf hS8 ?_
   (try simp only [Act.put])
   refine wpAnyH_done (by kernel_rfl) ?_ _
   go_wp2_with fail
   go_meet
   exact ⟨_, _, rfl, (FFA.out).map (fun r q h => h.own hbx (noU_of _ (by simp)) ob), hbx.setCells cf (Eq.trans Z_cf rfl), hS8⟩
 case rest =>
  obtain ⟨Xcfa, cfa, rfl, hfa, hb8, hx⟩ := hcut
  generalize wc = wv at *
  have E4 : Hid (Ext wL wv) := hx
  have Zcfa := hfa.size
  have Ocfa := hfa.one
  have FFA := zH hfa
  have Fbcfa := zH hb8
  clear hfa hb8 hx
  go_upto_region 3 with fail
  go_cut [7] (fun s wx => ∃ (X8 : Nat) (c8 : Array Value), s = .pointer (some ⟨X8, 0, none⟩) ∧ NIs wx c8 ((A1 - B1) + (C1 - B1)) ∧ Blk wx X8 26 c8 ∧ Ext wv wx)
  case first =>
   refine wp_region_held_drew (S := fun x => Ext wv x) (by kernel_rfl) (Ext.refl _).drew (fun _ => ?_)
   have E5 := zH (show Ext wv wv.drew from (Ext.refl _).drew)
   refine mL 0 (bs 13 1) (fun x hx => (Fbcfa.out).ext hx) Tryz.underlying26 (by rw [show (cfa : Array Value).size = 4 from Zcfa]; kernel_rfl) E5.out ?_
   (try simp only [Act.put, zA, zB, zC])
   refine mV 1 (bs 13 3) E5.out ?_
   (try simp only [Act.put, zA, zB, zC])
   refine mV 2 (bs 13 7) E5.out ?_
   (try simp only [Act.put, zA, zB, zC])
   refine mV 3 (bs 13 15) E5.out ?_
   refine mR 4 (bs 13 31) w.heap.size 12 [.bool b1.n, .slice b1.p b1.l b1.c, .bool b1.m, .slice b1.p2 b1.l2 b1.c2] (fun x hx => (((Fbx0.out.ext (tr E2 (tr E3 E4)).out)).ext hx).part 12 4) Tryz.underlying26 E5.out ?_
   (try simp only [Act.put, zA, zB, zC])
   refine mV 5 (bs 13 63) E5.out ?_
   (try simp only [Act.put, zA, zB, zC])
   refine mV 6 (bs 13 127) E5.out ?_
   (try simp only [Act.put, zA, zB, zC])
   refine mV 7 (bs 13 255) E5.out ?_
   refine mR 8 (bs 13 511) w.heap.size 20 [.bool c1.n, .slice c1.p c1.l c1.c, .bool c1.m, .slice c1.p2 c1.l2 c1.c2] (fun x hx => (((Fbx0.out.ext (tr E2 (tr E3 E4)).out)).ext hx).part 20 4) Tryz.underlying26 E5.out ?_
   (try simp only [Act.put, zA, zB, zC])
   refine mB 9 11 (bs 13 1023) (bs 13 2559) (u := .pointer (some ⟨wv.drew.heap.size, 0, none⟩)) (wj := (wv.drew.alloc (.cells z4 26))) (n03Sub (L := L) (NIn.mk (Fb1.out.ext (tr E1 (tr E2 (tr E3 (tr E4 E5)))).out)) (NIn.mk (Fc1.out.ext (tr E1 (tr E2 (tr E3 (tr E4 E5)))).out)) (by omega)) (E5.out.alloc _) ?_ ?_
   ·rintro e w6 ⟨cg, rfl, hc, hx⟩
    have E6 : Hid (Ext wv.drew w6) := hx
    have FFC := zH hc
    have Z_cg := hc.size
    have O_cg := hc.one
    clear hc
    clear hx
    refine ⟨_, rfl, (tr E5 E6).out, ?_⟩
    (try simp only [Act.put, zA, zB, zC])
    refine mB 10 11 (bs 13 2047) (bs 13 3071) (u := .pointer (some ⟨w6.heap.size, 0, none⟩)) (wj := (w6.alloc (.cells z4 26))) (n03Sub (L := 2 * L + 1) ((FFA.out.ext (tr E5 E6).out).isIn (by omega)) (FFC.out.isIn (by omega)) (by omega)) ((tr E5 E6).out.alloc _) ?_ ?_
    ·rintro e w7 ⟨ch, rfl, hc, hx⟩
     have E7 : Hid (Ext w6 w7) := hx
     rw [den_eq] at hc
     have FDE := zH hc
     have Z_ch := hc.size
     have O_ch := hc.one
     clear hc
     clear hx
     refine ⟨_, rfl, (tr E5 (tr E6 E7)).out, ?_⟩
     (try simp only [Act.put, zA, zB, zC])
     refine mU 11 (bs 13 4095) (v := .pointer (some ⟨w7.heap.size, 0, none⟩)) (w' := (w7.alloc (.cells z4 26))) ((tr E5 (tr E6 E7)).out.alloc _) ?_
     (try simp only [Act.put, zA, zB, zC])
     have E8 := zH (show Ext w7 (w7.alloc (.cells z4 26)) from (Ext.refl _).alloc _)
     have Fnb11 := zH (Blk.new w7 26 z4)
     have hbx := Fnb11.out
     have ob := Own.setCells (w7.alloc (.cells z4 26)) w7.heap.size ch
     have hgb : wv.heap.size ≤ w7.heap.size := (tr E5 (tr E6 E7)).out.size
     have hS8 : Ext wv ((w7.alloc (.cells z4 26)).setCells w7.heap.size 0 (ch : Array Value).toList) := ob.ext (tr E5 (tr E6 (tr E7 E8))).out hgb
     refine mO 12 (bs 13 8191) ch hbx (Eq.trans Z_ch rfl) (by rw [show (ch : Array Value).size = 4 from Z_ch]; kernel_rfl) O_ch hS8 ?_
     (try simp only [Act.put])
     refine wpAnyH_done (by kernel_rfl) ?_ _
     go_wp2_with fail
     go_meet
     exact ⟨_, _, rfl, ((FDE.out.ext E8.out)).map (fun r q h => h.own hbx (noU_of _ (by simp)) ob), hbx.setCells ch (Eq.trans Z_ch rfl), hS8⟩
    ·(try simp only [Act.put, zA, zB, zC])
     have E7 := zH (show Ext w6 (w6.alloc (.cells z4 26)) from (Ext.refl _).alloc _)
     have Fnb11 := zH (Blk.new w6 26 z4)
     refine mC 10 (bs 13 4095) (n03Sub (L := 2 * L + 1) ((FFA.out.ext (tr E5 (tr E6 E7)).out).isIn (by omega)) ((FFC.out.ext E7.out).isIn (by omega)) (by omega)) ?_
     rintro e w8 ⟨ch, rfl, hc, hx⟩
     have E8 := zH (show Ext (w6.alloc (.cells z4 26)) w8 from hx)
     rw [den_eq] at hc
     have FDE := zH hc
     have Z_ch := hc.size
     have O_ch := hc.one
     clear hc
     clear hx
     refine ⟨_, rfl, (tr E5 (tr E6 (tr E7 E8))).out, ?_⟩
     (try simp only [Act.put, zA, zB, zC])
     have hbx := (Fnb11.out.ext E8.out)
     have ob := Own.setCells w8 w6.heap.size ch
     have hgb : wv.heap.size ≤ w6.heap.size := (tr E5 E6).out.size
     have hS8 : Ext wv (w8.setCells w6.heap.size 0 (ch : Array Value).toList) := ob.ext (tr E5 (tr E6 (tr E7 E8))).out hgb
     refine mO 12 (bs 13 8191) ch hbx (Eq.trans Z_ch rfl) (by rw [show (ch : Array Value).size = 4 from Z_ch]; kernel_rfl) O_ch hS8 ?_
     (try simp only [Act.put])
     refine wpAnyH_done (by kernel_rfl) ?_ _
     go_wp2_with fail
     go_meet
     exact ⟨_, _, rfl, (FDE.out).map (fun r q h => h.own hbx (noU_of _ (by simp)) ob), hbx.setCells ch (Eq.trans Z_ch rfl), hS8⟩
   ·(try simp only [Act.put, zA, zB, zC])
    have E6 := zH (show Ext wv.drew (wv.drew.alloc (.cells z4 26)) from (Ext.refl _).alloc _)
    have Fnb11 := zH (Blk.new wv.drew 26 z4)
    refine mC 9 (bs 13 3071) (n03Sub (L := L) (NIn.mk (Fb1.out.ext (tr E1 (tr E2 (tr E3 (tr E4 (tr E5 E6))))).out)) (NIn.mk (Fc1.out.ext (tr E1 (tr E2 (tr E3 (tr E4 (tr E5 E6))))).out)) (by omega)) ?_
    rintro e w7 ⟨cg, rfl, hc, hx⟩
    have E7 := zH (show Ext (wv.drew.alloc (.cells z4 26)) w7 from hx)
    have FFC := zH hc
    have Z_cg := hc.size
    have O_cg := hc.one
    clear hc
    clear hx
    refine ⟨_, rfl, (tr E5 (tr E6 E7)).out, ?_⟩
    (try simp only [Act.put, zA, zB, zC])
    refine mC 10 (bs 13 4095) (n03Sub (L := 2 * L + 1) ((FFA.out.ext (tr E5 (tr E6 E7)).out).isIn (by omega)) (FFC.out.isIn (by omega)) (by omega)) ?_
    rintro e w8 ⟨ch, rfl, hc, hx⟩
    have E8 : Hid (Ext w7 w8) := hx
    rw [den_eq] at hc
    have FDE := zH hc
    have Z_ch := hc.size
    have O_ch := hc.one
    clear hc
    clear hx
    refine ⟨_, rfl, (tr E5 (tr E6 (tr E7 E8))).out, ?_⟩
    (try simp only [Act.put, zA, zB, zC])
    have hbx := (Fnb11.out.ext (tr E7 E8).out)
    have ob := Own.setCells w8 wv.drew.heap.size ch
    have hgb : wv.heap.size ≤ wv.drew.heap.size := E5.out.size
    have hS8 : Ext wv (w8.setCells wv.drew.heap.size 0 (ch : Array Value).toList) := ob.ext (tr E5 (tr E6 (tr E7 E8))).out hgb
    refine mO 12 (bs 13 8191) ch hbx (Eq.trans Z_ch rfl) (by rw [show (ch : Array Value).size = 4 from Z_ch]; kernel_rfl) O_ch hS8 ?_
    (try simp only [Act.put])
    refine wpAnyH_done (by kernel_rfl) ?_ _
    go_wp2_with fail
    go_meet
    exact ⟨_, _, rfl, (FDE.out).map (fun r q h => h.own hbx (noU_of _ (by simp)) ob), hbx.setCells ch (Eq.trans Z_ch rfl), hS8⟩
  case rest =>
   obtain ⟨Xcde, cde, rfl, hfa, hb8, hx⟩ := hcut
   generalize wc = wu at *
   have E5 : Hid (Ext wv wu) := hx
   have Zcde := hfa.size
   have Ocde := hfa.one
   have FDE := zH hfa
   have Fbcde := zH hb8
   clear hfa hb8 hx
   by_cases hden : ((A1 - B1) + (C1 - B1)) = 0
   ·go_upto_region 4 with fail
    refine wp_region_lit ?_
    refine pL (Fbcfa.out.ext E5.out) Tryz.underlying26 (by rw [show (cfa : Array Value).size = 4 from Zcfa]; kernel_rfl) ?_
    (try simp only [Act.put, zA, zB, zC])
    refine pL Fbcde.out Tryz.underlying26 (by rw [show (cde : Array Value).size = 4 from Zcde]; kernel_rfl) ?_
    (try simp only [Act.put, zA, zB, zC])
    refine mv_call (by rfl) (by go_simp) (r3quo_zero (6 * L + 8) _ _ (A1 - B1) ((A1 - B1) + (C1 - B1)) _ ((FFA.out.ext E5.out).isIn (by omega)) (FDE.out.isIn (by omega)) (by omega) hden) ?_
    rintro e w6 ⟨rfl, hx⟩
    have E6 : Hid (Ext wu w6) := hx
    clear hx
    refine ⟨_, rfl, ?_⟩
    (try simp only [Act.put, zA, zB, zC])
    refine pV (w' := w6) ?_
    (try simp only [Act.put, zA, zB, zC])
    refine pV (w' := w6) ?_
    (try simp only [Act.put, zA, zB, zC])
    refine pV (w' := w6) ?_
    (try simp only [Act.put, zA, zB, zC])
    refine mv_val (v := .pointer (some ⟨w6.heap.size, 0, none⟩)) (w' := w6.alloc (.cells z4 26)) (by rfl) (by go_simp) ?_
    (try simp only [Act.put, zA, zB, zC])
    refine pO z4 (Blk.new w6 _ _) rfl (by kernel_rfl) (all_oneCell_toArray (by simp [Value.oneCell'])) ?_
    (try simp only [Act.put])
    obtain ⟨xq1, xq2⟩ := new_var w6 26 z4 z4 rfl
    generalize (w6.alloc (.cells z4 26)).setCells w6.heap.size 0 (z4 : Array Value).toList = w7 at *
    generalize w6.heap.size = X7 at *
    have E7 : Hid (Ext w6 w7) := xq1
    have FV8 := zH xq2
    clear xq1 xq2
    refine pV (w' := w7) ?_
    (try simp only [Act.put, zA, zB, zC])
    go_upto_region 5 with fail
    refine wp_region_held_drew (S := fun x => Ext w7 x) (by kernel_rfl) (Ext.refl _).drew (fun _ => ?_)
    have E8 := zH (show Ext w7 w7.drew from (Ext.refl _).drew)
    refine mV 0 (bs 14 1) E8.out ?_
    (try simp only [Act.put, zA, zB, zC])
    refine mV 1 (bs 14 3) E8.out ?_
    (try simp only [Act.put, zA, zB, zC])
    refine mV 2 (bs 14 7) E8.out ?_
    refine mS 3 (bs 14 15) E8.out ?_
    refine mS 4 (bs 14 31) E8.out ?_
    refine mS 5 (bs 14 63) E8.out ?_
    refine mS 6 (bs 14 127) E8.out ?_
    (try simp only [Act.put, zA, zB, zC])
    refine mV 7 (bs 14 255) E8.out ?_
    (try simp only [Act.put, zA, zB, zC])
    refine mV 8 (bs 14 511) E8.out ?_
    refine mS 9 (bs 14 1023) E8.out ?_
    refine mS 10 (bs 14 2047) E8.out ?_
    refine mS 11 (bs 14 4095) E8.out ?_
    refine mS 12 (bs 14 8191) E8.out ?_
    (try simp only [Act.put, zA, zB, zC])
    refine mV 13 (bs 14 16383) E8.out ?_
    (try simp only [Act.put, zA, zB, zC])
    refine wpAnyH_done (by kernel_rfl) ?_ _
    go_wp2_with fail
    go_ret
    exact ⟨_, rfl, (by rw [qVals_out (qTop_out0 hden)]; exact RatsV.of_blk (rs := [a1, c1]) (FbL.out.ext (tr E4 (tr E5 (tr E6 (tr E7 E8)))).out) rfl (in2 ((Fa1.out.ext (tr E1 (tr E2 (tr E3 (tr E4 (tr E5 (tr E6 (tr E7 E8))))))).out).mono (by omega)) ((Fc1.out.ext (tr E1 (tr E2 (tr E3 (tr E4 (tr E5 (tr E6 (tr E7 E8))))))).out).mono (by omega)))), (tr E1 (tr E2 (tr E3 (tr E4 (tr E5 (tr E6 (tr E7 E8))))))).out⟩
   ·go_upto_region 4 with fail
    refine wp_region_lit ?_
    refine pL (Fbcfa.out.ext E5.out) Tryz.underlying26 (by rw [show (cfa : Array Value).size = 4 from Zcfa]; kernel_rfl) ?_
    (try simp only [Act.put, zA, zB, zC])
    refine pL Fbcde.out Tryz.underlying26 (by rw [show (cde : Array Value).size = 4 from Zcde]; kernel_rfl) ?_
    (try simp only [Act.put, zA, zB, zC])
    refine mv_call (by rfl) (by go_simp) (r3quo_any (6 * L + 8) _ _ (A1 - B1) ((A1 - B1) + (C1 - B1)) _ ((FFA.out.ext E5.out).isIn (by omega)) (FDE.out.isIn (by omega)) (by omega) hden) ?_
    rintro e w6 ⟨ct, rfl, hc, hx⟩
    have E6 : Hid (Ext wu w6) := hx
    have FTO := zH hc
    have Z_ct := hc.size
    have O_ct := hc.one
    clear hc
    clear hx
    refine ⟨_, rfl, ?_⟩
    (try simp only [Act.put, zA, zB, zC])
    refine pV (w' := w6) ?_
    (try simp only [Act.put, zA, zB, zC])
    refine pV (w' := w6) ?_
    (try simp only [Act.put, zA, zB, zC])
    refine pV (w' := w6) ?_
    (try simp only [Act.put, zA, zB, zC])
    refine mv_val (v := .pointer (some ⟨w6.heap.size, 0, none⟩)) (w' := w6.alloc (.cells z4 26)) (by rfl) (by go_simp) ?_
    (try simp only [Act.put, zA, zB, zC])
    refine pO ct (Blk.new w6 _ _) (Eq.trans Z_ct rfl) (by rw [show (ct : Array Value).size = 4 from Z_ct]; kernel_rfl) O_ct ?_
    (try simp only [Act.put])
    obtain ⟨xq1, xq2⟩ := new_var w6 26 z4 ct (Eq.trans Z_ct rfl)
    generalize (w6.alloc (.cells z4 26)).setCells w6.heap.size 0 (ct : Array Value).toList = w7 at *
    generalize w6.heap.size = X7 at *
    have E7 : Hid (Ext w6 w7) := xq1
    have FV8 := zH xq2
    clear xq1 xq2
    refine pV (w' := w7) ?_
    (try simp only [Act.put, zA, zB, zC])
    obtain ⟨s0, hs0⟩ : ∃ s, s = rcmp ((A1 - B1) / ((A1 - B1) + (C1 - B1))) ((0 : Int) : Rat) := ⟨_, rfl⟩
    obtain ⟨s1, hs1⟩ : ∃ s, s = rcmp ((A1 - B1) / ((A1 - B1) + (C1 - B1))) ((1 : Int) : Rat) := ⟨_, rfl⟩
    have HSZ := zH hs0
    have HSO := zH hs1
    clear hs0 hs1
    by_cases hgt : 0 < s0
    ·by_cases hlt : s1 < 0
     ·go_upto_region 5 with fail
      refine wp_region_held_drew (S := fun x => Ext w7 x) (by kernel_rfl) (Ext.refl _).drew (fun _ => ?_)
      have E8 := zH (show Ext w7 w7.drew from (Ext.refl _).drew)
      refine mV 0 (bs 14 1) E8.out ?_
      (try simp only [Act.put, zA, zB, zC])
      refine mV 1 (bs 14 3) E8.out ?_
      (try simp only [Act.put, zA, zB, zC])
      refine mV 2 (bs 14 7) E8.out ?_
      refine mL 3 (bs 14 15) (fun x hx => (FV8.out).ext hx) Tryz.underlying26 (by rw [show (ct : Array Value).size = 4 from Z_ct]; kernel_rfl) E8.out ?_
      (try simp only [Act.put, zA, zB, zC])
      refine mC 4 (bs 14 31) (r03FromInt 0 _ (by omega) (by omega)) ?_
      rintro e w9 ⟨n0, rfl, hc, hx⟩
      have E9 : Hid (Ext w7.drew w9) := hx
      have FIn0 := zH hc
      have Z_n0 := hc.size
      have O_n0 := hc.one
      clear hc
      clear hx
      refine ⟨_, rfl, (tr E8 E9).out, ?_⟩
      (try simp only [Act.put, zA, zB, zC])
      refine mC 5 (bs 14 63) (n03CmpS HSZ.out (L := 6 * L + 8) ((FTO.out.ext (tr E7 (tr E8 E9)).out).isIn (by omega)) (FIn0.out.isIn (by omega)) (by omega)) ?_
      rintro e w10 ⟨rfl, hx⟩
      have E10 : Hid (Ext w9 w10) := hx
      clear hx
      refine ⟨_, rfl, (tr E8 (tr E9 E10)).out, ?_⟩
      (try simp only [Act.put, zA, zB, zC])
      refine mV 6 (bs 14 127) (tr E8 (tr E9 E10)).out ?_
      (try simp only [Act.put, zA, zB, zC])
      refine mV 7 (bs 14 255) (tr E8 (tr E9 E10)).out ?_
      (try simp only [Act.put, zA, zB, zC])
      refine mV 8 (bs 14 511) (tr E8 (tr E9 E10)).out ?_
      refine mL 9 (bs 14 1023) (fun x hx => (FV8.out).ext hx) Tryz.underlying26 (by rw [show (ct : Array Value).size = 4 from Z_ct]; kernel_rfl) (tr E8 (tr E9 E10)).out ?_
      (try simp only [Act.put, zA, zB, zC])
      refine mC 10 (bs 14 2047) (r03FromInt 1 _ (by omega) (by omega)) ?_
      rintro e w11 ⟨n1, rfl, hc, hx⟩
      have E11 : Hid (Ext w10 w11) := hx
      have FIn1 := zH hc
      have Z_n1 := hc.size
      have O_n1 := hc.one
      clear hc
      clear hx
      refine ⟨_, rfl, (tr E8 (tr E9 (tr E10 E11))).out, ?_⟩
      (try simp only [Act.put, zA, zB, zC])
      refine mC 11 (bs 14 4095) (n03CmpS HSO.out (L := 6 * L + 8) ((FTO.out.ext (tr E7 (tr E8 (tr E9 (tr E10 E11)))).out).isIn (by omega)) (FIn1.out.isIn (by omega)) (by omega)) ?_
      rintro e w12 ⟨rfl, hx⟩
      have E12 : Hid (Ext w11 w12) := hx
      clear hx
      refine ⟨_, rfl, (tr E8 (tr E9 (tr E10 (tr E11 E12)))).out, ?_⟩
      (try simp only [Act.put, zA, zB, zC])
      refine mV 12 (bs 14 8191) (tr E8 (tr E9 (tr E10 (tr E11 E12)))).out ?_
      (try simp only [Act.put, zA, zB, zC])
      refine mV 13 (bs 14 16383) (tr E8 (tr E9 (tr E10 (tr E11 E12)))).out ?_
      (try simp only [Act.put, zA, zB, zC])
      refine wpAnyH_done (by kernel_rfl) ?_ _
      go_upto_region 6 with fail
      refine wp_region_lit ?_
      refine pV (w' := w12) ?_
      (try simp only [Act.put, zA, zB, zC])
      refine pL (Fbx0.out.ext (tr E2 (tr E3 (tr E4 (tr E5 (tr E6 (tr E7 (tr E8 (tr E9 (tr E10 (tr E11 E12)))))))))).out) Tryz.underlying32 (by rw [show (#[.bool a0.n, .slice a0.p a0.l a0.c, .bool a0.m, .slice a0.p2 a0.l2 a0.c2, .bool a1.n, .slice a1.p a1.l a1.c, .bool a1.m, .slice a1.p2 a1.l2 a1.c2, .bool b0.n, .slice b0.p b0.l b0.c, .bool b0.m, .slice b0.p2 b0.l2 b0.c2, .bool b1.n, .slice b1.p b1.l b1.c, .bool b1.m, .slice b1.p2 b1.l2 b1.c2, .bool c0.n, .slice c0.p c0.l c0.c, .bool c0.m, .slice c0.p2 c0.l2 c0.c2, .bool c1.n, .slice c1.p c1.l c1.c, .bool c1.m, .slice c1.p2 c1.l2 c1.c2] : Array Value).size = 24 from rfl]; kernel_rfl) ?_
      (try simp only [Act.put, zA, zB, zC])
      refine pL (FV8.out.ext (tr E8 (tr E9 (tr E10 (tr E11 E12)))).out) Tryz.underlying26 (by rw [show (ct : Array Value).size = 4 from Z_ct]; kernel_rfl) ?_
      (try simp only [Act.put, zA, zB, zC])
      refine mv_call (by rfl) (by go_simp) (revalQuad_any (6 * L + 8) _ _ A0 A1 B0 B1 C0 C1 ((A1 - B1) / ((A1 - B1) + (C1 - B1))) _ ((FP.out.ext (tr E1 (tr E2 (tr E3 (tr E4 (tr E5 (tr E6 (tr E7 (tr E8 (tr E9 (tr E10 (tr E11 E12))))))))))).out).mono (by omega)) ((FTO.out.ext (tr E7 (tr E8 (tr E9 (tr E10 (tr E11 E12))))).out).isIn (by omega)) (by omega) (by omega)) ?_
      rintro e w13 ⟨ce, rfl, hc, hx⟩
      have E13 : Hid (Ext w12 w13) := hx
      obtain ⟨e0, e1, rfl, hc0, hc1⟩ := hc
      have Fe0 := zH hc0
      have Fe1 := zH hc1
      clear hc0 hc1
      clear hx
      refine ⟨_, rfl, ?_⟩
      (try simp only [Act.put, zA, zB, zC])
      refine pV (w' := w13) ?_
      (try simp only [Act.put, zA, zB, zC])
      refine mv_val (v := .agg #[.bool e1.n, .slice e1.p e1.l e1.c, .bool e1.m, .slice e1.p2 e1.l2 e1.c2]) (w' := w13) (by rfl) (by have hix := idx1 e0 e1; go_simp <;> with_reducible rfl) ?_
      (try simp only [Act.put, zA, zB, zC])
      refine mv_val (v := .slice (some ⟨w13.heap.size, 0, none⟩) 1 1) (w' := (w13.alloc (.cells #[.bool e1.n, .slice e1.p e1.l e1.c, .bool e1.m, .slice e1.p2 e1.l2 e1.c2] 26))) (by rfl) (by go_simp) ?_
      (try simp only [Act.put, zA, zB, zC])
      have hrow : RowN (w13.alloc (.cells #[.bool e1.n, .slice e1.p e1.l e1.c, .bool e1.m, .slice e1.p2 e1.l2 e1.c2] 26)) XL 26 4 (.slice (some ⟨XL, 0, none⟩) 2 2) 2 (rvCells [a1, c1]) := (RowN.made (xs := rvCells [a1, c1]) (FbL.out.ext (tr E4 (tr E5 (tr E6 (tr E7 (tr E8 (tr E9 (tr E10 (tr E11 (tr E12 E13))))))))).out) (Nat.le_refl _) rfl (noUL_rv _) (by unfold maxLen; omega)).alloc' _
      have hbl : XL ≤ (w13.alloc (.cells #[.bool e1.n, .slice e1.p e1.l e1.c, .bool e1.m, .slice e1.p2 e1.l2 e1.c2] 26)).heap.size := Nat.le_of_lt (((FbL.out.ext (tr E4 (tr E5 (tr E6 (tr E7 (tr E8 (tr E9 (tr E10 (tr E11 (tr E12 E13))))))))).out)).alloc _).lt
      have hEL : Ext w (w13.alloc (.cells #[.bool e1.n, .slice e1.p e1.l e1.c, .bool e1.m, .slice e1.p2 e1.l2 e1.c2] 26)) := ((tr E1 (tr E2 (tr E3 (tr E4 (tr E5 (tr E6 (tr E7 (tr E8 (tr E9 (tr E10 (tr E11 (tr E12 E13)))))))))))).out).alloc _
      have hee := (Fe1.out).ext ((Ext.refl _).alloc (.cells #[.bool e1.n, .slice e1.p e1.l e1.c, .bool e1.m, .slice e1.p2 e1.l2 e1.c2] 26))
      refine wpList_if (by rfl) (wp_append_rowN _ _ 64 (by rfl) XL 26 i0 _ 4 64 Tryz.underlying64 HI.out.1 HI.out.2.1 HI.out.2.2.1 HI.out.2.2.2 rfl (by decide) noUL_z _ 2 (rvCells [a1, c1]) (by rfl) hrow ⟨w13.heap.size, 0, none⟩ 1 1 [.bool e1.n, .slice e1.p e1.l e1.c, .bool e1.m, .slice e1.p2 e1.l2 e1.c2] (by rfl) rfl (four_new _ _ _ _ _ _) (one_rv e1) (noUL_one e1) (by decide) (by unfold maxLen; omega) (by omega) hbl ?_)
      intro g cap w3 h2 h3 h4
      (try simp only [Act.put, zA, zB, zC])
      have hE3 : Ext w w3 := hEL.grown h3 (fun j hj => Nat.le_trans hgl (hrow.block j hj))
      have h5 := h4 _ _ hee
      have h6 : RatsV (16 * (6 * L + 8) + 10) w3 (.slice (some ⟨g, 0, none⟩) (2 + 1) cap) (qVals A1 B1 C1) := by
       rw [qVals_in (qTop_in (by have := HSZ.out; omega) (by have := HSO.out; omega))]
       exact RatsV.of_row (rs := [a1, c1, e1]) h2 rfl (in3 ((Fa1.out.ext hE3).mono (by omega)) ((Fc1.out.ext hE3).mono (by omega)) (h5.isIn (by omega)))
      clear hrow hbl hEL hee h2 h3 h4 h5
      generalize w3 = w4 at *
      refine mv_val (v := .slice (some ⟨g, 0, none⟩) (2 + 1) cap) (w' := w4) (by rfl) (by go_simp) ?_
      (try simp only [Act.put, zA, zB, zC])
      go_wp2_with fail
      go_ret
      exact ⟨_, rfl, h6, hE3⟩
     ·go_upto_region 5 with fail
      refine wp_region_held_drew (S := fun x => Ext w7 x) (by kernel_rfl) (Ext.refl _).drew (fun _ => ?_)
      have E8 := zH (show Ext w7 w7.drew from (Ext.refl _).drew)
      refine mV 0 (bs 14 1) E8.out ?_
      (try simp only [Act.put, zA, zB, zC])
      refine mV 1 (bs 14 3) E8.out ?_
      (try simp only [Act.put, zA, zB, zC])
      refine mV 2 (bs 14 7) E8.out ?_
      refine mL 3 (bs 14 15) (fun x hx => (FV8.out).ext hx) Tryz.underlying26 (by rw [show (ct : Array Value).size = 4 from Z_ct]; kernel_rfl) E8.out ?_
      (try simp only [Act.put, zA, zB, zC])
      refine mC 4 (bs 14 31) (r03FromInt 0 _ (by omega) (by omega)) ?_
      rintro e w9 ⟨n0, rfl, hc, hx⟩
      have E9 : Hid (Ext w7.drew w9) := hx
      have FIn0 := zH hc
      have Z_n0 := hc.size
      have O_n0 := hc.one
      clear hc
      clear hx
      refine ⟨_, rfl, (tr E8 E9).out, ?_⟩
      (try simp only [Act.put, zA, zB, zC])
      refine mC 5 (bs 14 63) (n03CmpS HSZ.out (L := 6 * L + 8) ((FTO.out.ext (tr E7 (tr E8 E9)).out).isIn (by omega)) (FIn0.out.isIn (by omega)) (by omega)) ?_
      rintro e w10 ⟨rfl, hx⟩
      have E10 : Hid (Ext w9 w10) := hx
      clear hx
      refine ⟨_, rfl, (tr E8 (tr E9 E10)).out, ?_⟩
      (try simp only [Act.put, zA, zB, zC])
      refine mV 6 (bs 14 127) (tr E8 (tr E9 E10)).out ?_
      (try simp only [Act.put, zA, zB, zC])
      refine mV 7 (bs 14 255) (tr E8 (tr E9 E10)).out ?_
      (try simp only [Act.put, zA, zB, zC])
      refine mV 8 (bs 14 511) (tr E8 (tr E9 E10)).out ?_
      refine mL 9 (bs 14 1023) (fun x hx => (FV8.out).ext hx) Tryz.underlying26 (by rw [show (ct : Array Value).size = 4 from Z_ct]; kernel_rfl) (tr E8 (tr E9 E10)).out ?_
      (try simp only [Act.put, zA, zB, zC])
      refine mC 10 (bs 14 2047) (r03FromInt 1 _ (by omega) (by omega)) ?_
      rintro e w11 ⟨n1, rfl, hc, hx⟩
      have E11 : Hid (Ext w10 w11) := hx
      have FIn1 := zH hc
      have Z_n1 := hc.size
      have O_n1 := hc.one
      clear hc
      clear hx
      refine ⟨_, rfl, (tr E8 (tr E9 (tr E10 E11))).out, ?_⟩
      (try simp only [Act.put, zA, zB, zC])
      refine mC 11 (bs 14 4095) (n03CmpS HSO.out (L := 6 * L + 8) ((FTO.out.ext (tr E7 (tr E8 (tr E9 (tr E10 E11)))).out).isIn (by omega)) (FIn1.out.isIn (by omega)) (by omega)) ?_
      rintro e w12 ⟨rfl, hx⟩
      have E12 : Hid (Ext w11 w12) := hx
      clear hx
      refine ⟨_, rfl, (tr E8 (tr E9 (tr E10 (tr E11 E12)))).out, ?_⟩
      (try simp only [Act.put, zA, zB, zC])
      refine mV 12 (bs 14 8191) (tr E8 (tr E9 (tr E10 (tr E11 E12)))).out ?_
      (try simp only [Act.put, zA, zB, zC])
      refine mV 13 (bs 14 16383) (tr E8 (tr E9 (tr E10 (tr E11 E12)))).out ?_
      (try simp only [Act.put, zA, zB, zC])
      refine wpAnyH_done (by kernel_rfl) ?_ _
      go_wp2_with fail
      go_ret
      exact ⟨_, rfl, (by rw [qVals_out (qTop_out2 (by have := HSO.out; omega))]; exact RatsV.of_blk (rs := [a1, c1]) (FbL.out.ext (tr E4 (tr E5 (tr E6 (tr E7 (tr E8 (tr E9 (tr E10 (tr E11 E12)))))))).out) rfl (in2 ((Fa1.out.ext (tr E1 (tr E2 (tr E3 (tr E4 (tr E5 (tr E6 (tr E7 (tr E8 (tr E9 (tr E10 (tr E11 E12))))))))))).out).mono (by omega)) ((Fc1.out.ext (tr E1 (tr E2 (tr E3 (tr E4 (tr E5 (tr E6 (tr E7 (tr E8 (tr E9 (tr E10 (tr E11 E12))))))))))).out).mono (by omega)))), (tr E1 (tr E2 (tr E3 (tr E4 (tr E5 (tr E6 (tr E7 (tr E8 (tr E9 (tr E10 (tr E11 E12))))))))))).out⟩
    ·go_upto_region 5 with fail
     refine wp_region_held_drew (S := fun x => Ext w7 x) (by kernel_rfl) (Ext.refl _).drew (fun _ => ?_)
     have E8 := zH (show Ext w7 w7.drew from (Ext.refl _).drew)
     refine mV 0 (bs 14 1) E8.out ?_
     (try simp only [Act.put, zA, zB, zC])
     refine mV 1 (bs 14 3) E8.out ?_
     (try simp only [Act.put, zA, zB, zC])
     refine mV 2 (bs 14 7) E8.out ?_
     refine mL 3 (bs 14 15) (fun x hx => (FV8.out).ext hx) Tryz.underlying26 (by rw [show (ct : Array Value).size = 4 from Z_ct]; kernel_rfl) E8.out ?_
     (try simp only [Act.put, zA, zB, zC])
     refine mC 4 (bs 14 31) (r03FromInt 0 _ (by omega) (by omega)) ?_
     rintro e w9 ⟨n0, rfl, hc, hx⟩
     have E9 : Hid (Ext w7.drew w9) := hx
     have FIn0 := zH hc
     have Z_n0 := hc.size
     have O_n0 := hc.one
     clear hc
     clear hx
     refine ⟨_, rfl, (tr E8 E9).out, ?_⟩
     (try simp only [Act.put, zA, zB, zC])
     refine mC 5 (bs 14 63) (n03CmpS HSZ.out (L := 6 * L + 8) ((FTO.out.ext (tr E7 (tr E8 E9)).out).isIn (by omega)) (FIn0.out.isIn (by omega)) (by omega)) ?_
     rintro e w10 ⟨rfl, hx⟩
     have E10 : Hid (Ext w9 w10) := hx
     clear hx
     refine ⟨_, rfl, (tr E8 (tr E9 E10)).out, ?_⟩
     (try simp only [Act.put, zA, zB, zC])
     refine mV 6 (bs 14 127) (tr E8 (tr E9 E10)).out ?_
     (try simp only [Act.put, zA, zB, zC])
     refine mV 7 (bs 14 255) (tr E8 (tr E9 E10)).out ?_
     (try simp only [Act.put, zA, zB, zC])
     refine mV 8 (bs 14 511) (tr E8 (tr E9 E10)).out ?_
     refine mS 9 (bs 14 1023) (tr E8 (tr E9 E10)).out ?_
     refine mS 10 (bs 14 2047) (tr E8 (tr E9 E10)).out ?_
     refine mS 11 (bs 14 4095) (tr E8 (tr E9 E10)).out ?_
     refine mS 12 (bs 14 8191) (tr E8 (tr E9 E10)).out ?_
     (try simp only [Act.put, zA, zB, zC])
     refine mV 13 (bs 14 16383) (tr E8 (tr E9 E10)).out ?_
     (try simp only [Act.put, zA, zB, zC])
     refine wpAnyH_done (by kernel_rfl) ?_ _
     go_wp2_with fail
     go_ret
     exact ⟨_, rfl, (by rw [qVals_out (qTop_out1 (by have := HSZ.out; omega))]; exact RatsV.of_blk (rs := [a1, c1]) (FbL.out.ext (tr E4 (tr E5 (tr E6 (tr E7 (tr E8 (tr E9 E10)))))).out) rfl (in2 ((Fa1.out.ext (tr E1 (tr E2 (tr E3 (tr E4 (tr E5 (tr E6 (tr E7 (tr E8 (tr E9 E10))))))))).out).mono (by omega)) ((Fc1.out.ext (tr E1 (tr E2 (tr E3 (tr E4 (tr E5 (tr E6 (tr E7 (tr E8 (tr E9 E10))))))))).out).mono (by omega)))), (tr E1 (tr E2 (tr E3 (tr E4 (tr E5 (tr E6 (tr E7 (tr E8 (tr E9 E10))))))))).out⟩

end Go.Proofs.YtllpkoinjompcaaGreat
