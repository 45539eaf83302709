/- Contracts that the claim stands on: XRfB to XFlatJ. -/
import Derived.Test.YtllpkoinjompcaaGreatM7
namespace Go.Proofs.YtllpkoinjompcaaGreat
open Go.RowKit
attribute [local go_sem ↓] Go.wp_at_zero Go.wp_at_succ run_max_ii run_min_ii

set_option maxRecDepth 20000 in
set_option maxHeartbeats 8000000 in
theorem rsplitCubic_any (L : Nat) (cp ct : Array Value) (A0 A1 B0 B1 C0 C1 D0 D1 S : Rat) (w : World) (hP : C4In L w cp A0 A1 B0 B1 C0 C1 D0 D1) (hS : NIn L w ct S) (h1 : 1 ≤ L) (hL : L ≤ 45) :
    Calls Tryz.prog 12 #[.agg cp, .agg ct] w fun e w' => ∃ c1 c2, e = .returned (.tuple #[.agg c1, .agg c2]) ∧ C4Is w' c1 A0 A1 (lerpV A0 B0 S) (lerpV A1 B1 S) (lerpV (lerpV A0 B0 S) (lerpV B0 C0 S) S) (lerpV (lerpV A1 B1 S) (lerpV B1 C1 S) S) (lerpV (lerpV (lerpV A0 B0 S) (lerpV B0 C0 S) S) (lerpV (lerpV B0 C0 S) (lerpV C0 D0 S) S) S) (lerpV (lerpV (lerpV A1 B1 S) (lerpV B1 C1 S) S) (lerpV (lerpV B1 C1 S) (lerpV C1 D1 S) S) S) ∧ C4Is w' c2 (lerpV (lerpV (lerpV A0 B0 S) (lerpV B0 C0 S) S) (lerpV (lerpV B0 C0 S) (lerpV C0 D0 S) S) S) (lerpV (lerpV (lerpV A1 B1 S) (lerpV B1 C1 S) S) (lerpV (lerpV B1 C1 S) (lerpV C1 D1 S) S) S) (lerpV (lerpV B0 C0 S) (lerpV C0 D0 S) S) (lerpV (lerpV B1 C1 S) (lerpV C1 D1 S) S) (lerpV C0 D0 S) (lerpV C1 D1 S) D0 D1 ∧ Ext w w' := by
  have ZP := hP.size
  have ZS := hS.size
  have rS := hS.rl h1
  have ra0 : Nm.rl A0 ≤ L := by obtain ⟨_, _, _, _, _, _, _, _, _, h, _, _, _, _, _, _, _⟩ := hP; have := h.rl; omega
  have ra1 : Nm.rl A1 ≤ L := by obtain ⟨_, _, _, _, _, _, _, _, _, _, h, _, _, _, _, _, _⟩ := hP; have := h.rl; omega
  have rb0 : Nm.rl B0 ≤ L := by obtain ⟨_, _, _, _, _, _, _, _, _, _, _, h, _, _, _, _, _⟩ := hP; have := h.rl; omega
  have rb1 : Nm.rl B1 ≤ L := by obtain ⟨_, _, _, _, _, _, _, _, _, _, _, _, h, _, _, _, _⟩ := hP; have := h.rl; omega
  have rc0 : Nm.rl C0 ≤ L := by obtain ⟨_, _, _, _, _, _, _, _, _, _, _, _, _, h, _, _, _⟩ := hP; have := h.rl; omega
  have rc1 : Nm.rl C1 ≤ L := by obtain ⟨_, _, _, _, _, _, _, _, _, _, _, _, _, _, h, _, _⟩ := hP; have := h.rl; omega
  have rd0 : Nm.rl D0 ≤ L := by obtain ⟨_, _, _, _, _, _, _, _, _, _, _, _, _, _, _, h, _⟩ := hP; have := h.rl; omega
  have rd1 : Nm.rl D1 ≤ L := by obtain ⟨_, _, _, _, _, _, _, _, _, _, _, _, _, _, _, _, h⟩ := hP; have := h.rl; omega
  have l00 := rl_lerpV (a := A0) (b := B0) (t := S) (L := L) ra0 rb0 rS
  have l10 := rl_lerpV (a := B0) (b := C0) (t := S) (L := L) rb0 rc0 rS
  have l20 := rl_lerpV (a := C0) (b := D0) (t := S) (L := L) rc0 rd0 rS
  have m00 := rl_lerpV (a := (lerpV A0 B0 S)) (b := (lerpV B0 C0 S)) (t := S) (L := 4 * L + 2) l00 l10 (by omega)
  have m10 := rl_lerpV (a := (lerpV B0 C0 S)) (b := (lerpV C0 D0 S)) (t := S) (L := 4 * L + 2) l10 l20 (by omega)
  have l01 := rl_lerpV (a := A1) (b := B1) (t := S) (L := L) ra1 rb1 rS
  have l11 := rl_lerpV (a := B1) (b := C1) (t := S) (L := L) rb1 rc1 rS
  have l21 := rl_lerpV (a := C1) (b := D1) (t := S) (L := L) rc1 rd1 rS
  have m01 := rl_lerpV (a := (lerpV A1 B1 S)) (b := (lerpV B1 C1 S)) (t := S) (L := 4 * L + 2) l01 l11 (by omega)
  have m11 := rl_lerpV (a := (lerpV B1 C1 S)) (b := (lerpV C1 D1 S)) (t := S) (L := 4 * L + 2) l11 l21 (by omega)
  have FP := zH hP
  have FS := zH hS
  clear hP hS
  go_enter Tryz.func12, Tryz.ntmps12
  go_upto_region 1 with fail
  have hbx0 : Blk ((((w.alloc (.cells cp 28)).alloc (.cells ct 26)).alloc (.cells #[.bool false, .slice none 0 0, .bool false, .slice none 0 0, .bool false, .slice none 0 0, .bool false, .slice none 0 0, .bool false, .slice none 0 0, .bool false, .slice none 0 0, .bool false, .slice none 0 0, .bool false, .slice none 0 0, .bool false, .slice none 0 0, .bool false, .slice none 0 0, .bool false, .slice none 0 0, .bool false, .slice none 0 0, .bool false, .slice none 0 0, .bool false, .slice none 0 0, .bool false, .slice none 0 0, .bool false, .slice none 0 0] 28)).alloc (.cells #[.bool false, .slice none 0 0, .bool false, .slice none 0 0, .bool false, .slice none 0 0, .bool false, .slice none 0 0, .bool false, .slice none 0 0, .bool false, .slice none 0 0, .bool false, .slice none 0 0, .bool false, .slice none 0 0, .bool false, .slice none 0 0, .bool false, .slice none 0 0, .bool false, .slice none 0 0, .bool false, .slice none 0 0, .bool false, .slice none 0 0, .bool false, .slice none 0 0, .bool false, .slice none 0 0, .bool false, .slice none 0 0] 28)) (w.heap.size) 28 cp := Blk.ext (Blk.new_at w _ (by simp) _ _) ((((Ext.refl _).alloc _).alloc _).alloc _)
  have hbx1 : Blk ((((w.alloc (.cells cp 28)).alloc (.cells ct 26)).alloc (.cells #[.bool false, .slice none 0 0, .bool false, .slice none 0 0, .bool false, .slice none 0 0, .bool false, .slice none 0 0, .bool false, .slice none 0 0, .bool false, .slice none 0 0, .bool false, .slice none 0 0, .bool false, .slice none 0 0, .bool false, .slice none 0 0, .bool false, .slice none 0 0, .bool false, .slice none 0 0, .bool false, .slice none 0 0, .bool false, .slice none 0 0, .bool false, .slice none 0 0, .bool false, .slice none 0 0, .bool false, .slice none 0 0] 28)).alloc (.cells #[.bool false, .slice none 0 0, .bool false, .slice none 0 0, .bool false, .slice none 0 0, .bool false, .slice none 0 0, .bool false, .slice none 0 0, .bool false, .slice none 0 0, .bool false, .slice none 0 0, .bool false, .slice none 0 0, .bool false, .slice none 0 0, .bool false, .slice none 0 0, .bool false, .slice none 0 0, .bool false, .slice none 0 0, .bool false, .slice none 0 0, .bool false, .slice none 0 0, .bool false, .slice none 0 0, .bool false, .slice none 0 0] 28)) (w.heap.size + 1) 26 ct := Blk.ext (Blk.new_at (w.alloc (.cells cp 28)) _ (by simp) _ _) (((Ext.refl _).alloc _).alloc _)
  have hR0 : Blk ((((w.alloc (.cells cp 28)).alloc (.cells ct 26)).alloc (.cells #[.bool false, .slice none 0 0, .bool false, .slice none 0 0, .bool false, .slice none 0 0, .bool false, .slice none 0 0, .bool false, .slice none 0 0, .bool false, .slice none 0 0, .bool false, .slice none 0 0, .bool false, .slice none 0 0, .bool false, .slice none 0 0, .bool false, .slice none 0 0, .bool false, .slice none 0 0, .bool false, .slice none 0 0, .bool false, .slice none 0 0, .bool false, .slice none 0 0, .bool false, .slice none 0 0, .bool false, .slice none 0 0] 28)).alloc (.cells #[.bool false, .slice none 0 0, .bool false, .slice none 0 0, .bool false, .slice none 0 0, .bool false, .slice none 0 0, .bool false, .slice none 0 0, .bool false, .slice none 0 0, .bool false, .slice none 0 0, .bool false, .slice none 0 0, .bool false, .slice none 0 0, .bool false, .slice none 0 0, .bool false, .slice none 0 0, .bool false, .slice none 0 0, .bool false, .slice none 0 0, .bool false, .slice none 0 0, .bool false, .slice none 0 0, .bool false, .slice none 0 0] 28)) (w.heap.size + 1 + 1) 28 #[.bool false, .slice none 0 0, .bool false, .slice none 0 0, .bool false, .slice none 0 0, .bool false, .slice none 0 0, .bool false, .slice none 0 0, .bool false, .slice none 0 0, .bool false, .slice none 0 0, .bool false, .slice none 0 0, .bool false, .slice none 0 0, .bool false, .slice none 0 0, .bool false, .slice none 0 0, .bool false, .slice none 0 0, .bool false, .slice none 0 0, .bool false, .slice none 0 0, .bool false, .slice none 0 0, .bool false, .slice none 0 0] := Blk.ext (Blk.new_at ((w.alloc (.cells cp 28)).alloc (.cells ct 26)) _ (by simp) _ _) ((Ext.refl _).alloc _)
  have hR1 : Blk ((((w.alloc (.cells cp 28)).alloc (.cells ct 26)).alloc (.cells #[.bool false, .slice none 0 0, .bool false, .slice none 0 0, .bool false, .slice none 0 0, .bool false, .slice none 0 0, .bool false, .slice none 0 0, .bool false, .slice none 0 0, .bool false, .slice none 0 0, .bool false, .slice none 0 0, .bool false, .slice none 0 0, .bool false, .slice none 0 0, .bool false, .slice none 0 0, .bool false, .slice none 0 0, .bool false, .slice none 0 0, .bool false, .slice none 0 0, .bool false, .slice none 0 0, .bool false, .slice none 0 0] 28)).alloc (.cells #[.bool false, .slice none 0 0, .bool false, .slice none 0 0, .bool false, .slice none 0 0, .bool false, .slice none 0 0, .bool false, .slice none 0 0, .bool false, .slice none 0 0, .bool false, .slice none 0 0, .bool false, .slice none 0 0, .bool false, .slice none 0 0, .bool false, .slice none 0 0, .bool false, .slice none 0 0, .bool false, .slice none 0 0, .bool false, .slice none 0 0, .bool false, .slice none 0 0, .bool false, .slice none 0 0, .bool false, .slice none 0 0] 28)) (w.heap.size + 1 + 1 + 1) 28 #[.bool false, .slice none 0 0, .bool false, .slice none 0 0, .bool false, .slice none 0 0, .bool false, .slice none 0 0, .bool false, .slice none 0 0, .bool false, .slice none 0 0, .bool false, .slice none 0 0, .bool false, .slice none 0 0, .bool false, .slice none 0 0, .bool false, .slice none 0 0, .bool false, .slice none 0 0, .bool false, .slice none 0 0, .bool false, .slice none 0 0, .bool false, .slice none 0 0, .bool false, .slice none 0 0, .bool false, .slice none 0 0] := Blk.ext (Blk.new_at (((w.alloc (.cells cp 28)).alloc (.cells ct 26)).alloc (.cells #[.bool false, .slice none 0 0, .bool false, .slice none 0 0, .bool false, .slice none 0 0, .bool false, .slice none 0 0, .bool false, .slice none 0 0, .bool false, .slice none 0 0, .bool false, .slice none 0 0, .bool false, .slice none 0 0, .bool false, .slice none 0 0, .bool false, .slice none 0 0, .bool false, .slice none 0 0, .bool false, .slice none 0 0, .bool false, .slice none 0 0, .bool false, .slice none 0 0, .bool false, .slice none 0 0, .bool false, .slice none 0 0] 28)) _ (by simp) _ _) (Ext.refl _)
  have hE : Ext w ((((w.alloc (.cells cp 28)).alloc (.cells ct 26)).alloc (.cells #[.bool false, .slice none 0 0, .bool false, .slice none 0 0, .bool false, .slice none 0 0, .bool false, .slice none 0 0, .bool false, .slice none 0 0, .bool false, .slice none 0 0, .bool false, .slice none 0 0, .bool false, .slice none 0 0, .bool false, .slice none 0 0, .bool false, .slice none 0 0, .bool false, .slice none 0 0, .bool false, .slice none 0 0, .bool false, .slice none 0 0, .bool false, .slice none 0 0, .bool false, .slice none 0 0, .bool false, .slice none 0 0] 28)).alloc (.cells #[.bool false, .slice none 0 0, .bool false, .slice none 0 0, .bool false, .slice none 0 0, .bool false, .slice none 0 0, .bool false, .slice none 0 0, .bool false, .slice none 0 0, .bool false, .slice none 0 0, .bool false, .slice none 0 0, .bool false, .slice none 0 0, .bool false, .slice none 0 0, .bool false, .slice none 0 0, .bool false, .slice none 0 0, .bool false, .slice none 0 0, .bool false, .slice none 0 0, .bool false, .slice none 0 0, .bool false, .slice none 0 0] 28)) := (((((Ext.refl _).alloc _).alloc _).alloc _).alloc _)
  have gR0 : w.heap.size ≤ w.heap.size + 1 + 1 := by omega
  have nbx0_R0 : w.heap.size ≠ w.heap.size + 1 + 1 := by omega
  have nbx1_R0 : w.heap.size + 1 ≠ w.heap.size + 1 + 1 := by omega
  have nR1_R0 : w.heap.size + 1 + 1 + 1 ≠ w.heap.size + 1 + 1 := by omega
  have gR1 : w.heap.size ≤ w.heap.size + 1 + 1 + 1 := by omega
  have nbx0_R1 : w.heap.size ≠ w.heap.size + 1 + 1 + 1 := by omega
  have nbx1_R1 : w.heap.size + 1 ≠ w.heap.size + 1 + 1 + 1 := by omega
  have nR0_R1 : w.heap.size + 1 + 1 ≠ w.heap.size + 1 + 1 + 1 := by omega
  generalize ((((w.alloc (.cells cp 28)).alloc (.cells ct 26)).alloc (.cells #[.bool false, .slice none 0 0, .bool false, .slice none 0 0, .bool false, .slice none 0 0, .bool false, .slice none 0 0, .bool false, .slice none 0 0, .bool false, .slice none 0 0, .bool false, .slice none 0 0, .bool false, .slice none 0 0, .bool false, .slice none 0 0, .bool false, .slice none 0 0, .bool false, .slice none 0 0, .bool false, .slice none 0 0, .bool false, .slice none 0 0, .bool false, .slice none 0 0, .bool false, .slice none 0 0, .bool false, .slice none 0 0] 28)).alloc (.cells #[.bool false, .slice none 0 0, .bool false, .slice none 0 0, .bool false, .slice none 0 0, .bool false, .slice none 0 0, .bool false, .slice none 0 0, .bool false, .slice none 0 0, .bool false, .slice none 0 0, .bool false, .slice none 0 0, .bool false, .slice none 0 0, .bool false, .slice none 0 0, .bool false, .slice none 0 0, .bool false, .slice none 0 0, .bool false, .slice none 0 0, .bool false, .slice none 0 0, .bool false, .slice none 0 0, .bool false, .slice none 0 0] 28)) = wa at *
  generalize w.heap.size + 1 + 1 + 1 = R1 at *
  generalize w.heap.size + 1 + 1 = R0 at *
  generalize w.heap.size + 1 = bx1 at *
  have E1 := zH (show Ext w wa from hE)
  have Fbx0 := zH hbx0
  have Fbx1 := zH hbx1
  have FR0 := zH hR0
  have FR1 := zH hR1
  clear hE hbx0 hbx1 hR0 hR1
  refine wp_region_held_drew (S := fun x => Ext wa x) (by kernel_rfl) (Ext.refl _).drew (fun _ => ?_)
  have E2 := zH (show Ext wa wa.drew from (Ext.refl _).drew)
  refine md_val (i := 0) (v := ?vm18) (listed' := #[true, false, false, false, false, false, false, false, false, false, false, false, false, false, false, false, false, false, false, false, false, false, false, false]) (by rfl) (by kernel_rfl) (by kernel_rfl) (by kernel_rfl) (by intro _ _ _ h; exact h) (by rfl) ?hm18 E2.out (by kernel_rfl) ?rm18
  case hm18 => (intro w hSw; (try dsimp only at hSw); go_simp <;> with_reducible rfl)
  (try simp only [Act.put, zA, zB, zC])
  refine md_part (i := 1) (listed' := #[true, true, false, false, false, false, false, false, false, false, false, false, false, false, false, false, false, false, false, false, false, false, false, false]) (by rfl) (by kernel_rfl) (by kernel_rfl) (by kernel_rfl) _ _ (by rfl) w.heap.size 0 8 _ cp _ (by intro _ _ _ h; exact h) (by rfl) (by rfl) (fun x hx => (Fbx0.out).ext hx) Tryz.underlying27 (by rfl) (by kernel_rfl) (by rw [show (cp : Array Value).size = 32 from ZP]; omega) E2.out (by kernel_rfl) ?_
  (try simp only [Act.put, zA, zB, zC])
  refine md_val (i := 2) (v := ?vm19) (listed' := #[true, true, true, false, false, false, false, false, false, false, false, false, false, false, false, false, false, false, false, false, false, false, false, false]) (by rfl) (by kernel_rfl) (by kernel_rfl) (by kernel_rfl) (by intro _ _ _ h; exact h) (by rfl) ?hm19 E2.out (by kernel_rfl) ?rm19
  case hm19 => (intro w hSw; (try dsimp only at hSw); go_simp <;> with_reducible rfl)
  (try simp only [Act.put, zA, zB, zC])
  refine md_part (i := 3) (listed' := #[true, true, true, true, false, false, false, false, false, false, false, false, false, false, false, false, false, false, false, false, false, false, false, false]) (by rfl) (by kernel_rfl) (by kernel_rfl) (by kernel_rfl) _ _ (by rfl) w.heap.size 8 8 _ cp _ (by intro _ _ _ h; exact h) (by rfl) (by rfl) (fun x hx => (Fbx0.out).ext hx) Tryz.underlying27 (by rfl) (by kernel_rfl) (by rw [show (cp : Array Value).size = 32 from ZP]; omega) E2.out (by kernel_rfl) ?_
  (try simp only [Act.put, zA, zB, zC])
  refine md_load (i := 4) (listed' := #[true, true, true, true, true, false, false, false, false, false, false, false, false, false, false, false, false, false, false, false, false, false, false, false]) (by rfl) (by kernel_rfl) (by kernel_rfl) (by kernel_rfl) _ _ (by rfl) bx1 _ ct _ (by intro _ _ _ h; exact h) (by rfl) (by rfl) (fun x hx => (Fbx1.out).ext hx) Tryz.underlying26 (by rfl) (by rw [show (ct : Array Value).size = 4 from ZS]; kernel_rfl) E2.out (by kernel_rfl) ?_
  (try simp only [Act.put, zA, zB, zC])
  refine md_val (i := 6) (v := ?vm20) (listed' := #[true, true, true, true, true, false, true, false, false, false, false, false, false, false, false, false, false, false, false, false, false, false, false, false]) (by rfl) (by kernel_rfl) (by kernel_rfl) (by kernel_rfl) (by intro _ _ _ h; exact h) (by rfl) ?hm20 E2.out (by kernel_rfl) ?rm20
  case hm20 => (intro w hSw; (try dsimp only at hSw); go_simp <;> with_reducible rfl)
  (try simp only [Act.put, zA, zB, zC])
  refine md_part (i := 7) (listed' := #[true, true, true, true, true, false, true, true, false, false, false, false, false, false, false, false, false, false, false, false, false, false, false, false]) (by rfl) (by kernel_rfl) (by kernel_rfl) (by kernel_rfl) _ _ (by rfl) w.heap.size 8 8 _ cp _ (by intro _ _ _ h; exact h) (by rfl) (by rfl) (fun x hx => (Fbx0.out).ext hx) Tryz.underlying27 (by rfl) (by kernel_rfl) (by rw [show (cp : Array Value).size = 32 from ZP]; omega) E2.out (by kernel_rfl) ?_
  (try simp only [Act.put, zA, zB, zC])
  refine md_val (i := 8) (v := ?vm21) (listed' := #[true, true, true, true, true, false, true, true, true, false, false, false, false, false, false, false, false, false, false, false, false, false, false, false]) (by rfl) (by kernel_rfl) (by kernel_rfl) (by kernel_rfl) (by intro _ _ _ h; exact h) (by rfl) ?hm21 E2.out (by kernel_rfl) ?rm21
  case hm21 => (intro w hSw; (try dsimp only at hSw); go_simp <;> with_reducible rfl)
  (try simp only [Act.put, zA, zB, zC])
  refine md_part (i := 9) (listed' := #[true, true, true, true, true, false, true, true, true, true, false, false, false, false, false, false, false, false, false, false, false, false, false, false]) (by rfl) (by kernel_rfl) (by kernel_rfl) (by kernel_rfl) _ _ (by rfl) w.heap.size 16 8 _ cp _ (by intro _ _ _ h; exact h) (by rfl) (by rfl) (fun x hx => (Fbx0.out).ext hx) Tryz.underlying27 (by rfl) (by kernel_rfl) (by rw [show (cp : Array Value).size = 32 from ZP]; omega) E2.out (by kernel_rfl) ?_
  (try simp only [Act.put, zA, zB, zC])
  refine md_load (i := 10) (listed' := #[true, true, true, true, true, false, true, true, true, true, true, false, false, false, false, false, false, false, false, false, false, false, false, false]) (by rfl) (by kernel_rfl) (by kernel_rfl) (by kernel_rfl) _ _ (by rfl) bx1 _ ct _ (by intro _ _ _ h; exact h) (by rfl) (by rfl) (fun x hx => (Fbx1.out).ext hx) Tryz.underlying26 (by rfl) (by rw [show (ct : Array Value).size = 4 from ZS]; kernel_rfl) E2.out (by kernel_rfl) ?_
  (try simp only [Act.put, zA, zB, zC])
  refine md_val (i := 12) (v := ?vm22) (listed' := #[true, true, true, true, true, false, true, true, true, true, true, false, true, false, false, false, false, false, false, false, false, false, false, false]) (by rfl) (by kernel_rfl) (by kernel_rfl) (by kernel_rfl) (by intro _ _ _ h; exact h) (by rfl) ?hm22 E2.out (by kernel_rfl) ?rm22
  case hm22 => (intro w hSw; (try dsimp only at hSw); go_simp <;> with_reducible rfl)
  (try simp only [Act.put, zA, zB, zC])
  refine md_part (i := 13) (listed' := #[true, true, true, true, true, false, true, true, true, true, true, false, true, true, false, false, false, false, false, false, false, false, false, false]) (by rfl) (by kernel_rfl) (by kernel_rfl) (by kernel_rfl) _ _ (by rfl) w.heap.size 16 8 _ cp _ (by intro _ _ _ h; exact h) (by rfl) (by rfl) (fun x hx => (Fbx0.out).ext hx) Tryz.underlying27 (by rfl) (by kernel_rfl) (by rw [show (cp : Array Value).size = 32 from ZP]; omega) E2.out (by kernel_rfl) ?_
  (try simp only [Act.put, zA, zB, zC])
  refine md_val (i := 14) (v := ?vm23) (listed' := #[true, true, true, true, true, false, true, true, true, true, true, false, true, true, true, false, false, false, false, false, false, false, false, false]) (by rfl) (by kernel_rfl) (by kernel_rfl) (by kernel_rfl) (by intro _ _ _ h; exact h) (by rfl) ?hm23 E2.out (by kernel_rfl) ?rm23
  case hm23 => (intro w hSw; (try dsimp only at hSw); go_simp <;> with_reducible rfl)
  (try simp only [Act.put, zA, zB, zC])
  refine md_part (i := 15) (listed' := #[true, true, true, true, true, false, true, true, true, true, true, false, true, true, true, true, false, false, false, false, false, false, false, false]) (by rfl) (by kernel_rfl) (by kernel_rfl) (by kernel_rfl) _ _ (by rfl) w.heap.size 24 8 _ cp _ (by intro _ _ _ h; exact h) (by rfl) (by rfl) (fun x hx => (Fbx0.out).ext hx) Tryz.underlying27 (by rfl) (by kernel_rfl) (by rw [show (cp : Array Value).size = 32 from ZP]; omega) E2.out (by kernel_rfl) ?_
  (try simp only [Act.put, zA, zB, zC])
  refine md_load (i := 16) (listed' := #[true, true, true, true, true, false, true, true, true, true, true, false, true, true, true, true, true, false, false, false, false, false, false, false]) (by rfl) (by kernel_rfl) (by kernel_rfl) (by kernel_rfl) _ _ (by rfl) bx1 _ ct _ (by intro _ _ _ h; exact h) (by rfl) (by rfl) (fun x hx => (Fbx1.out).ext hx) Tryz.underlying26 (by rfl) (by rw [show (ct : Array Value).size = 4 from ZS]; kernel_rfl) E2.out (by kernel_rfl) ?_
  (try simp only [Act.put, zA, zB, zC])
  refine tuple3 (f := 3) 5 11 17 18 19 20 17 23 29 6 7 8 27 #[.bool false, .slice none 0 0, .bool false, .slice none 0 0, .bool false, .slice none 0 0, .bool false, .slice none 0 0] (fun v w => ∃ c, v = .agg c ∧ PtIs w c (lerpV A0 B0 S) (lerpV A1 B1 S)) (fun v w => ∃ c, v = .agg c ∧ PtIs w c (lerpV B0 C0 S) (lerpV B1 C1 S)) (fun v w => ∃ c, v = .agg c ∧ PtIs w c (lerpV C0 D0 S) (lerpV C1 D1 S)) rfl rfl rfl rfl rfl rfl (by decide) (by decide) (by kernel_rfl) (fun _ hx => E2.out.trans hx) (fun _ _ _ h e => by obtain ⟨c, h1, h2⟩ := h; exact ⟨c, h1, h2.ext e⟩) (fun _ _ _ h e => by obtain ⟨c, h1, h2⟩ := h; exact ⟨c, h1, h2.ext e⟩) (fun _ _ _ h e => by obtain ⟨c, h1, h2⟩ := h; exact ⟨c, h1, h2.ext e⟩) ?hm24c1 ?hm24c2 ?hm24c3 ?hm24c4 ?hm24c5 ?hm24c6 ?hm24e undef undef undef undef undef undef (by kernel_rfl) rfl
  case hm24c1 =>
    intro v1 v2 v3 v4 v5 v6 w1 K hx hSw hK
    (try simp only [Act.put, zA, zB, zC])
    rw [if_pos (by rfl)]
    refine wp_call_op (by go_simp) (rbetween_any L _ _ _ _ _ _ _ _ _ ((FP.out.ext E1.out).ext hSw).p0 ((FP.out.ext E1.out).ext hSw).p1 ((FS.out.ext E1.out).ext hSw) h1 (by omega)) ?_
    rintro e w' ⟨c, rfl, hc, he⟩
    refine ⟨_, rfl, ?_⟩
    have hk := hK.out _ _ ⟨_, rfl, hc⟩ he
    (try simp only [Act.put, zA, zB, zC])
    simp only [Act.put, zA, zB, zC] at hk
    exact hk
  case hm24c2 =>
    intro v1 v2 v3 v4 v5 v6 w1 K hx hSw hK
    (try simp only [Act.put, zA, zB, zC])
    rw [if_pos (by rfl)]
    refine wp_call_op (by go_simp) (rbetween_any L _ _ _ _ _ _ _ _ _ ((FP.out.ext E1.out).ext hSw).p1 ((FP.out.ext E1.out).ext hSw).p2 ((FS.out.ext E1.out).ext hSw) h1 (by omega)) ?_
    rintro e w' ⟨c, rfl, hc, he⟩
    refine ⟨_, rfl, ?_⟩
    have hk := hK.out _ _ ⟨_, rfl, hc⟩ he
    (try simp only [Act.put, zA, zB, zC])
    simp only [Act.put, zA, zB, zC] at hk
    exact hk
  case hm24c3 =>
    intro v1 v2 v3 v4 v5 v6 w1 K hx hSw hK
    (try simp only [Act.put, zA, zB, zC])
    rw [if_pos (by rfl)]
    refine wp_call_op (by go_simp) (rbetween_any L _ _ _ _ _ _ _ _ _ ((FP.out.ext E1.out).ext hSw).p2 ((FP.out.ext E1.out).ext hSw).p3 ((FS.out.ext E1.out).ext hSw) h1 (by omega)) ?_
    rintro e w' ⟨c, rfl, hc, he⟩
    refine ⟨_, rfl, ?_⟩
    have hk := hK.out _ _ ⟨_, rfl, hc⟩ he
    (try simp only [Act.put, zA, zB, zC])
    simp only [Act.put, zA, zB, zC] at hk
    exact hk
  case hm24c4 =>
    intro v1 v2 v3 v4 v5 v6 w1 K hx hSw hK
    (try simp only [Act.put, zA, zB, zC])
    go_simp
    have hk := hK.out
    simp only [Act.put, zA, zB, zC] at hk
    exact hk
  case hm24c5 =>
    intro v1 v2 v3 v4 v5 v6 w1 K hx hSw hK
    (try simp only [Act.put, zA, zB, zC])
    go_simp
    have hk := hK.out
    simp only [Act.put, zA, zB, zC] at hk
    exact hk
  case hm24c6 =>
    intro v1 v2 v3 v4 v5 v6 w1 K hx hSw hK
    (try simp only [Act.put, zA, zB, zC])
    go_simp
    have hk := hK.out
    simp only [Act.put, zA, zB, zC] at hk
    exact hk
  case hm24e =>
    intro v1 v2 v3 Xm241 Xm242 Xm243 wqm24 hx hSw xp1 xp2 xp3 xb1 xb2 xb3 xz1 xz2 xz3 n12 n13 n23
    obtain ⟨_, rfl, e0, e1, rfl, ie0, ie1⟩ := xp1
    obtain ⟨_, rfl, f0, f1, rfl, if0, if1⟩ := xp2
    obtain ⟨_, rfl, k0, k1, rfl, ik0, ik1⟩ := xp3
    (try simp only [Act.put, zA, zB, zC])
    have hy : Ext wa wqm24 := hSw
    obtain ⟨xk2, xk3, xex, xr1, xr2, xr3, xe1, xe2, xfm⟩ := stored_three (zs := #[.bool false, .slice none 0 0, .bool false, .slice none 0 0, .bool false, .slice none 0 0, .bool false, .slice none 0 0]) (c1 := #[.bool e0.n, .slice e0.p e0.l e0.c, .bool e0.m, .slice e0.p2 e0.l2 e0.c2, .bool e1.n, .slice e1.p e1.l e1.c, .bool e1.m, .slice e1.p2 e1.l2 e1.c2]) (c2 := #[.bool f0.n, .slice f0.p f0.l f0.c, .bool f0.m, .slice f0.p2 f0.l2 f0.c2, .bool f1.n, .slice f1.p f1.l f1.c, .bool f1.m, .slice f1.p2 f1.l2 f1.c2]) (c3 := #[.bool k0.n, .slice k0.p k0.l k0.c, .bool k0.m, .slice k0.p2 k0.l2 k0.c2, .bool k1.n, .slice k1.p k1.l k1.c, .bool k1.m, .slice k1.p2 k1.l2 k1.c2]) (noU_of _ (by simp)) hy xb1 xb2 xb3 xz1 xz2 xz3 n12 n13 n23 rfl rfl rfl
    refine md_store (i := 21) (listed' := #[true, true, true, true, true, true, true, true, true, true, true, true, true, true, true, true, true, true, true, true, true, true, false, false]) (by rfl) (by kernel_rfl) (by rfl) _ _ _ (by rfl) Xm241 _ #[.bool false, .slice none 0 0, .bool false, .slice none 0 0, .bool false, .slice none 0 0, .bool false, .slice none 0 0] #[.bool e0.n, .slice e0.p e0.l e0.c, .bool e0.m, .slice e0.p2 e0.l2 e0.c2, .bool e1.n, .slice e1.p e1.l e1.c, .bool e1.m, .slice e1.p2 e1.l2 e1.c2] (by rfl) (by rfl) xb1 rfl (by kernel_rfl) (all_oneCell_toArray (by simp [Value.oneCell'])) xe1 (by kernel_rfl) ?_
    (try simp only [Act.put])
    refine md_store (i := 22) (listed' := #[true, true, true, true, true, true, true, true, true, true, true, true, true, true, true, true, true, true, true, true, true, true, true, false]) (by rfl) (by kernel_rfl) (by rfl) _ _ _ (by rfl) Xm242 _ #[.bool false, .slice none 0 0, .bool false, .slice none 0 0, .bool false, .slice none 0 0, .bool false, .slice none 0 0] #[.bool f0.n, .slice f0.p f0.l f0.c, .bool f0.m, .slice f0.p2 f0.l2 f0.c2, .bool f1.n, .slice f1.p f1.l f1.c, .bool f1.m, .slice f1.p2 f1.l2 f1.c2] (by rfl) (by rfl) xk2 rfl (by kernel_rfl) (all_oneCell_toArray (by simp [Value.oneCell'])) xe2 (by kernel_rfl) ?_
    (try simp only [Act.put])
    refine md_store (i := 23) (listed' := #[true, true, true, true, true, true, true, true, true, true, true, true, true, true, true, true, true, true, true, true, true, true, true, true]) (by rfl) (by kernel_rfl) (by rfl) _ _ _ (by rfl) Xm243 _ #[.bool false, .slice none 0 0, .bool false, .slice none 0 0, .bool false, .slice none 0 0, .bool false, .slice none 0 0] #[.bool k0.n, .slice k0.p k0.l k0.c, .bool k0.m, .slice k0.p2 k0.l2 k0.c2, .bool k1.n, .slice k1.p k1.l k1.c, .bool k1.m, .slice k1.p2 k1.l2 k1.c2] (by rfl) (by rfl) xk3 rfl (by kernel_rfl) (all_oneCell_toArray (by simp [Value.oneCell'])) xex (by kernel_rfl) ?_
    (try simp only [Act.put])
    refine wpAnyH_done (by kernel_rfl) ?_ _
    have je0 := xfm _ _ ie0
    have je1 := xfm _ _ ie1
    have nbA_R0 : Xm241 ≠ R0 := by have h9 := Blk.lt FR0.out; have h8 : wa.heap.size ≤ Xm241 := xz1; omega
    have nbA_R1 : Xm241 ≠ R1 := by have h9 := Blk.lt FR1.out; have h8 : wa.heap.size ≤ Xm241 := xz1; omega
    have jf0 := xfm _ _ if0
    have jf1 := xfm _ _ if1
    have nbB_R0 : Xm242 ≠ R0 := by have h9 := Blk.lt FR0.out; have h8 : wa.heap.size ≤ Xm242 := xz2; omega
    have nbB_R1 : Xm242 ≠ R1 := by have h9 := Blk.lt FR1.out; have h8 : wa.heap.size ≤ Xm242 := xz2; omega
    have jk0 := xfm _ _ ik0
    have jk1 := xfm _ _ ik1
    have nbC_R0 : Xm243 ≠ R0 := by have h9 := Blk.lt FR0.out; have h8 : wa.heap.size ≤ Xm243 := xz3; omega
    have nbC_R1 : Xm243 ≠ R1 := by have h9 := Blk.lt FR1.out; have h8 : wa.heap.size ≤ Xm243 := xz3; omega
    clear xb1 xb2 xb3 xfm hx hy hSw xk2 xk3 xe1 xe2 ie0 ie1 if0 if1 ik0 ik1
    generalize (((wqm24.setCells Xm241 0 (#[.bool e0.n, .slice e0.p e0.l e0.c, .bool e0.m, .slice e0.p2 e0.l2 e0.c2, .bool e1.n, .slice e1.p e1.l e1.c, .bool e1.m, .slice e1.p2 e1.l2 e1.c2] : Array Value).toList).setCells Xm242 0 (#[.bool f0.n, .slice f0.p f0.l f0.c, .bool f0.m, .slice f0.p2 f0.l2 f0.c2, .bool f1.n, .slice f1.p f1.l f1.c, .bool f1.m, .slice f1.p2 f1.l2 f1.c2] : Array Value).toList).setCells Xm243 0 (#[.bool k0.n, .slice k0.p k0.l k0.c, .bool k0.m, .slice k0.p2 k0.l2 k0.c2, .bool k1.n, .slice k1.p k1.l k1.c, .bool k1.m, .slice k1.p2 k1.l2 k1.c2] : Array Value).toList) = wsm24 at *
    have E2 := zH (show Ext wa wsm24 from xex)
    have FbA := zH xr1
    have Fe0 := zH je0
    have Fe1 := zH je1
    have FbB := zH xr2
    have Ff0 := zH jf0
    have Ff1 := zH jf1
    have FbC := zH xr3
    have Fk0 := zH jk0
    have Fk1 := zH jk1
    clear xex xr1 je0 je1 xr2 jf0 jf1 xr3 jk0 jk1
    go_upto_region 2 with fail
    refine wp_region_held_drew (S := fun x => Ext wsm24 x) (by kernel_rfl) (Ext.refl _).drew (fun _ => ?_)
    have E3 := zH (show Ext wsm24 wsm24.drew from (Ext.refl _).drew)
    refine md_load (i := 0) (listed' := #[true, false, false, false, false, false, false, false, false, false, false, false]) (by rfl) (by kernel_rfl) (by kernel_rfl) (by kernel_rfl) _ _ (by rfl) Xm241 _ #[.bool e0.n, .slice e0.p e0.l e0.c, .bool e0.m, .slice e0.p2 e0.l2 e0.c2, .bool e1.n, .slice e1.p e1.l e1.c, .bool e1.m, .slice e1.p2 e1.l2 e1.c2] _ (by intro _ _ _ h; exact h) (by rfl) (by rfl) (fun x hx => (FbA.out).ext hx) Tryz.underlying27 (by rfl) (by rw [show (#[.bool e0.n, .slice e0.p e0.l e0.c, .bool e0.m, .slice e0.p2 e0.l2 e0.c2, .bool e1.n, .slice e1.p e1.l e1.c, .bool e1.m, .slice e1.p2 e1.l2 e1.c2] : Array Value).size = 8 from rfl]; kernel_rfl) E3.out (by kernel_rfl) ?_
    (try simp only [Act.put, zA, zB, zC])
    refine md_load (i := 1) (listed' := #[true, true, false, false, false, false, false, false, false, false, false, false]) (by rfl) (by kernel_rfl) (by kernel_rfl) (by kernel_rfl) _ _ (by rfl) Xm242 _ #[.bool f0.n, .slice f0.p f0.l f0.c, .bool f0.m, .slice f0.p2 f0.l2 f0.c2, .bool f1.n, .slice f1.p f1.l f1.c, .bool f1.m, .slice f1.p2 f1.l2 f1.c2] _ (by intro _ _ _ h; exact h) (by rfl) (by rfl) (fun x hx => (FbB.out).ext hx) Tryz.underlying27 (by rfl) (by rw [show (#[.bool f0.n, .slice f0.p f0.l f0.c, .bool f0.m, .slice f0.p2 f0.l2 f0.c2, .bool f1.n, .slice f1.p f1.l f1.c, .bool f1.m, .slice f1.p2 f1.l2 f1.c2] : Array Value).size = 8 from rfl]; kernel_rfl) E3.out (by kernel_rfl) ?_
    (try simp only [Act.put, zA, zB, zC])
    refine md_load (i := 2) (listed' := #[true, true, true, false, false, false, false, false, false, false, false, false]) (by rfl) (by kernel_rfl) (by kernel_rfl) (by kernel_rfl) _ _ (by rfl) bx1 _ ct _ (by intro _ _ _ h; exact h) (by rfl) (by rfl) (fun x hx => ((Fbx1.out.ext E2.out)).ext hx) Tryz.underlying26 (by rfl) (by rw [show (ct : Array Value).size = 4 from ZS]; kernel_rfl) E3.out (by kernel_rfl) ?_
    (try simp only [Act.put, zA, zB, zC])
    refine md_load (i := 4) (listed' := #[true, true, true, false, true, false, false, false, false, false, false, false]) (by rfl) (by kernel_rfl) (by kernel_rfl) (by kernel_rfl) _ _ (by rfl) Xm242 _ #[.bool f0.n, .slice f0.p f0.l f0.c, .bool f0.m, .slice f0.p2 f0.l2 f0.c2, .bool f1.n, .slice f1.p f1.l f1.c, .bool f1.m, .slice f1.p2 f1.l2 f1.c2] _ (by intro _ _ _ h; exact h) (by rfl) (by rfl) (fun x hx => (FbB.out).ext hx) Tryz.underlying27 (by rfl) (by rw [show (#[.bool f0.n, .slice f0.p f0.l f0.c, .bool f0.m, .slice f0.p2 f0.l2 f0.c2, .bool f1.n, .slice f1.p f1.l f1.c, .bool f1.m, .slice f1.p2 f1.l2 f1.c2] : Array Value).size = 8 from rfl]; kernel_rfl) E3.out (by kernel_rfl) ?_
    (try simp only [Act.put, zA, zB, zC])
    refine md_load (i := 5) (listed' := #[true, true, true, false, true, true, false, false, false, false, false, false]) (by rfl) (by kernel_rfl) (by kernel_rfl) (by kernel_rfl) _ _ (by rfl) Xm243 _ #[.bool k0.n, .slice k0.p k0.l k0.c, .bool k0.m, .slice k0.p2 k0.l2 k0.c2, .bool k1.n, .slice k1.p k1.l k1.c, .bool k1.m, .slice k1.p2 k1.l2 k1.c2] _ (by intro _ _ _ h; exact h) (by rfl) (by rfl) (fun x hx => (FbC.out).ext hx) Tryz.underlying27 (by rfl) (by rw [show (#[.bool k0.n, .slice k0.p k0.l k0.c, .bool k0.m, .slice k0.p2 k0.l2 k0.c2, .bool k1.n, .slice k1.p k1.l k1.c, .bool k1.m, .slice k1.p2 k1.l2 k1.c2] : Array Value).size = 8 from rfl]; kernel_rfl) E3.out (by kernel_rfl) ?_
    (try simp only [Act.put, zA, zB, zC])
    refine md_load (i := 6) (listed' := #[true, true, true, false, true, true, true, false, false, false, false, false]) (by rfl) (by kernel_rfl) (by kernel_rfl) (by kernel_rfl) _ _ (by rfl) bx1 _ ct _ (by intro _ _ _ h; exact h) (by rfl) (by rfl) (fun x hx => ((Fbx1.out.ext E2.out)).ext hx) Tryz.underlying26 (by rfl) (by rw [show (ct : Array Value).size = 4 from ZS]; kernel_rfl) E3.out (by kernel_rfl) ?_
    (try simp only [Act.put, zA, zB, zC])
    refine tuple2 (f := 2) 3 7 8 9 33 37 9 10 27 #[.bool false, .slice none 0 0, .bool false, .slice none 0 0, .bool false, .slice none 0 0, .bool false, .slice none 0 0] (fun v w => ∃ c, v = .agg c ∧ PtIs w c (lerpV (lerpV A0 B0 S) (lerpV B0 C0 S) S) (lerpV (lerpV A1 B1 S) (lerpV B1 C1 S) S)) (fun v w => ∃ c, v = .agg c ∧ PtIs w c (lerpV (lerpV B0 C0 S) (lerpV C0 D0 S) S) (lerpV (lerpV B1 C1 S) (lerpV C1 D1 S) S)) rfl rfl rfl rfl (by decide) (by decide) (by kernel_rfl) (fun _ hx => E3.out.trans hx) (fun _ _ _ h e => by obtain ⟨c, h1, h2⟩ := h; exact ⟨c, h1, h2.ext e⟩) (fun _ _ _ h e => by obtain ⟨c, h1, h2⟩ := h; exact ⟨c, h1, h2.ext e⟩) ?hm25c1 ?hm25c2 ?hm25c3 ?hm25c4 ?hm25e undef undef undef undef (by kernel_rfl) rfl
    case hm25c1 =>
      intro v1 v2 v3 v4 w1 K hx hSw hK
      (try simp only [Act.put, zA, zB, zC])
      rw [if_pos (by rfl)]
      refine wp_call_op (by go_simp) (rbetween_any (4 * L + 2) _ _ _ _ _ _ _ _ _ (⟨e0, e1, rfl, (Fe0.out.ext hSw).isIn l00, (Fe1.out.ext hSw).isIn l01⟩ : PtIn (4 * L + 2) _ _ _ _) (⟨f0, f1, rfl, (Ff0.out.ext hSw).isIn l10, (Ff1.out.ext hSw).isIn l11⟩ : PtIn (4 * L + 2) _ _ _ _) (((FS.out.ext (E1.out.trans E2.out)).ext hSw).mono (by omega)) (by omega) (by omega)) ?_
      rintro e w' ⟨c, rfl, hc, he⟩
      refine ⟨_, rfl, ?_⟩
      have hk := hK.out _ _ ⟨_, rfl, hc⟩ he
      (try simp only [Act.put, zA, zB, zC])
      simp only [Act.put, zA, zB, zC] at hk
      exact hk
    case hm25c2 =>
      intro v1 v2 v3 v4 w1 K hx hSw hK
      (try simp only [Act.put, zA, zB, zC])
      rw [if_pos (by rfl)]
      refine wp_call_op (by go_simp) (rbetween_any (4 * L + 2) _ _ _ _ _ _ _ _ _ (⟨f0, f1, rfl, (Ff0.out.ext hSw).isIn l10, (Ff1.out.ext hSw).isIn l11⟩ : PtIn (4 * L + 2) _ _ _ _) (⟨k0, k1, rfl, (Fk0.out.ext hSw).isIn l20, (Fk1.out.ext hSw).isIn l21⟩ : PtIn (4 * L + 2) _ _ _ _) (((FS.out.ext (E1.out.trans E2.out)).ext hSw).mono (by omega)) (by omega) (by omega)) ?_
      rintro e w' ⟨c, rfl, hc, he⟩
      refine ⟨_, rfl, ?_⟩
      have hk := hK.out _ _ ⟨_, rfl, hc⟩ he
      (try simp only [Act.put, zA, zB, zC])
      simp only [Act.put, zA, zB, zC] at hk
      exact hk
    case hm25c3 =>
      intro v1 v2 v3 v4 w1 K hx hSw hK
      (try simp only [Act.put, zA, zB, zC])
      go_simp
      have hk := hK.out
      simp only [Act.put, zA, zB, zC] at hk
      exact hk
    case hm25c4 =>
      intro v1 v2 v3 v4 w1 K hx hSw hK
      (try simp only [Act.put, zA, zB, zC])
      go_simp
      have hk := hK.out
      simp only [Act.put, zA, zB, zC] at hk
      exact hk
    case hm25e =>
      intro v1 v2 Xm251 Xm252 wqm25 hx hSw xp1 xp2 xb1 xb2 xz1 xz2 n12
      obtain ⟨_, rfl, g0, g1, rfl, ig0, ig1⟩ := xp1
      obtain ⟨_, rfl, i0, i1, rfl, ii0, ii1⟩ := xp2
      (try simp only [Act.put, zA, zB, zC])
      have hy : Ext wsm24 wqm25 := hSw
      obtain ⟨xk2, xex, xr1, xr2, xe1, xfm⟩ := stored_two (zs := #[.bool false, .slice none 0 0, .bool false, .slice none 0 0, .bool false, .slice none 0 0, .bool false, .slice none 0 0]) (c1 := #[.bool g0.n, .slice g0.p g0.l g0.c, .bool g0.m, .slice g0.p2 g0.l2 g0.c2, .bool g1.n, .slice g1.p g1.l g1.c, .bool g1.m, .slice g1.p2 g1.l2 g1.c2]) (c2 := #[.bool i0.n, .slice i0.p i0.l i0.c, .bool i0.m, .slice i0.p2 i0.l2 i0.c2, .bool i1.n, .slice i1.p i1.l i1.c, .bool i1.m, .slice i1.p2 i1.l2 i1.c2]) (noU_of _ (by simp)) hy xb1 xb2 xz1 xz2 n12 rfl rfl
      refine md_store (i := 10) (listed' := #[true, true, true, true, true, true, true, true, true, true, true, false]) (by rfl) (by kernel_rfl) (by rfl) _ _ _ (by rfl) Xm251 _ #[.bool false, .slice none 0 0, .bool false, .slice none 0 0, .bool false, .slice none 0 0, .bool false, .slice none 0 0] #[.bool g0.n, .slice g0.p g0.l g0.c, .bool g0.m, .slice g0.p2 g0.l2 g0.c2, .bool g1.n, .slice g1.p g1.l g1.c, .bool g1.m, .slice g1.p2 g1.l2 g1.c2] (by rfl) (by rfl) xb1 rfl (by kernel_rfl) (all_oneCell_toArray (by simp [Value.oneCell'])) xe1 (by kernel_rfl) ?_
      (try simp only [Act.put])
      refine md_store (i := 11) (listed' := #[true, true, true, true, true, true, true, true, true, true, true, true]) (by rfl) (by kernel_rfl) (by rfl) _ _ _ (by rfl) Xm252 _ #[.bool false, .slice none 0 0, .bool false, .slice none 0 0, .bool false, .slice none 0 0, .bool false, .slice none 0 0] #[.bool i0.n, .slice i0.p i0.l i0.c, .bool i0.m, .slice i0.p2 i0.l2 i0.c2, .bool i1.n, .slice i1.p i1.l i1.c, .bool i1.m, .slice i1.p2 i1.l2 i1.c2] (by rfl) (by rfl) xk2 rfl (by kernel_rfl) (all_oneCell_toArray (by simp [Value.oneCell'])) xex (by kernel_rfl) ?_
      (try simp only [Act.put])
      refine wpAnyH_done (by kernel_rfl) ?_ _
      have jg0 := xfm _ _ ig0
      have jg1 := xfm _ _ ig1
      have nbD_R0 : Xm251 ≠ R0 := by have h9 := Blk.lt (FR0.out.ext E2.out); have h8 : wsm24.heap.size ≤ Xm251 := xz1; omega
      have nbD_R1 : Xm251 ≠ R1 := by have h9 := Blk.lt (FR1.out.ext E2.out); have h8 : wsm24.heap.size ≤ Xm251 := xz1; omega
      have ji0 := xfm _ _ ii0
      have ji1 := xfm _ _ ii1
      have nbE_R0 : Xm252 ≠ R0 := by have h9 := Blk.lt (FR0.out.ext E2.out); have h8 : wsm24.heap.size ≤ Xm252 := xz2; omega
      have nbE_R1 : Xm252 ≠ R1 := by have h9 := Blk.lt (FR1.out.ext E2.out); have h8 : wsm24.heap.size ≤ Xm252 := xz2; omega
      clear xb1 xb2 xfm hx hy hSw xk2 xe1 ig0 ig1 ii0 ii1
      generalize ((wqm25.setCells Xm251 0 (#[.bool g0.n, .slice g0.p g0.l g0.c, .bool g0.m, .slice g0.p2 g0.l2 g0.c2, .bool g1.n, .slice g1.p g1.l g1.c, .bool g1.m, .slice g1.p2 g1.l2 g1.c2] : Array Value).toList).setCells Xm252 0 (#[.bool i0.n, .slice i0.p i0.l i0.c, .bool i0.m, .slice i0.p2 i0.l2 i0.c2, .bool i1.n, .slice i1.p i1.l i1.c, .bool i1.m, .slice i1.p2 i1.l2 i1.c2] : Array Value).toList) = wsm25 at *
      have E3 := zH (show Ext wsm24 wsm25 from xex)
      have FbD := zH xr1
      have Fg0 := zH jg0
      have Fg1 := zH jg1
      have FbE := zH xr2
      have Fi0 := zH ji0
      have Fi1 := zH ji1
      clear xex xr1 jg0 jg1 xr2 ji0 ji1
      go_upto_region 3 with fail
      refine wp_region_lit ?_
      refine mv_load (by rfl) _ _ (by rfl) Xm251 _ #[.bool g0.n, .slice g0.p g0.l g0.c, .bool g0.m, .slice g0.p2 g0.l2 g0.c2, .bool g1.n, .slice g1.p g1.l g1.c, .bool g1.m, .slice g1.p2 g1.l2 g1.c2] _ (by rfl) FbD.out Tryz.underlying27 (by rfl) (by rw [show (#[.bool g0.n, .slice g0.p g0.l g0.c, .bool g0.m, .slice g0.p2 g0.l2 g0.c2, .bool g1.n, .slice g1.p g1.l g1.c, .bool g1.m, .slice g1.p2 g1.l2 g1.c2] : Array Value).size = 8 from rfl]; kernel_rfl) ?_
      (try simp only [Act.put, zA, zB, zC])
      refine mv_load (by rfl) _ _ (by rfl) Xm252 _ #[.bool i0.n, .slice i0.p i0.l i0.c, .bool i0.m, .slice i0.p2 i0.l2 i0.c2, .bool i1.n, .slice i1.p i1.l i1.c, .bool i1.m, .slice i1.p2 i1.l2 i1.c2] _ (by rfl) FbE.out Tryz.underlying27 (by rfl) (by rw [show (#[.bool i0.n, .slice i0.p i0.l i0.c, .bool i0.m, .slice i0.p2 i0.l2 i0.c2, .bool i1.n, .slice i1.p i1.l i1.c, .bool i1.m, .slice i1.p2 i1.l2 i1.c2] : Array Value).size = 8 from rfl]; kernel_rfl) ?_
      (try simp only [Act.put, zA, zB, zC])
      refine mv_load (by rfl) _ _ (by rfl) bx1 _ ct _ (by rfl) (Fbx1.out.ext (E2.out.trans E3.out)) Tryz.underlying26 (by rfl) (by rw [show (ct : Array Value).size = 4 from ZS]; kernel_rfl) ?_
      (try simp only [Act.put, zA, zB, zC])
      refine mv_call (by rfl) (by go_simp) (rbetween_any (4 * (4 * L + 2) + 2) _ _ _ _ _ _ _ _ _ (⟨g0, g1, rfl, Fg0.out.isIn m00, Fg1.out.isIn m01⟩ : PtIn (4 * (4 * L + 2) + 2) _ _ _ _) (⟨i0, i1, rfl, Fi0.out.isIn m10, Fi1.out.isIn m11⟩ : PtIn (4 * (4 * L + 2) + 2) _ _ _ _) ((FS.out.ext (E1.out.trans (E2.out.trans E3.out))).mono (by omega)) (by omega) (by omega)) ?_
      rintro e w4 ⟨_, rfl, ⟨q0, q1, rfl, hc, hd⟩, hx⟩
      have E4 := zH (show Ext wsm25 w4 from hx)
      have Fq0 := zH hc
      have Fq1 := zH hd
      clear hc hd
      clear hx
      refine ⟨_, rfl, ?_⟩
      (try simp only [Act.put, zA, zB, zC])
      refine mv_val (v := .pointer (some ⟨w4.heap.size, 0, none⟩)) (w' := w4.alloc (.cells #[.bool false, .slice none 0 0, .bool false, .slice none 0 0, .bool false, .slice none 0 0, .bool false, .slice none 0 0] 27)) (by rfl) (by go_simp) ?_
      (try simp only [Act.put, zA, zB, zC])
      refine mv_store (by rfl) _ _ _ (by rfl) w4.heap.size 27 #[.bool false, .slice none 0 0, .bool false, .slice none 0 0, .bool false, .slice none 0 0, .bool false, .slice none 0 0] #[.bool q0.n, .slice q0.p q0.l q0.c, .bool q0.m, .slice q0.p2 q0.l2 q0.c2, .bool q1.n, .slice q1.p q1.l q1.c, .bool q1.m, .slice q1.p2 q1.l2 q1.c2] (by rfl) (by rfl) (Blk.new w4 _ _) (by rw [show (#[.bool q0.n, .slice q0.p q0.l q0.c, .bool q0.m, .slice q0.p2 q0.l2 q0.c2, .bool q1.n, .slice q1.p q1.l q1.c, .bool q1.m, .slice q1.p2 q1.l2 q1.c2] : Array Value).size = 8 from rfl]; rfl) (by rw [show (#[.bool q0.n, .slice q0.p q0.l q0.c, .bool q0.m, .slice q0.p2 q0.l2 q0.c2, .bool q1.n, .slice q1.p q1.l q1.c, .bool q1.m, .slice q1.p2 q1.l2 q1.c2] : Array Value).size = 8 from rfl]; kernel_rfl) (all_oneCell_toArray (by simp [Value.oneCell'])) ?_
      (try simp only [Act.put])
      have nV11_R0 : w4.heap.size ≠ R0 := Nat.ne_of_gt (Blk.lt (FR0.out.ext (E2.out.trans (E3.out.trans E4.out))))
      have nV11_R1 : w4.heap.size ≠ R1 := Nat.ne_of_gt (Blk.lt (FR1.out.ext (E2.out.trans (E3.out.trans E4.out))))
      obtain ⟨xq1, xq2⟩ := new_var w4 27 #[.bool false, .slice none 0 0, .bool false, .slice none 0 0, .bool false, .slice none 0 0, .bool false, .slice none 0 0] #[.bool q0.n, .slice q0.p q0.l q0.c, .bool q0.m, .slice q0.p2 q0.l2 q0.c2, .bool q1.n, .slice q1.p q1.l q1.c, .bool q1.m, .slice q1.p2 q1.l2 q1.c2] (by rw [show (#[.bool q0.n, .slice q0.p q0.l q0.c, .bool q0.m, .slice q0.p2 q0.l2 q0.c2, .bool q1.n, .slice q1.p q1.l q1.c, .bool q1.m, .slice q1.p2 q1.l2 q1.c2] : Array Value).size = 8 from rfl]; rfl)
      generalize (w4.alloc (.cells #[.bool false, .slice none 0 0, .bool false, .slice none 0 0, .bool false, .slice none 0 0, .bool false, .slice none 0 0] 27)).setCells w4.heap.size 0 (#[.bool q0.n, .slice q0.p q0.l q0.c, .bool q0.m, .slice q0.p2 q0.l2 q0.c2, .bool q1.n, .slice q1.p q1.l q1.c, .bool q1.m, .slice q1.p2 q1.l2 q1.c2] : Array Value).toList = w5 at *
      generalize w4.heap.size = X5 at *
      have E5 := zH (show Ext w4 w5 from xq1)
      have FV11 := zH xq2
      clear xq1 xq2
      go_upto_region 4 with fail
      refine wp_region_held_drew (S := fun x => Own2 R0 R1 w5 x) (by kernel_rfl) (Own2.of_ext (Ext.refl _).drew) (fun _ => ?_)
      have E6 := zH (show Ext w5 w5.drew from (Ext.refl _).drew)
      refine md_val (i := 0) (v := ?vm26) (listed' := #[true, false, false, false, false, false, false, false, false, false, false, false, false, false, false, false]) (by rfl) (by kernel_rfl) (by kernel_rfl) (by kernel_rfl) (by intro _ _ _ h; exact h) (by rfl) ?hm26 (Own2.of_ext E6.out) (by kernel_rfl) ?rm26
      case hm26 => (intro w hSw; (try dsimp only at hSw); go_simp <;> with_reducible rfl)
      (try simp only [Act.put, zA, zB, zC])
      refine md_part (i := 1) (listed' := #[true, true, false, false, false, false, false, false, false, false, false, false, false, false, false, false]) (by rfl) (by kernel_rfl) (by kernel_rfl) (by kernel_rfl) _ _ (by rfl) w.heap.size 0 8 _ cp _ (by intro _ _ _ h; exact h) (by rfl) (by rfl) (fun x hx => ((Fbx0.out.ext (E2.out.trans (E3.out.trans (E4.out.trans E5.out))))).own2 hx nbx0_R0 nbx0_R1) Tryz.underlying27 (by rfl) (by kernel_rfl) (by rw [show (cp : Array Value).size = 32 from ZP]; omega) (Own2.of_ext E6.out) (by kernel_rfl) ?_
      (try simp only [Act.put, zA, zB, zC])
      refine md_load (i := 3) (listed' := #[true, true, false, true, false, false, false, false, false, false, false, false, false, false, false, false]) (by rfl) (by kernel_rfl) (by kernel_rfl) (by kernel_rfl) _ _ (by rfl) Xm241 _ #[.bool e0.n, .slice e0.p e0.l e0.c, .bool e0.m, .slice e0.p2 e0.l2 e0.c2, .bool e1.n, .slice e1.p e1.l e1.c, .bool e1.m, .slice e1.p2 e1.l2 e1.c2] _ (by intro _ _ _ h; exact h) (by rfl) (by rfl) (fun x hx => ((FbA.out.ext (E3.out.trans (E4.out.trans E5.out)))).own2 hx nbA_R0 nbA_R1) Tryz.underlying27 (by rfl) (by rw [show (#[.bool e0.n, .slice e0.p e0.l e0.c, .bool e0.m, .slice e0.p2 e0.l2 e0.c2, .bool e1.n, .slice e1.p e1.l e1.c, .bool e1.m, .slice e1.p2 e1.l2 e1.c2] : Array Value).size = 8 from rfl]; kernel_rfl) (Own2.of_ext E6.out) (by kernel_rfl) ?_
      (try simp only [Act.put, zA, zB, zC])
      refine md_load (i := 4) (listed' := #[true, true, false, true, true, false, false, false, false, false, false, false, false, false, false, false]) (by rfl) (by kernel_rfl) (by kernel_rfl) (by kernel_rfl) _ _ (by rfl) Xm251 _ #[.bool g0.n, .slice g0.p g0.l g0.c, .bool g0.m, .slice g0.p2 g0.l2 g0.c2, .bool g1.n, .slice g1.p g1.l g1.c, .bool g1.m, .slice g1.p2 g1.l2 g1.c2] _ (by intro _ _ _ h; exact h) (by rfl) (by rfl) (fun x hx => ((FbD.out.ext (E4.out.trans E5.out))).own2 hx nbD_R0 nbD_R1) Tryz.underlying27 (by rfl) (by rw [show (#[.bool g0.n, .slice g0.p g0.l g0.c, .bool g0.m, .slice g0.p2 g0.l2 g0.c2, .bool g1.n, .slice g1.p g1.l g1.c, .bool g1.m, .slice g1.p2 g1.l2 g1.c2] : Array Value).size = 8 from rfl]; kernel_rfl) (Own2.of_ext E6.out) (by kernel_rfl) ?_
      (try simp only [Act.put, zA, zB, zC])
      refine md_load (i := 5) (listed' := #[true, true, false, true, true, true, false, false, false, false, false, false, false, false, false, false]) (by rfl) (by kernel_rfl) (by kernel_rfl) (by kernel_rfl) _ _ (by rfl) X5 _ #[.bool q0.n, .slice q0.p q0.l q0.c, .bool q0.m, .slice q0.p2 q0.l2 q0.c2, .bool q1.n, .slice q1.p q1.l q1.c, .bool q1.m, .slice q1.p2 q1.l2 q1.c2] _ (by intro _ _ _ h; exact h) (by rfl) (by rfl) (fun x hx => (FV11.out).own2 hx nV11_R0 nV11_R1) Tryz.underlying27 (by rfl) (by rw [show (#[.bool q0.n, .slice q0.p q0.l q0.c, .bool q0.m, .slice q0.p2 q0.l2 q0.c2, .bool q1.n, .slice q1.p q1.l q1.c, .bool q1.m, .slice q1.p2 q1.l2 q1.c2] : Array Value).size = 8 from rfl]; kernel_rfl) (Own2.of_ext E6.out) (by kernel_rfl) ?_
      (try simp only [Act.put, zA, zB, zC])
      refine md_load (i := 7) (listed' := #[true, true, false, true, true, true, false, true, false, false, false, false, false, false, false, false]) (by rfl) (by kernel_rfl) (by kernel_rfl) (by kernel_rfl) _ _ (by rfl) X5 _ #[.bool q0.n, .slice q0.p q0.l q0.c, .bool q0.m, .slice q0.p2 q0.l2 q0.c2, .bool q1.n, .slice q1.p q1.l q1.c, .bool q1.m, .slice q1.p2 q1.l2 q1.c2] _ (by intro _ _ _ h; exact h) (by rfl) (by rfl) (fun x hx => (FV11.out).own2 hx nV11_R0 nV11_R1) Tryz.underlying27 (by rfl) (by rw [show (#[.bool q0.n, .slice q0.p q0.l q0.c, .bool q0.m, .slice q0.p2 q0.l2 q0.c2, .bool q1.n, .slice q1.p q1.l q1.c, .bool q1.m, .slice q1.p2 q1.l2 q1.c2] : Array Value).size = 8 from rfl]; kernel_rfl) (Own2.of_ext E6.out) (by kernel_rfl) ?_
      (try simp only [Act.put, zA, zB, zC])
      refine md_load (i := 8) (listed' := #[true, true, false, true, true, true, false, true, true, false, false, false, false, false, false, false]) (by rfl) (by kernel_rfl) (by kernel_rfl) (by kernel_rfl) _ _ (by rfl) Xm252 _ #[.bool i0.n, .slice i0.p i0.l i0.c, .bool i0.m, .slice i0.p2 i0.l2 i0.c2, .bool i1.n, .slice i1.p i1.l i1.c, .bool i1.m, .slice i1.p2 i1.l2 i1.c2] _ (by intro _ _ _ h; exact h) (by rfl) (by rfl) (fun x hx => ((FbE.out.ext (E4.out.trans E5.out))).own2 hx nbE_R0 nbE_R1) Tryz.underlying27 (by rfl) (by rw [show (#[.bool i0.n, .slice i0.p i0.l i0.c, .bool i0.m, .slice i0.p2 i0.l2 i0.c2, .bool i1.n, .slice i1.p i1.l i1.c, .bool i1.m, .slice i1.p2 i1.l2 i1.c2] : Array Value).size = 8 from rfl]; kernel_rfl) (Own2.of_ext E6.out) (by kernel_rfl) ?_
      (try simp only [Act.put, zA, zB, zC])
      refine md_load (i := 9) (listed' := #[true, true, false, true, true, true, false, true, true, true, false, false, false, false, false, false]) (by rfl) (by kernel_rfl) (by kernel_rfl) (by kernel_rfl) _ _ (by rfl) Xm243 _ #[.bool k0.n, .slice k0.p k0.l k0.c, .bool k0.m, .slice k0.p2 k0.l2 k0.c2, .bool k1.n, .slice k1.p k1.l k1.c, .bool k1.m, .slice k1.p2 k1.l2 k1.c2] _ (by intro _ _ _ h; exact h) (by rfl) (by rfl) (fun x hx => ((FbC.out.ext (E3.out.trans (E4.out.trans E5.out)))).own2 hx nbC_R0 nbC_R1) Tryz.underlying27 (by rfl) (by rw [show (#[.bool k0.n, .slice k0.p k0.l k0.c, .bool k0.m, .slice k0.p2 k0.l2 k0.c2, .bool k1.n, .slice k1.p k1.l k1.c, .bool k1.m, .slice k1.p2 k1.l2 k1.c2] : Array Value).size = 8 from rfl]; kernel_rfl) (Own2.of_ext E6.out) (by kernel_rfl) ?_
      (try simp only [Act.put, zA, zB, zC])
      refine md_val (i := 10) (v := ?vm27) (listed' := #[true, true, false, true, true, true, false, true, true, true, true, false, false, false, false, false]) (by rfl) (by kernel_rfl) (by kernel_rfl) (by kernel_rfl) (by intro _ _ _ h; exact h) (by rfl) ?hm27 (Own2.of_ext E6.out) (by kernel_rfl) ?rm27
      case hm27 => (intro w hSw; (try dsimp only at hSw); go_simp <;> with_reducible rfl)
      (try simp only [Act.put, zA, zB, zC])
      refine md_part (i := 11) (listed' := #[true, true, false, true, true, true, false, true, true, true, true, true, false, false, false, false]) (by rfl) (by kernel_rfl) (by kernel_rfl) (by kernel_rfl) _ _ (by rfl) w.heap.size 24 8 _ cp _ (by intro _ _ _ h; exact h) (by rfl) (by rfl) (fun x hx => ((Fbx0.out.ext (E2.out.trans (E3.out.trans (E4.out.trans E5.out))))).own2 hx nbx0_R0 nbx0_R1) Tryz.underlying27 (by rfl) (by kernel_rfl) (by rw [show (cp : Array Value).size = 32 from ZP]; omega) (Own2.of_ext E6.out) (by kernel_rfl) ?_
      (try simp only [Act.put, zA, zB, zC])
      refine md_call (i := 2) (listed' := #[true, true, true, true, true, true, false, true, true, true, true, true, false, false, false, false]) (by rfl) (by kernel_rfl) (by rfl) (by go_simp) (rexact_any L _ _ _ _ (FP.out.ext (E1.out.trans (E2.out.trans (E3.out.trans (E4.out.trans (E5.out.trans E6.out)))))).p0 (by omega)) (by kernel_rfl) ?_
      rintro e w7 ⟨_, rfl, ⟨u0, u1, rfl, hc, hd⟩, hx⟩
      have E7 := zH (show Ext w5.drew w7 from hx)
      have Fu0 := zH hc
      have Fu1 := zH hd
      clear hc hd
      clear hx
      refine ⟨_, rfl, (Own2.of_ext (E6.out.trans E7.out)), ?_⟩
      (try simp only [Act.put, zA, zB, zC])
      refine md_val (i := 6) (v := ?vm28) (listed' := #[true, true, true, true, true, true, true, true, true, true, true, true, false, false, false, false]) (by rfl) (by kernel_rfl) (by kernel_rfl) (by kernel_rfl) (by intro _ _ _ h; exact h) (by rfl) ?hm28 (Own2.of_ext (E6.out.trans E7.out)) (by kernel_rfl) ?rm28
      case hm28 => (intro w hSw; (try dsimp only at hSw); go_simp <;> with_reducible rfl)
      (try simp only [Act.put, zA, zB, zC])
      refine md_call (i := 12) (listed' := #[true, true, true, true, true, true, true, true, true, true, true, true, true, false, false, false]) (by rfl) (by kernel_rfl) (by rfl) (by go_simp) (rexact_any L _ _ _ _ (FP.out.ext (E1.out.trans (E2.out.trans (E3.out.trans (E4.out.trans (E5.out.trans (E6.out.trans E7.out))))))).p3 (by omega)) (by kernel_rfl) ?_
      rintro e w8 ⟨_, rfl, ⟨v0, v1, rfl, hc, hd⟩, hx⟩
      have E8 := zH (show Ext w7 w8 from hx)
      have Fv0 := zH hc
      have Fv1 := zH hd
      clear hc hd
      clear hx
      refine ⟨_, rfl, (Own2.of_ext (E6.out.trans (E7.out.trans E8.out))), ?_⟩
      (try simp only [Act.put, zA, zB, zC])
      refine md_val (i := 13) (v := ?vm29) (listed' := #[true, true, true, true, true, true, true, true, true, true, true, true, true, true, false, false]) (by rfl) (by kernel_rfl) (by kernel_rfl) (by kernel_rfl) (by intro _ _ _ h; exact h) (by rfl) ?hm29 (Own2.of_ext (E6.out.trans (E7.out.trans E8.out))) (by kernel_rfl) ?rm29
      case hm29 => (intro w hSw; (try dsimp only at hSw); go_simp <;> with_reducible rfl)
      (try simp only [Act.put, zA, zB, zC])
      have o1 := Own.setCells w8 R0 #[.bool u0.n, .slice u0.p u0.l u0.c, .bool u0.m, .slice u0.p2 u0.l2 u0.c2, .bool u1.n, .slice u1.p u1.l u1.c, .bool u1.m, .slice u1.p2 u1.l2 u1.c2, .bool e0.n, .slice e0.p e0.l e0.c, .bool e0.m, .slice e0.p2 e0.l2 e0.c2, .bool e1.n, .slice e1.p e1.l e1.c, .bool e1.m, .slice e1.p2 e1.l2 e1.c2, .bool g0.n, .slice g0.p g0.l g0.c, .bool g0.m, .slice g0.p2 g0.l2 g0.c2, .bool g1.n, .slice g1.p g1.l g1.c, .bool g1.m, .slice g1.p2 g1.l2 g1.c2, .bool q0.n, .slice q0.p q0.l q0.c, .bool q0.m, .slice q0.p2 q0.l2 q0.c2, .bool q1.n, .slice q1.p q1.l q1.c, .bool q1.m, .slice q1.p2 q1.l2 q1.c2]
      have kb1 := (FR0.out.ext (E2.out.trans (E3.out.trans (E4.out.trans (E5.out.trans (E6.out.trans (E7.out.trans E8.out)))))))
      have hs1 : Own2 R0 R1 w5 (w8.setCells R0 0 (#[.bool u0.n, .slice u0.p u0.l u0.c, .bool u0.m, .slice u0.p2 u0.l2 u0.c2, .bool u1.n, .slice u1.p u1.l u1.c, .bool u1.m, .slice u1.p2 u1.l2 u1.c2, .bool e0.n, .slice e0.p e0.l e0.c, .bool e0.m, .slice e0.p2 e0.l2 e0.c2, .bool e1.n, .slice e1.p e1.l e1.c, .bool e1.m, .slice e1.p2 e1.l2 e1.c2, .bool g0.n, .slice g0.p g0.l g0.c, .bool g0.m, .slice g0.p2 g0.l2 g0.c2, .bool g1.n, .slice g1.p g1.l g1.c, .bool g1.m, .slice g1.p2 g1.l2 g1.c2, .bool q0.n, .slice q0.p q0.l q0.c, .bool q0.m, .slice q0.p2 q0.l2 q0.c2, .bool q1.n, .slice q1.p q1.l q1.c, .bool q1.m, .slice q1.p2 q1.l2 q1.c2] : Array Value).toList) := (Own2.one (Own.then_ext' (E6.out.trans (E7.out.trans E8.out)) o1))
      refine md_store (i := 14) (listed' := #[true, true, true, true, true, true, true, true, true, true, true, true, true, true, true, false]) (by rfl) (by kernel_rfl) (by rfl) _ _ _ (by rfl) R0 _ #[.bool false, .slice none 0 0, .bool false, .slice none 0 0, .bool false, .slice none 0 0, .bool false, .slice none 0 0, .bool false, .slice none 0 0, .bool false, .slice none 0 0, .bool false, .slice none 0 0, .bool false, .slice none 0 0, .bool false, .slice none 0 0, .bool false, .slice none 0 0, .bool false, .slice none 0 0, .bool false, .slice none 0 0, .bool false, .slice none 0 0, .bool false, .slice none 0 0, .bool false, .slice none 0 0, .bool false, .slice none 0 0] #[.bool u0.n, .slice u0.p u0.l u0.c, .bool u0.m, .slice u0.p2 u0.l2 u0.c2, .bool u1.n, .slice u1.p u1.l u1.c, .bool u1.m, .slice u1.p2 u1.l2 u1.c2, .bool e0.n, .slice e0.p e0.l e0.c, .bool e0.m, .slice e0.p2 e0.l2 e0.c2, .bool e1.n, .slice e1.p e1.l e1.c, .bool e1.m, .slice e1.p2 e1.l2 e1.c2, .bool g0.n, .slice g0.p g0.l g0.c, .bool g0.m, .slice g0.p2 g0.l2 g0.c2, .bool g1.n, .slice g1.p g1.l g1.c, .bool g1.m, .slice g1.p2 g1.l2 g1.c2, .bool q0.n, .slice q0.p q0.l q0.c, .bool q0.m, .slice q0.p2 q0.l2 q0.c2, .bool q1.n, .slice q1.p q1.l q1.c, .bool q1.m, .slice q1.p2 q1.l2 q1.c2] (by rfl) (by rfl) kb1 (by rw [show (#[.bool u0.n, .slice u0.p u0.l u0.c, .bool u0.m, .slice u0.p2 u0.l2 u0.c2, .bool u1.n, .slice u1.p u1.l u1.c, .bool u1.m, .slice u1.p2 u1.l2 u1.c2, .bool e0.n, .slice e0.p e0.l e0.c, .bool e0.m, .slice e0.p2 e0.l2 e0.c2, .bool e1.n, .slice e1.p e1.l e1.c, .bool e1.m, .slice e1.p2 e1.l2 e1.c2, .bool g0.n, .slice g0.p g0.l g0.c, .bool g0.m, .slice g0.p2 g0.l2 g0.c2, .bool g1.n, .slice g1.p g1.l g1.c, .bool g1.m, .slice g1.p2 g1.l2 g1.c2, .bool q0.n, .slice q0.p q0.l q0.c, .bool q0.m, .slice q0.p2 q0.l2 q0.c2, .bool q1.n, .slice q1.p q1.l q1.c, .bool q1.m, .slice q1.p2 q1.l2 q1.c2] : Array Value).size = 32 from rfl]; rfl) (by rw [show (#[.bool u0.n, .slice u0.p u0.l u0.c, .bool u0.m, .slice u0.p2 u0.l2 u0.c2, .bool u1.n, .slice u1.p u1.l u1.c, .bool u1.m, .slice u1.p2 u1.l2 u1.c2, .bool e0.n, .slice e0.p e0.l e0.c, .bool e0.m, .slice e0.p2 e0.l2 e0.c2, .bool e1.n, .slice e1.p e1.l e1.c, .bool e1.m, .slice e1.p2 e1.l2 e1.c2, .bool g0.n, .slice g0.p g0.l g0.c, .bool g0.m, .slice g0.p2 g0.l2 g0.c2, .bool g1.n, .slice g1.p g1.l g1.c, .bool g1.m, .slice g1.p2 g1.l2 g1.c2, .bool q0.n, .slice q0.p q0.l q0.c, .bool q0.m, .slice q0.p2 q0.l2 q0.c2, .bool q1.n, .slice q1.p q1.l q1.c, .bool q1.m, .slice q1.p2 q1.l2 q1.c2] : Array Value).size = 32 from rfl]; kernel_rfl) (all_oneCell_toArray (by simp [Value.oneCell'])) hs1 (by kernel_rfl) ?_
      (try simp only [Act.put])
      have kc1 := kb1.setCells #[.bool u0.n, .slice u0.p u0.l u0.c, .bool u0.m, .slice u0.p2 u0.l2 u0.c2, .bool u1.n, .slice u1.p u1.l u1.c, .bool u1.m, .slice u1.p2 u1.l2 u1.c2, .bool e0.n, .slice e0.p e0.l e0.c, .bool e0.m, .slice e0.p2 e0.l2 e0.c2, .bool e1.n, .slice e1.p e1.l e1.c, .bool e1.m, .slice e1.p2 e1.l2 e1.c2, .bool g0.n, .slice g0.p g0.l g0.c, .bool g0.m, .slice g0.p2 g0.l2 g0.c2, .bool g1.n, .slice g1.p g1.l g1.c, .bool g1.m, .slice g1.p2 g1.l2 g1.c2, .bool q0.n, .slice q0.p q0.l q0.c, .bool q0.m, .slice q0.p2 q0.l2 q0.c2, .bool q1.n, .slice q1.p q1.l q1.c, .bool q1.m, .slice q1.p2 q1.l2 q1.c2] (by rw [show (#[.bool u0.n, .slice u0.p u0.l u0.c, .bool u0.m, .slice u0.p2 u0.l2 u0.c2, .bool u1.n, .slice u1.p u1.l u1.c, .bool u1.m, .slice u1.p2 u1.l2 u1.c2, .bool e0.n, .slice e0.p e0.l e0.c, .bool e0.m, .slice e0.p2 e0.l2 e0.c2, .bool e1.n, .slice e1.p e1.l e1.c, .bool e1.m, .slice e1.p2 e1.l2 e1.c2, .bool g0.n, .slice g0.p g0.l g0.c, .bool g0.m, .slice g0.p2 g0.l2 g0.c2, .bool g1.n, .slice g1.p g1.l g1.c, .bool g1.m, .slice g1.p2 g1.l2 g1.c2, .bool q0.n, .slice q0.p q0.l q0.c, .bool q0.m, .slice q0.p2 q0.l2 q0.c2, .bool q1.n, .slice q1.p q1.l q1.c, .bool q1.m, .slice q1.p2 q1.l2 q1.c2] : Array Value).size = 32 from rfl]; rfl)
      have o2 := Own.setCells (w8.setCells R0 0 (#[.bool u0.n, .slice u0.p u0.l u0.c, .bool u0.m, .slice u0.p2 u0.l2 u0.c2, .bool u1.n, .slice u1.p u1.l u1.c, .bool u1.m, .slice u1.p2 u1.l2 u1.c2, .bool e0.n, .slice e0.p e0.l e0.c, .bool e0.m, .slice e0.p2 e0.l2 e0.c2, .bool e1.n, .slice e1.p e1.l e1.c, .bool e1.m, .slice e1.p2 e1.l2 e1.c2, .bool g0.n, .slice g0.p g0.l g0.c, .bool g0.m, .slice g0.p2 g0.l2 g0.c2, .bool g1.n, .slice g1.p g1.l g1.c, .bool g1.m, .slice g1.p2 g1.l2 g1.c2, .bool q0.n, .slice q0.p q0.l q0.c, .bool q0.m, .slice q0.p2 q0.l2 q0.c2, .bool q1.n, .slice q1.p q1.l q1.c, .bool q1.m, .slice q1.p2 q1.l2 q1.c2] : Array Value).toList) R1 #[.bool q0.n, .slice q0.p q0.l q0.c, .bool q0.m, .slice q0.p2 q0.l2 q0.c2, .bool q1.n, .slice q1.p q1.l q1.c, .bool q1.m, .slice q1.p2 q1.l2 q1.c2, .bool i0.n, .slice i0.p i0.l i0.c, .bool i0.m, .slice i0.p2 i0.l2 i0.c2, .bool i1.n, .slice i1.p i1.l i1.c, .bool i1.m, .slice i1.p2 i1.l2 i1.c2, .bool k0.n, .slice k0.p k0.l k0.c, .bool k0.m, .slice k0.p2 k0.l2 k0.c2, .bool k1.n, .slice k1.p k1.l k1.c, .bool k1.m, .slice k1.p2 k1.l2 k1.c2, .bool v0.n, .slice v0.p v0.l v0.c, .bool v0.m, .slice v0.p2 v0.l2 v0.c2, .bool v1.n, .slice v1.p v1.l v1.c, .bool v1.m, .slice v1.p2 v1.l2 v1.c2]
      have kb2 := ((FR1.out.ext (E2.out.trans (E3.out.trans (E4.out.trans (E5.out.trans (E6.out.trans (E7.out.trans E8.out)))))))).own o1 nR1_R0
      have hs2 : Own2 R0 R1 w5 ((w8.setCells R0 0 (#[.bool u0.n, .slice u0.p u0.l u0.c, .bool u0.m, .slice u0.p2 u0.l2 u0.c2, .bool u1.n, .slice u1.p u1.l u1.c, .bool u1.m, .slice u1.p2 u1.l2 u1.c2, .bool e0.n, .slice e0.p e0.l e0.c, .bool e0.m, .slice e0.p2 e0.l2 e0.c2, .bool e1.n, .slice e1.p e1.l e1.c, .bool e1.m, .slice e1.p2 e1.l2 e1.c2, .bool g0.n, .slice g0.p g0.l g0.c, .bool g0.m, .slice g0.p2 g0.l2 g0.c2, .bool g1.n, .slice g1.p g1.l g1.c, .bool g1.m, .slice g1.p2 g1.l2 g1.c2, .bool q0.n, .slice q0.p q0.l q0.c, .bool q0.m, .slice q0.p2 q0.l2 q0.c2, .bool q1.n, .slice q1.p q1.l q1.c, .bool q1.m, .slice q1.p2 q1.l2 q1.c2] : Array Value).toList).setCells R1 0 (#[.bool q0.n, .slice q0.p q0.l q0.c, .bool q0.m, .slice q0.p2 q0.l2 q0.c2, .bool q1.n, .slice q1.p q1.l q1.c, .bool q1.m, .slice q1.p2 q1.l2 q1.c2, .bool i0.n, .slice i0.p i0.l i0.c, .bool i0.m, .slice i0.p2 i0.l2 i0.c2, .bool i1.n, .slice i1.p i1.l i1.c, .bool i1.m, .slice i1.p2 i1.l2 i1.c2, .bool k0.n, .slice k0.p k0.l k0.c, .bool k0.m, .slice k0.p2 k0.l2 k0.c2, .bool k1.n, .slice k1.p k1.l k1.c, .bool k1.m, .slice k1.p2 k1.l2 k1.c2, .bool v0.n, .slice v0.p v0.l v0.c, .bool v0.m, .slice v0.p2 v0.l2 v0.c2, .bool v1.n, .slice v1.p v1.l v1.c, .bool v1.m, .slice v1.p2 v1.l2 v1.c2] : Array Value).toList) := ⟨_, Own.then_ext' (E6.out.trans (E7.out.trans E8.out)) o1, o2⟩
      refine md_store (i := 15) (listed' := #[true, true, true, true, true, true, true, true, true, true, true, true, true, true, true, true]) (by rfl) (by kernel_rfl) (by rfl) _ _ _ (by rfl) R1 _ #[.bool false, .slice none 0 0, .bool false, .slice none 0 0, .bool false, .slice none 0 0, .bool false, .slice none 0 0, .bool false, .slice none 0 0, .bool false, .slice none 0 0, .bool false, .slice none 0 0, .bool false, .slice none 0 0, .bool false, .slice none 0 0, .bool false, .slice none 0 0, .bool false, .slice none 0 0, .bool false, .slice none 0 0, .bool false, .slice none 0 0, .bool false, .slice none 0 0, .bool false, .slice none 0 0, .bool false, .slice none 0 0] #[.bool q0.n, .slice q0.p q0.l q0.c, .bool q0.m, .slice q0.p2 q0.l2 q0.c2, .bool q1.n, .slice q1.p q1.l q1.c, .bool q1.m, .slice q1.p2 q1.l2 q1.c2, .bool i0.n, .slice i0.p i0.l i0.c, .bool i0.m, .slice i0.p2 i0.l2 i0.c2, .bool i1.n, .slice i1.p i1.l i1.c, .bool i1.m, .slice i1.p2 i1.l2 i1.c2, .bool k0.n, .slice k0.p k0.l k0.c, .bool k0.m, .slice k0.p2 k0.l2 k0.c2, .bool k1.n, .slice k1.p k1.l k1.c, .bool k1.m, .slice k1.p2 k1.l2 k1.c2, .bool v0.n, .slice v0.p v0.l v0.c, .bool v0.m, .slice v0.p2 v0.l2 v0.c2, .bool v1.n, .slice v1.p v1.l v1.c, .bool v1.m, .slice v1.p2 v1.l2 v1.c2] (by rfl) (by rfl) kb2 (by rw [show (#[.bool q0.n, .slice q0.p q0.l q0.c, .bool q0.m, .slice q0.p2 q0.l2 q0.c2, .bool q1.n, .slice q1.p q1.l q1.c, .bool q1.m, .slice q1.p2 q1.l2 q1.c2, .bool i0.n, .slice i0.p i0.l i0.c, .bool i0.m, .slice i0.p2 i0.l2 i0.c2, .bool i1.n, .slice i1.p i1.l i1.c, .bool i1.m, .slice i1.p2 i1.l2 i1.c2, .bool k0.n, .slice k0.p k0.l k0.c, .bool k0.m, .slice k0.p2 k0.l2 k0.c2, .bool k1.n, .slice k1.p k1.l k1.c, .bool k1.m, .slice k1.p2 k1.l2 k1.c2, .bool v0.n, .slice v0.p v0.l v0.c, .bool v0.m, .slice v0.p2 v0.l2 v0.c2, .bool v1.n, .slice v1.p v1.l v1.c, .bool v1.m, .slice v1.p2 v1.l2 v1.c2] : Array Value).size = 32 from rfl]; rfl) (by rw [show (#[.bool q0.n, .slice q0.p q0.l q0.c, .bool q0.m, .slice q0.p2 q0.l2 q0.c2, .bool q1.n, .slice q1.p q1.l q1.c, .bool q1.m, .slice q1.p2 q1.l2 q1.c2, .bool i0.n, .slice i0.p i0.l i0.c, .bool i0.m, .slice i0.p2 i0.l2 i0.c2, .bool i1.n, .slice i1.p i1.l i1.c, .bool i1.m, .slice i1.p2 i1.l2 i1.c2, .bool k0.n, .slice k0.p k0.l k0.c, .bool k0.m, .slice k0.p2 k0.l2 k0.c2, .bool k1.n, .slice k1.p k1.l k1.c, .bool k1.m, .slice k1.p2 k1.l2 k1.c2, .bool v0.n, .slice v0.p v0.l v0.c, .bool v0.m, .slice v0.p2 v0.l2 v0.c2, .bool v1.n, .slice v1.p v1.l v1.c, .bool v1.m, .slice v1.p2 v1.l2 v1.c2] : Array Value).size = 32 from rfl]; kernel_rfl) (all_oneCell_toArray (by simp [Value.oneCell'])) hs2 (by kernel_rfl) ?_
      (try simp only [Act.put])
      have kc2 := kb2.setCells #[.bool q0.n, .slice q0.p q0.l q0.c, .bool q0.m, .slice q0.p2 q0.l2 q0.c2, .bool q1.n, .slice q1.p q1.l q1.c, .bool q1.m, .slice q1.p2 q1.l2 q1.c2, .bool i0.n, .slice i0.p i0.l i0.c, .bool i0.m, .slice i0.p2 i0.l2 i0.c2, .bool i1.n, .slice i1.p i1.l i1.c, .bool i1.m, .slice i1.p2 i1.l2 i1.c2, .bool k0.n, .slice k0.p k0.l k0.c, .bool k0.m, .slice k0.p2 k0.l2 k0.c2, .bool k1.n, .slice k1.p k1.l k1.c, .bool k1.m, .slice k1.p2 k1.l2 k1.c2, .bool v0.n, .slice v0.p v0.l v0.c, .bool v0.m, .slice v0.p2 v0.l2 v0.c2, .bool v1.n, .slice v1.p v1.l v1.c, .bool v1.m, .slice v1.p2 v1.l2 v1.c2] (by rw [show (#[.bool q0.n, .slice q0.p q0.l q0.c, .bool q0.m, .slice q0.p2 q0.l2 q0.c2, .bool q1.n, .slice q1.p q1.l q1.c, .bool q1.m, .slice q1.p2 q1.l2 q1.c2, .bool i0.n, .slice i0.p i0.l i0.c, .bool i0.m, .slice i0.p2 i0.l2 i0.c2, .bool i1.n, .slice i1.p i1.l i1.c, .bool i1.m, .slice i1.p2 i1.l2 i1.c2, .bool k0.n, .slice k0.p k0.l k0.c, .bool k0.m, .slice k0.p2 k0.l2 k0.c2, .bool k1.n, .slice k1.p k1.l k1.c, .bool k1.m, .slice k1.p2 k1.l2 k1.c2, .bool v0.n, .slice v0.p v0.l v0.c, .bool v0.m, .slice v0.p2 v0.l2 v0.c2, .bool v1.n, .slice v1.p v1.l v1.c, .bool v1.m, .slice v1.p2 v1.l2 v1.c2] : Array Value).size = 32 from rfl]; rfl)
      refine wpAnyH_done (by kernel_rfl) ?_ _
      go_wp2_with fail
      have kd1 := kc1.own o2 nR0_R1
      refine bodyPost_ret (v := .tuple #[.agg #[.bool u0.n, .slice u0.p u0.l u0.c, .bool u0.m, .slice u0.p2 u0.l2 u0.c2, .bool u1.n, .slice u1.p u1.l u1.c, .bool u1.m, .slice u1.p2 u1.l2 u1.c2, .bool e0.n, .slice e0.p e0.l e0.c, .bool e0.m, .slice e0.p2 e0.l2 e0.c2, .bool e1.n, .slice e1.p e1.l e1.c, .bool e1.m, .slice e1.p2 e1.l2 e1.c2, .bool g0.n, .slice g0.p g0.l g0.c, .bool g0.m, .slice g0.p2 g0.l2 g0.c2, .bool g1.n, .slice g1.p g1.l g1.c, .bool g1.m, .slice g1.p2 g1.l2 g1.c2, .bool q0.n, .slice q0.p q0.l q0.c, .bool q0.m, .slice q0.p2 q0.l2 q0.c2, .bool q1.n, .slice q1.p q1.l q1.c, .bool q1.m, .slice q1.p2 q1.l2 q1.c2], .agg #[.bool q0.n, .slice q0.p q0.l q0.c, .bool q0.m, .slice q0.p2 q0.l2 q0.c2, .bool q1.n, .slice q1.p q1.l q1.c, .bool q1.m, .slice q1.p2 q1.l2 q1.c2, .bool i0.n, .slice i0.p i0.l i0.c, .bool i0.m, .slice i0.p2 i0.l2 i0.c2, .bool i1.n, .slice i1.p i1.l i1.c, .bool i1.m, .slice i1.p2 i1.l2 i1.c2, .bool k0.n, .slice k0.p k0.l k0.c, .bool k0.m, .slice k0.p2 k0.l2 k0.c2, .bool k1.n, .slice k1.p k1.l k1.c, .bool k1.m, .slice k1.p2 k1.l2 k1.c2, .bool v0.n, .slice v0.p v0.l v0.c, .bool v0.m, .slice v0.p2 v0.l2 v0.c2, .bool v1.n, .slice v1.p v1.l v1.c, .bool v1.m, .slice v1.p2 v1.l2 v1.c2]]) ?_ rfl ⟨_, _, rfl, ⟨u0, u1, e0, e1, g0, g1, q0, q1, rfl, (((Fu0.out.ext E8.out).own kb1 (noU_of _ (by simp)) o1).own kb2 (noU_of _ (by simp)) o2), (((Fu1.out.ext E8.out).own kb1 (noU_of _ (by simp)) o1).own kb2 (noU_of _ (by simp)) o2), (((Fe0.out.ext (E3.out.trans (E4.out.trans (E5.out.trans (E6.out.trans (E7.out.trans E8.out)))))).own kb1 (noU_of _ (by simp)) o1).own kb2 (noU_of _ (by simp)) o2), (((Fe1.out.ext (E3.out.trans (E4.out.trans (E5.out.trans (E6.out.trans (E7.out.trans E8.out)))))).own kb1 (noU_of _ (by simp)) o1).own kb2 (noU_of _ (by simp)) o2), (((Fg0.out.ext (E4.out.trans (E5.out.trans (E6.out.trans (E7.out.trans E8.out))))).own kb1 (noU_of _ (by simp)) o1).own kb2 (noU_of _ (by simp)) o2), (((Fg1.out.ext (E4.out.trans (E5.out.trans (E6.out.trans (E7.out.trans E8.out))))).own kb1 (noU_of _ (by simp)) o1).own kb2 (noU_of _ (by simp)) o2), (((Fq0.out.ext (E5.out.trans (E6.out.trans (E7.out.trans E8.out)))).own kb1 (noU_of _ (by simp)) o1).own kb2 (noU_of _ (by simp)) o2), (((Fq1.out.ext (E5.out.trans (E6.out.trans (E7.out.trans E8.out)))).own kb1 (noU_of _ (by simp)) o1).own kb2 (noU_of _ (by simp)) o2)⟩, ⟨q0, q1, i0, i1, k0, k1, v0, v1, rfl, (((Fq0.out.ext (E5.out.trans (E6.out.trans (E7.out.trans E8.out)))).own kb1 (noU_of _ (by simp)) o1).own kb2 (noU_of _ (by simp)) o2), (((Fq1.out.ext (E5.out.trans (E6.out.trans (E7.out.trans E8.out)))).own kb1 (noU_of _ (by simp)) o1).own kb2 (noU_of _ (by simp)) o2), (((Fi0.out.ext (E4.out.trans (E5.out.trans (E6.out.trans (E7.out.trans E8.out))))).own kb1 (noU_of _ (by simp)) o1).own kb2 (noU_of _ (by simp)) o2), (((Fi1.out.ext (E4.out.trans (E5.out.trans (E6.out.trans (E7.out.trans E8.out))))).own kb1 (noU_of _ (by simp)) o1).own kb2 (noU_of _ (by simp)) o2), (((Fk0.out.ext (E3.out.trans (E4.out.trans (E5.out.trans (E6.out.trans (E7.out.trans E8.out)))))).own kb1 (noU_of _ (by simp)) o1).own kb2 (noU_of _ (by simp)) o2), (((Fk1.out.ext (E3.out.trans (E4.out.trans (E5.out.trans (E6.out.trans (E7.out.trans E8.out)))))).own kb1 (noU_of _ (by simp)) o1).own kb2 (noU_of _ (by simp)) o2), ((Fv0.out.own kb1 (noU_of _ (by simp)) o1).own kb2 (noU_of _ (by simp)) o2), ((Fv1.out.own kb1 (noU_of _ (by simp)) o1).own kb2 (noU_of _ (by simp)) o2)⟩, (o2.ext (o1.ext (E1.out.trans (E2.out.trans (E3.out.trans (E4.out.trans (E5.out.trans (E6.out.trans (E7.out.trans E8.out))))))) gR0) gR1)⟩
      exact results_cell2 rfl rfl rfl (kd1.loadVar rfl rfl rfl) (kc2.loadVar rfl rfl rfl)

end Go.Proofs.YtllpkoinjompcaaGreat

namespace Go.Proofs.YtllpkoinjompcaaGreat

end Go.Proofs.YtllpkoinjompcaaGreat

namespace Go.Proofs.YtllpkoinjompcaaGreat

def cubXs (a b c d : Rat) : List Rat := [a, lerpV (lerpV (lerpV a b (1 / 2)) (lerpV b c (1 / 2)) (1 / 2)) (lerpV (lerpV b c (1 / 2)) (lerpV c d (1 / 2)) (1 / 2)) (1 / 2), lerpV a b (1 / 2), lerpV (lerpV b c (1 / 2)) (lerpV c d (1 / 2)) (1 / 2), lerpV (lerpV a b (1 / 2)) (lerpV b c (1 / 2)) (1 / 2), lerpV c d (1 / 2), lerpV (lerpV (lerpV a b (1 / 2)) (lerpV b c (1 / 2)) (1 / 2)) (lerpV (lerpV b c (1 / 2)) (lerpV c d (1 / 2)) (1 / 2)) (1 / 2), d]
end Go.Proofs.YtllpkoinjompcaaGreat

namespace Go.Proofs.YtllpkoinjompcaaGreat
open Go.RowKit
attribute [local go_sem ↓] Go.wp_at_zero Go.wp_at_succ run_max_ii run_min_ii

theorem xextr {L : Nat} {v : Value} {xs : List Rat} {w : World} {lo hi : Rat} (hv : RatsV L w v xs) (h0 : 0 < xs.length ∧ xs.length ≤ 50) (h1 : 1 ≤ L) (hL : L ≤ 60000) (hlo : boxLo xs = lo) (hhi : boxHi xs = hi) :
    Calls Tryz.prog 48 #[v] w fun e w' => ∃ a b : RV, e = .returned (.tuple #[.agg #[.bool a.n, .slice a.p a.l a.c, .bool a.m, .slice a.p2 a.l2 a.c2], .agg #[.bool b.n, .slice b.p b.l b.c, .bool b.m, .slice b.p2 b.l2 b.c2]]) ∧ a.Is w' lo ∧ b.Is w' hi ∧ Ext w w' := by
  subst hlo hhi
  refine (extremes_any L v xs w hv h0.1 h0.2 h1 hL).mono fun e w' h => ?_
  obtain ⟨_, _, rfl, ⟨a, rfl, ha⟩, ⟨b, rfl, hb⟩, hx⟩ := h
  exact ⟨a, b, rfl, ha, hb, hx⟩
theorem x3Half (w : World) : Calls Tryz.prog 40 #[.int .i64 1, .int .i64 2] w fun e w' => ∃ c, e = .returned (.tuple #[.agg c, .int .i64 0]) ∧ NIs w' c ((1 : Rat) / 2) ∧ Ext w w' := by
  have h := r3fromInts_any 1 2 w (by omega) (by omega) (by omega) (by omega) (by omega)
  rw [divInt12] at h
  refine h.mono ?_
  intro e w' h
  obtain ⟨a, rfl, k1, k2⟩ := RetRE.v h
  exact ⟨_, rfl, ⟨a, rfl, k1⟩, k2⟩
theorem one_rvs (rs : List RV) : ∀ u ∈ rvCells rs, u.oneCell' = true := by
  intro u hu
  unfold rvCells at hu
  obtain ⟨a, _, ha⟩ := List.mem_flatMap.1 hu
  exact one_rv a u ha
theorem new_cells (w : World) (cs : List Value) (t : TypeId) : ∀ (j : Nat) (u : Value), cs[j]? = some u → (w.alloc (.cells cs.toArray t)).cell? ((⟨w.heap.size, 0, none⟩ : Addr).add j) = some u := by
  intro j u hj
  have e3 : (⟨w.heap.size, 0, none⟩ : Addr).add j = ⟨w.heap.size, j, none⟩ := by unfold Addr.add; split <;> simp_all
  rw [e3, (Blk.new w t cs.toArray).cell j, List.getElem?_toArray]
  exact hj
theorem RowN.lt {w : World} {base : Nat} {e : TypeId} {size : Nat} {v : Value} {n : Nat} {xs : List Value} (h : RowN w base e size v n xs) : ∀ j, v.ownBlock = some j → j < w.heap.size := by
  intro j hj
  obtain ⟨_, ⟨rfl, _⟩ | ⟨g, cap, rest, rfl, _, hb, _⟩⟩ := h
  · simp [Value.ownBlock] at hj
  · simp [Value.ownBlock] at hj; subst hj; exact hb.lt
theorem RowN.grown {w w' : World} {base : Nat} {e : TypeId} {size : Nat} {v : Value} {n : Nat} {xs : List Value} (h : RowN w base e size v n xs) {row : Option Nat} (hg : w.grownBy w' row) (hne : ∀ j, v.ownBlock = some j → row ≠ some j) : RowN w' base e size v n xs := by
  obtain ⟨h1, h2 | ⟨g, cap, rest, rfl, b, c, d⟩⟩ := h
  · exact ⟨h1, .inl h2⟩
  · exact ⟨h1, .inr ⟨g, cap, rest, rfl, b, c.grown hg (hne g (by simp [Value.ownBlock])), d⟩⟩
theorem apart_step {w : World} {vx vy : Value} {g n c : Nat} (hd : ∀ j, vx.ownBlock = some j → vy.ownBlock ≠ some j) (hy : ∀ j, vy.ownBlock = some j → j < w.heap.size) (hf : vx.ownBlock = some g ∨ w.heap.size ≤ g) :
    ∀ j, (Value.slice (some ⟨g, 0, none⟩) n c).ownBlock = some j → vy.ownBlock ≠ some j := by
  intro j hj hk
  simp [Value.ownBlock] at hj
  subst hj
  rcases hf with h | h
  · exact hd g h hk
  · have := hy g hk; omega
theorem apart_flip {vx vy : Value} (h : ∀ j, vx.ownBlock = some j → vy.ownBlock ≠ some j) : ∀ j, vy.ownBlock = some j → vx.ownBlock ≠ some j := fun j hj hk => h j hk hj
theorem in8 {L : Nat} {w : World} {a0 a1 a2 a3 a4 a5 a6 a7 : RV} {q0 q1 q2 q3 q4 q5 q6 q7 : Rat} (h0 : a0.In L w q0) (h1 : a1.In L w q1) (h2 : a2.In L w q2) (h3 : a3.In L w q3) (h4 : a4.In L w q4) (h5 : a5.In L w q5) (h6 : a6.In L w q6) (h7 : a7.In L w q7) : ∀ i, i < [q0, q1, q2, q3, q4, q5, q6, q7].length → ([a0, a1, a2, a3, a4, a5, a6, a7].getD i RV.zero).In L w ([q0, q1, q2, q3, q4, q5, q6, q7].getD i 0) := by
  intro i hi
  match i, hi with
  | 0, _ => exact h0
  | 1, _ => exact h1
  | 2, _ => exact h2
  | 3, _ => exact h3
  | 4, _ => exact h4
  | 5, _ => exact h5
  | 6, _ => exact h6
  | 7, _ => exact h7
theorem rl_half : Nm.rl ((1 : Rat) / 2) ≤ 6 := Nat.le_trans rl12 (by omega)
theorem rl_cubXs {a b c d : Rat} (ha : Nm.rl a ≤ 6) (hb : Nm.rl b ≤ 6) (hc : Nm.rl c ≤ 6) (hd : Nm.rl d ≤ 6) : ∀ x ∈ cubXs a b c d, Nm.rl x ≤ 426 := by
  have h1 := rl_lerpV (L := 6) ha hb rl_half
  have h2 := rl_lerpV (L := 6) hb hc rl_half
  have h3 := rl_lerpV (L := 6) hc hd rl_half
  have hh := rl_half
  have h4 := rl_lerpV (L := 26) (t := 1 / 2) h1 h2 (by omega)
  have h5 := rl_lerpV (L := 26) (t := 1 / 2) h2 h3 (by omega)
  have h6 := rl_lerpV (L := 106) (t := 1 / 2) h4 h5 (by omega)
  intro x hx
  simp only [cubXs, List.mem_cons, List.not_mem_nil, or_false] at hx
  rcases hx with rfl | rfl | rfl | rfl | rfl | rfl | rfl | rfl <;> omega
set_option maxRecDepth 20000 in
set_option maxHeartbeats 8000000 in
theorem rquadBounds_any (L : Nat) (cp : Array Value) (A0 A1 B0 B1 C0 C1 : Rat) (w : World) (hP : Q3In L w cp A0 A1 B0 B1 C0 C1) (h1 : 1 ≤ L) (hL : L ≤ 15) :
    Calls Tryz.prog 23 #[.agg cp] w fun e w' => ∃ c1 c2, e = .returned (.tuple #[.agg c1, .agg c2]) ∧ PtIs w' c1 (quadLo A0 B0 C0) (quadLo A1 B1 C1) ∧ PtIs w' c2 (quadHi A0 B0 C0) (quadHi A1 B1 C1) ∧ Ext w w' := by
  have ZP := hP.size
  have FP := zH hP
  clear hP
  go_enter Tryz.func23, Tryz.ntmps23
  go_upto_region 1 with fail
  have hbx0 : Blk (((w.alloc (.cells cp 32)).alloc (.cells z8 27)).alloc (.cells z8 27)) (w.heap.size) 32 cp := Blk.ext (Blk.new_at w _ (by simp) _ _) (((Ext.refl _).alloc _).alloc _)
  have hR0 : Blk (((w.alloc (.cells cp 32)).alloc (.cells z8 27)).alloc (.cells z8 27)) (w.heap.size + 1) 27 z8 := Blk.ext (Blk.new_at (w.alloc (.cells cp 32)) _ (by simp) _ _) ((Ext.refl _).alloc _)
  have hR1 : Blk (((w.alloc (.cells cp 32)).alloc (.cells z8 27)).alloc (.cells z8 27)) (w.heap.size + 1 + 1) 27 z8 := Blk.ext (Blk.new_at ((w.alloc (.cells cp 32)).alloc (.cells z8 27)) _ (by simp) _ _) (Ext.refl _)
  have hE : Ext w (((w.alloc (.cells cp 32)).alloc (.cells z8 27)).alloc (.cells z8 27)) := ((((Ext.refl _).alloc _).alloc _).alloc _)
  have gR0 : w.heap.size ≤ w.heap.size + 1 := by omega
  have nbx0_R0 : w.heap.size ≠ w.heap.size + 1 := by omega
  have nR1_R0 : w.heap.size + 1 + 1 ≠ w.heap.size + 1 := by omega
  have gR1 : w.heap.size ≤ w.heap.size + 1 + 1 := by omega
  have nbx0_R1 : w.heap.size ≠ w.heap.size + 1 + 1 := by omega
  have nR0_R1 : w.heap.size + 1 ≠ w.heap.size + 1 + 1 := by omega
  generalize (((w.alloc (.cells cp 32)).alloc (.cells z8 27)).alloc (.cells z8 27)) = wa at *
  generalize w.heap.size + 1 + 1 = R1 at *
  generalize w.heap.size + 1 = R0 at *
  have E1 : Hid (Ext w wa) := hE
  have Fbx0 := zH hbx0
  have FR0 := zH hR0
  have FR1 := zH hR1
  clear hE hbx0 hR0 hR1
  refine wp_region_lit ?_
  refine pL Fbx0.out Tryz.underlying32 (by rw [show (cp : Array Value).size = 24 from ZP]; kernel_rfl) ?_
  (try simp only [Act.put, zA, zB, zC])
  refine mv_call (by rfl) (by go_simp) (qvals0_any L _ A0 A1 B0 B1 C0 C1 _ (FP.out.ext E1.out) h1 hL) ?_
  rintro e w2 ⟨v0, rfl, h_v0, hx⟩
  have E2 : Hid (Ext wa w2) := hx
  have Fv0 := zH h_v0
  clear h_v0
  clear hx
  refine ⟨_, rfl, ?_⟩
  (try simp only [Act.put, zA, zB, zC])
  refine mv_call (by rfl) (by go_simp) (xextr Fv0.out (qVals_length _ _ _) (by omega) (by omega) (qVals_lo _ _ _) (qVals_hi _ _ _)) ?_
  rintro e w3 ⟨l0, u0, rfl, h_l0, h_u0, hx⟩
  have E3 : Hid (Ext w2 w3) := hx
  have Fl0 := zH h_l0
  have Fu0 := zH h_u0
  clear h_l0 h_u0
  clear hx
  refine ⟨_, rfl, ?_⟩
  (try simp only [Act.put, zA, zB, zC])
  refine pV (w' := w3) ?_
  (try simp only [Act.put, zA, zB, zC])
  refine pV (w' := w3) ?_
  (try simp only [Act.put, zA, zB, zC])
  refine pV (w' := w3) ?_
  (try simp only [Act.put, zA, zB, zC])
  obtain ⟨xq1, xq2, xq3, xq4, xq5⟩ := new_var2 w3 26 z4 #[.bool l0.n, .slice l0.p l0.l l0.c, .bool l0.m, .slice l0.p2 l0.l2 l0.c2] #[.bool u0.n, .slice u0.p u0.l u0.c, .bool u0.m, .slice u0.p2 u0.l2 u0.c2] rfl rfl
  refine mv_val (v := .pointer (some ⟨w3.heap.size, 0, none⟩)) (w' := w3.alloc (.cells z4 26)) (by rfl) (by go_simp) ?_
  (try simp only [Act.put, zA, zB, zC])
  refine mv_val (v := .pointer (some ⟨(w3.alloc (.cells z4 26)).heap.size, 0, none⟩)) (w' := (w3.alloc (.cells z4 26)).alloc (.cells z4 26)) (by rfl) (by go_simp) ?_
  (try simp only [Act.put, zA, zB, zC])
  refine pO #[.bool l0.n, .slice l0.p l0.l l0.c, .bool l0.m, .slice l0.p2 l0.l2 l0.c2] xq1 rfl (by rw [show (#[.bool l0.n, .slice l0.p l0.l l0.c, .bool l0.m, .slice l0.p2 l0.l2 l0.c2] : Array Value).size = 4 from rfl]; kernel_rfl) (all_oneCell_toArray (by simp [Value.oneCell'])) ?_
  (try simp only [Act.put])
  refine pO #[.bool u0.n, .slice u0.p u0.l u0.c, .bool u0.m, .slice u0.p2 u0.l2 u0.c2] xq2 rfl (by rw [show (#[.bool u0.n, .slice u0.p u0.l u0.c, .bool u0.m, .slice u0.p2 u0.l2 u0.c2] : Array Value).size = 4 from rfl]; kernel_rfl) (all_oneCell_toArray (by simp [Value.oneCell'])) ?_
  (try simp only [Act.put])
  clear xq1 xq2
  have nV4_R0 : w3.heap.size ≠ R0 := Nat.ne_of_gt (Blk.lt (FR0.out.ext (tr E2 E3).out))
  have nV4_R1 : w3.heap.size ≠ R1 := Nat.ne_of_gt (Blk.lt (FR1.out.ext (tr E2 E3).out))
  have nV5_R0 : (w3.alloc (.cells z4 26)).heap.size ≠ R0 := Nat.ne_of_gt (Nat.lt_trans (Blk.lt (FR0.out.ext (tr E2 E3).out)) (by simp))
  have nV5_R1 : (w3.alloc (.cells z4 26)).heap.size ≠ R1 := Nat.ne_of_gt (Nat.lt_trans (Blk.lt (FR1.out.ext (tr E2 E3).out)) (by simp))
  generalize (((w3.alloc (.cells z4 26)).alloc (.cells z4 26)).setCells w3.heap.size 0 (#[.bool l0.n, .slice l0.p l0.l l0.c, .bool l0.m, .slice l0.p2 l0.l2 l0.c2] : Array Value).toList).setCells (w3.alloc (.cells z4 26)).heap.size 0 (#[.bool u0.n, .slice u0.p u0.l u0.c, .bool u0.m, .slice u0.p2 u0.l2 u0.c2] : Array Value).toList = w4 at *
  generalize (w3.alloc (.cells z4 26)).heap.size = Y4 at *
  generalize w3.heap.size = X4 at *
  have E4 : Hid (Ext w3 w4) := xq3
  have FV4 := zH xq4
  have FV5 := zH xq5
  clear xq3 xq4 xq5
  go_upto_region 2 with fail
  refine wp_region_lit ?_
  refine pL (Fbx0.out.ext (tr E2 (tr E3 E4)).out) Tryz.underlying32 (by rw [show (cp : Array Value).size = 24 from ZP]; kernel_rfl) ?_
  (try simp only [Act.put, zA, zB, zC])
  refine mv_call (by rfl) (by go_simp) (qvals1_any L _ A0 A1 B0 B1 C0 C1 _ (FP.out.ext (tr E1 (tr E2 (tr E3 E4))).out) h1 hL) ?_
  rintro e w5 ⟨v1, rfl, h_v1, hx⟩
  have E5 : Hid (Ext w4 w5) := hx
  have Fv1 := zH h_v1
  clear h_v1
  clear hx
  refine ⟨_, rfl, ?_⟩
  (try simp only [Act.put, zA, zB, zC])
  refine mv_call (by rfl) (by go_simp) (xextr Fv1.out (qVals_length _ _ _) (by omega) (by omega) (qVals_lo _ _ _) (qVals_hi _ _ _)) ?_
  rintro e w6 ⟨l1, u1, rfl, h_l1, h_u1, hx⟩
  have E6 : Hid (Ext w5 w6) := hx
  have Fl1 := zH h_l1
  have Fu1 := zH h_u1
  clear h_l1 h_u1
  clear hx
  refine ⟨_, rfl, ?_⟩
  (try simp only [Act.put, zA, zB, zC])
  refine pV (w' := w6) ?_
  (try simp only [Act.put, zA, zB, zC])
  refine pV (w' := w6) ?_
  (try simp only [Act.put, zA, zB, zC])
  refine pV (w' := w6) ?_
  (try simp only [Act.put, zA, zB, zC])
  obtain ⟨xq1, xq2, xq3, xq4, xq5⟩ := new_var2 w6 26 z4 #[.bool l1.n, .slice l1.p l1.l l1.c, .bool l1.m, .slice l1.p2 l1.l2 l1.c2] #[.bool u1.n, .slice u1.p u1.l u1.c, .bool u1.m, .slice u1.p2 u1.l2 u1.c2] rfl rfl
  refine mv_val (v := .pointer (some ⟨w6.heap.size, 0, none⟩)) (w' := w6.alloc (.cells z4 26)) (by rfl) (by go_simp) ?_
  (try simp only [Act.put, zA, zB, zC])
  refine mv_val (v := .pointer (some ⟨(w6.alloc (.cells z4 26)).heap.size, 0, none⟩)) (w' := (w6.alloc (.cells z4 26)).alloc (.cells z4 26)) (by rfl) (by go_simp) ?_
  (try simp only [Act.put, zA, zB, zC])
  refine pO #[.bool l1.n, .slice l1.p l1.l l1.c, .bool l1.m, .slice l1.p2 l1.l2 l1.c2] xq1 rfl (by rw [show (#[.bool l1.n, .slice l1.p l1.l l1.c, .bool l1.m, .slice l1.p2 l1.l2 l1.c2] : Array Value).size = 4 from rfl]; kernel_rfl) (all_oneCell_toArray (by simp [Value.oneCell'])) ?_
  (try simp only [Act.put])
  refine pO #[.bool u1.n, .slice u1.p u1.l u1.c, .bool u1.m, .slice u1.p2 u1.l2 u1.c2] xq2 rfl (by rw [show (#[.bool u1.n, .slice u1.p u1.l u1.c, .bool u1.m, .slice u1.p2 u1.l2 u1.c2] : Array Value).size = 4 from rfl]; kernel_rfl) (all_oneCell_toArray (by simp [Value.oneCell'])) ?_
  (try simp only [Act.put])
  clear xq1 xq2
  have nV6_R0 : w6.heap.size ≠ R0 := Nat.ne_of_gt (Blk.lt (FR0.out.ext (tr E2 (tr E3 (tr E4 (tr E5 E6)))).out))
  have nV6_R1 : w6.heap.size ≠ R1 := Nat.ne_of_gt (Blk.lt (FR1.out.ext (tr E2 (tr E3 (tr E4 (tr E5 E6)))).out))
  have nV7_R0 : (w6.alloc (.cells z4 26)).heap.size ≠ R0 := Nat.ne_of_gt (Nat.lt_trans (Blk.lt (FR0.out.ext (tr E2 (tr E3 (tr E4 (tr E5 E6)))).out)) (by simp))
  have nV7_R1 : (w6.alloc (.cells z4 26)).heap.size ≠ R1 := Nat.ne_of_gt (Nat.lt_trans (Blk.lt (FR1.out.ext (tr E2 (tr E3 (tr E4 (tr E5 E6)))).out)) (by simp))
  generalize (((w6.alloc (.cells z4 26)).alloc (.cells z4 26)).setCells w6.heap.size 0 (#[.bool l1.n, .slice l1.p l1.l l1.c, .bool l1.m, .slice l1.p2 l1.l2 l1.c2] : Array Value).toList).setCells (w6.alloc (.cells z4 26)).heap.size 0 (#[.bool u1.n, .slice u1.p u1.l u1.c, .bool u1.m, .slice u1.p2 u1.l2 u1.c2] : Array Value).toList = w7 at *
  generalize (w6.alloc (.cells z4 26)).heap.size = Y7 at *
  generalize w6.heap.size = X7 at *
  have E7 : Hid (Ext w6 w7) := xq3
  have FV6 := zH xq4
  have FV7 := zH xq5
  clear xq3 xq4 xq5
  go_upto_region 3 with fail
  refine wp_region_held_drew (S := fun x => Own2 R0 R1 w7 x) (by kernel_rfl) (Own2.of_ext (Ext.refl _).drew) (fun _ => ?_)
  have E8 := zH (show Ext w7 w7.drew from (Ext.refl _).drew)
  refine mR 0 (bs 8 1) X4 0 [.bool l0.n, .slice l0.p l0.l l0.c, .bool l0.m, .slice l0.p2 l0.l2 l0.c2] (fun x hx => (((FV4.out.ext (tr E5 (tr E6 E7)).out)).own2 hx nV4_R0 nV4_R1).part 0 4) Tryz.underlying26 (Own2.of_ext E8.out) ?_
  refine mR 1 (bs 8 3) X7 0 [.bool l1.n, .slice l1.p l1.l l1.c, .bool l1.m, .slice l1.p2 l1.l2 l1.c2] (fun x hx => ((FV6.out).own2 hx nV6_R0 nV6_R1).part 0 4) Tryz.underlying26 (Own2.of_ext E8.out) ?_
  (try simp only [Act.put, zA, zB, zC])
  refine mV 2 (bs 8 7) (Own2.of_ext E8.out) ?_
  refine mR 3 (bs 8 15) Y4 0 [.bool u0.n, .slice u0.p u0.l u0.c, .bool u0.m, .slice u0.p2 u0.l2 u0.c2] (fun x hx => (((FV5.out.ext (tr E5 (tr E6 E7)).out)).own2 hx nV5_R0 nV5_R1).part 0 4) Tryz.underlying26 (Own2.of_ext E8.out) ?_
  refine mR 4 (bs 8 31) Y7 0 [.bool u1.n, .slice u1.p u1.l u1.c, .bool u1.m, .slice u1.p2 u1.l2 u1.c2] (fun x hx => ((FV7.out).own2 hx nV7_R0 nV7_R1).part 0 4) Tryz.underlying26 (Own2.of_ext E8.out) ?_
  (try simp only [Act.put, zA, zB, zC])
  refine mV 5 (bs 8 63) (Own2.of_ext E8.out) ?_
  (try simp only [Act.put, zA, zB, zC])
  have o1 := Own.setCells w7.drew R0 #[.bool l0.n, .slice l0.p l0.l l0.c, .bool l0.m, .slice l0.p2 l0.l2 l0.c2, .bool l1.n, .slice l1.p l1.l l1.c, .bool l1.m, .slice l1.p2 l1.l2 l1.c2]
  have kb1 := (FR0.out.ext (tr E2 (tr E3 (tr E4 (tr E5 (tr E6 (tr E7 E8)))))).out)
  have hs1 : Own2 R0 R1 w7 (w7.drew.setCells R0 0 (#[.bool l0.n, .slice l0.p l0.l l0.c, .bool l0.m, .slice l0.p2 l0.l2 l0.c2, .bool l1.n, .slice l1.p l1.l l1.c, .bool l1.m, .slice l1.p2 l1.l2 l1.c2] : Array Value).toList) := (Own2.one (Own.then_ext' E8.out o1))
  refine mO 6 (bs 8 127) #[.bool l0.n, .slice l0.p l0.l l0.c, .bool l0.m, .slice l0.p2 l0.l2 l0.c2, .bool l1.n, .slice l1.p l1.l l1.c, .bool l1.m, .slice l1.p2 l1.l2 l1.c2] kb1 (by rw [show (#[.bool l0.n, .slice l0.p l0.l l0.c, .bool l0.m, .slice l0.p2 l0.l2 l0.c2, .bool l1.n, .slice l1.p l1.l l1.c, .bool l1.m, .slice l1.p2 l1.l2 l1.c2] : Array Value).size = 8 from rfl]; rfl) (by rw [show (#[.bool l0.n, .slice l0.p l0.l l0.c, .bool l0.m, .slice l0.p2 l0.l2 l0.c2, .bool l1.n, .slice l1.p l1.l l1.c, .bool l1.m, .slice l1.p2 l1.l2 l1.c2] : Array Value).size = 8 from rfl]; kernel_rfl) (all_oneCell_toArray (by simp [Value.oneCell'])) hs1 ?_
  (try simp only [Act.put])
  have kc1 := kb1.setCells #[.bool l0.n, .slice l0.p l0.l l0.c, .bool l0.m, .slice l0.p2 l0.l2 l0.c2, .bool l1.n, .slice l1.p l1.l l1.c, .bool l1.m, .slice l1.p2 l1.l2 l1.c2] (by rw [show (#[.bool l0.n, .slice l0.p l0.l l0.c, .bool l0.m, .slice l0.p2 l0.l2 l0.c2, .bool l1.n, .slice l1.p l1.l l1.c, .bool l1.m, .slice l1.p2 l1.l2 l1.c2] : Array Value).size = 8 from rfl]; rfl)
  have o2 := Own.setCells (w7.drew.setCells R0 0 (#[.bool l0.n, .slice l0.p l0.l l0.c, .bool l0.m, .slice l0.p2 l0.l2 l0.c2, .bool l1.n, .slice l1.p l1.l l1.c, .bool l1.m, .slice l1.p2 l1.l2 l1.c2] : Array Value).toList) R1 #[.bool u0.n, .slice u0.p u0.l u0.c, .bool u0.m, .slice u0.p2 u0.l2 u0.c2, .bool u1.n, .slice u1.p u1.l u1.c, .bool u1.m, .slice u1.p2 u1.l2 u1.c2]
  have kb2 := ((FR1.out.ext (tr E2 (tr E3 (tr E4 (tr E5 (tr E6 (tr E7 E8)))))).out)).own o1 nR1_R0
  have hs2 : Own2 R0 R1 w7 ((w7.drew.setCells R0 0 (#[.bool l0.n, .slice l0.p l0.l l0.c, .bool l0.m, .slice l0.p2 l0.l2 l0.c2, .bool l1.n, .slice l1.p l1.l l1.c, .bool l1.m, .slice l1.p2 l1.l2 l1.c2] : Array Value).toList).setCells R1 0 (#[.bool u0.n, .slice u0.p u0.l u0.c, .bool u0.m, .slice u0.p2 u0.l2 u0.c2, .bool u1.n, .slice u1.p u1.l u1.c, .bool u1.m, .slice u1.p2 u1.l2 u1.c2] : Array Value).toList) := ⟨_, Own.then_ext' E8.out o1, o2⟩
  refine mO 7 (bs 8 255) #[.bool u0.n, .slice u0.p u0.l u0.c, .bool u0.m, .slice u0.p2 u0.l2 u0.c2, .bool u1.n, .slice u1.p u1.l u1.c, .bool u1.m, .slice u1.p2 u1.l2 u1.c2] kb2 (by rw [show (#[.bool u0.n, .slice u0.p u0.l u0.c, .bool u0.m, .slice u0.p2 u0.l2 u0.c2, .bool u1.n, .slice u1.p u1.l u1.c, .bool u1.m, .slice u1.p2 u1.l2 u1.c2] : Array Value).size = 8 from rfl]; rfl) (by rw [show (#[.bool u0.n, .slice u0.p u0.l u0.c, .bool u0.m, .slice u0.p2 u0.l2 u0.c2, .bool u1.n, .slice u1.p u1.l u1.c, .bool u1.m, .slice u1.p2 u1.l2 u1.c2] : Array Value).size = 8 from rfl]; kernel_rfl) (all_oneCell_toArray (by simp [Value.oneCell'])) hs2 ?_
  (try simp only [Act.put])
  have kc2 := kb2.setCells #[.bool u0.n, .slice u0.p u0.l u0.c, .bool u0.m, .slice u0.p2 u0.l2 u0.c2, .bool u1.n, .slice u1.p u1.l u1.c, .bool u1.m, .slice u1.p2 u1.l2 u1.c2] (by rw [show (#[.bool u0.n, .slice u0.p u0.l u0.c, .bool u0.m, .slice u0.p2 u0.l2 u0.c2, .bool u1.n, .slice u1.p u1.l u1.c, .bool u1.m, .slice u1.p2 u1.l2 u1.c2] : Array Value).size = 8 from rfl]; rfl)
  refine wpAnyH_done (by kernel_rfl) ?_ _
  go_wp2_with fail
  have kd1 := kc1.own o2 nR0_R1
  refine bodyPost_ret (v := .tuple #[.agg #[.bool l0.n, .slice l0.p l0.l l0.c, .bool l0.m, .slice l0.p2 l0.l2 l0.c2, .bool l1.n, .slice l1.p l1.l l1.c, .bool l1.m, .slice l1.p2 l1.l2 l1.c2], .agg #[.bool u0.n, .slice u0.p u0.l u0.c, .bool u0.m, .slice u0.p2 u0.l2 u0.c2, .bool u1.n, .slice u1.p u1.l u1.c, .bool u1.m, .slice u1.p2 u1.l2 u1.c2]]) ?_ rfl ⟨_, _, rfl, ⟨l0, l1, rfl, (((Fl0.out.ext (tr E4 (tr E5 (tr E6 (tr E7 E8)))).out).own kb1 (noU_of _ (by simp)) o1).own kb2 (noU_of _ (by simp)) o2), (((Fl1.out.ext (tr E7 E8).out).own kb1 (noU_of _ (by simp)) o1).own kb2 (noU_of _ (by simp)) o2)⟩, ⟨u0, u1, rfl, (((Fu0.out.ext (tr E4 (tr E5 (tr E6 (tr E7 E8)))).out).own kb1 (noU_of _ (by simp)) o1).own kb2 (noU_of _ (by simp)) o2), (((Fu1.out.ext (tr E7 E8).out).own kb1 (noU_of _ (by simp)) o1).own kb2 (noU_of _ (by simp)) o2)⟩, (o2.ext (o1.ext (tr E1 (tr E2 (tr E3 (tr E4 (tr E5 (tr E6 (tr E7 E8))))))).out gR0) gR1)⟩
  exact results_cell2 rfl rfl rfl (kd1.loadVar rfl rfl rfl) (kc2.loadVar rfl rfl rfl)
set_option maxRecDepth 20000 in
set_option maxHeartbeats 8000000 in
theorem rcubicBounds_any (cp : Array Value) (A0 A1 B0 B1 C0 C1 D0 D1 : Rat) (w : World) (hP : C4In 6 w cp A0 A1 B0 B1 C0 C1 D0 D1) :
  Calls Tryz.prog 25 #[.agg cp] w fun e w' => ∃ c1 c2, e = .returned (.tuple #[.agg c1, .agg c2]) ∧ PtIs w' c1 (boxLo (cubXs A0 B0 C0 D0)) (boxLo (cubXs A1 B1 C1 D1)) ∧ PtIs w' c2 (boxHi (cubXs A0 B0 C0 D0)) (boxHi (cubXs A1 B1 C1 D1)) ∧ Ext w w' := by
 have ZP := hP.size
 obtain ⟨i0, hi, hz0, hz1, hz2⟩ := info_parts infoRat
 have HI := zH (And.intro hi (And.intro hz0 (And.intro hz1 hz2)))
 clear hi hz0 hz1 hz2
 have rS := Nat.le_trans rl12 (show 1 ≤ 6 by omega)
 have hrP : Nm.rl A0 ≤ 6 ∧ Nm.rl A1 ≤ 6 ∧ Nm.rl B0 ≤ 6 ∧ Nm.rl B1 ≤ 6 ∧ Nm.rl C0 ≤ 6 ∧ Nm.rl C1 ≤ 6 ∧ Nm.rl D0 ≤ 6 ∧ Nm.rl D1 ≤ 6 := by
  obtain ⟨_, _, _, _, _, _, _, _, _, k0, k1, k2, k3, k4, k5, k6, k7⟩ := hP
  exact ⟨(by have := k0.rl; omega), (by have := k1.rl; omega), (by have := k2.rl; omega), (by have := k3.rl; omega), (by have := k4.rl; omega), (by have := k5.rl; omega), (by have := k6.rl; omega), (by have := k7.rl; omega)⟩
 have FP := zH hP
 clear hP
 go_enter Tryz.func25, Tryz.ntmps25
 go_upto_region 1 with fail
 have hbx0 : Blk (((w.alloc (.cells cp 28)).alloc (.cells z8 27)).alloc (.cells z8 27)) (w.heap.size) 28 cp := Blk.ext (Blk.new_at w _ (by simp) _ _) (((Ext.refl _).alloc _).alloc _)
 have hR0 : Blk (((w.alloc (.cells cp 28)).alloc (.cells z8 27)).alloc (.cells z8 27)) (w.heap.size + 1) 27 z8 := Blk.ext (Blk.new_at (w.alloc (.cells cp 28)) _ (by simp) _ _) ((Ext.refl _).alloc _)
 have hR1 : Blk (((w.alloc (.cells cp 28)).alloc (.cells z8 27)).alloc (.cells z8 27)) (w.heap.size + 1 + 1) 27 z8 := Blk.ext (Blk.new_at ((w.alloc (.cells cp 28)).alloc (.cells z8 27)) _ (by simp) _ _) (Ext.refl _)
 have hE : Ext w (((w.alloc (.cells cp 28)).alloc (.cells z8 27)).alloc (.cells z8 27)) := ((((Ext.refl _).alloc _).alloc _).alloc _)
 have gR0 : w.heap.size ≤ w.heap.size + 1 := by omega
 have nbx0_R0 : w.heap.size ≠ w.heap.size + 1 := by omega
 have nR1_R0 : w.heap.size + 1 + 1 ≠ w.heap.size + 1 := by omega
 have gR1 : w.heap.size ≤ w.heap.size + 1 + 1 := by omega
 have nbx0_R1 : w.heap.size ≠ w.heap.size + 1 + 1 := by omega
 have nR0_R1 : w.heap.size + 1 ≠ w.heap.size + 1 + 1 := by omega
 generalize (((w.alloc (.cells cp 28)).alloc (.cells z8 27)).alloc (.cells z8 27)) = wa at *
 generalize w.heap.size + 1 + 1 = R1 at *
 generalize w.heap.size + 1 = R0 at *
 have E1 : Hid (Ext w wa) := hE
 have Fbx0 := zH hbx0
 have FR0 := zH hR0
 have FR1 := zH hR1
 clear hE hbx0 hR0 hR1
 refine wp_region_lit ?_
 refine mv_call (by rfl) (by go_simp) (x3Half _) ?_
 rintro e w2 ⟨ct, rfl, hc, hx⟩
 have E2 : Hid (Ext wa w2) := hx
 have FT := zH hc
 have Z_ct := hc.size
 have O_ct := hc.one
 clear hc
 clear hx
 refine ⟨_, rfl, ?_⟩
 (try simp only [Act.put, zA, zB, zC])
 refine pV (w' := w2) ?_
 (try simp only [Act.put, zA, zB, zC])
 refine pV (w' := w2) ?_
 (try simp only [Act.put, zA, zB, zC])
 refine pV (w' := w2) ?_
 (try simp only [Act.put, zA, zB, zC])
 refine mv_val (v := .pointer (some ⟨w2.heap.size, 0, none⟩)) (w' := w2.alloc (.cells z4 26)) (by rfl) (by go_simp) ?_
 (try simp only [Act.put, zA, zB, zC])
 refine pO ct (Blk.new w2 _ _) (Eq.trans Z_ct rfl) (by rw [show (ct : Array Value).size = 4 from Z_ct]; kernel_rfl) O_ct ?_
 (try simp only [Act.put])
 have nV4_R0 : w2.heap.size ≠ R0 := Nat.ne_of_gt (Blk.lt (FR0.out.ext E2.out))
 have nV4_R1 : w2.heap.size ≠ R1 := Nat.ne_of_gt (Blk.lt (FR1.out.ext E2.out))
 obtain ⟨xq1, xq2⟩ := new_var w2 26 z4 ct (Eq.trans Z_ct rfl)
 generalize (w2.alloc (.cells z4 26)).setCells w2.heap.size 0 (ct : Array Value).toList = w3 at *
 generalize w2.heap.size = X3 at *
 have E3 : Hid (Ext w2 w3) := xq1
 have FV4 := zH xq2
 clear xq1 xq2
 refine pV (w' := w3) ?_
 (try simp only [Act.put, zA, zB, zC])
 go_upto_region 2 with fail
 refine wp_region_lit ?_
 refine pL (Fbx0.out.ext (tr E2 E3).out) Tryz.underlying28 (by rw [show (cp : Array Value).size = 32 from ZP]; kernel_rfl) ?_
 (try simp only [Act.put, zA, zB, zC])
 refine pL FV4.out Tryz.underlying26 (by rw [show (ct : Array Value).size = 4 from Z_ct]; kernel_rfl) ?_
 (try simp only [Act.put, zA, zB, zC])
 refine mv_call (by rfl) (by go_simp) (rsplitCubic_any 6 _ _ A0 A1 B0 B1 C0 C1 D0 D1 ((1 : Rat) / 2) _ (FP.out.ext (tr E1 (tr E2 E3)).out) ((FT.out.ext E3.out).isIn rS) (by omega) (by omega)) ?_
 rintro e w4 ⟨_, _, rfl, h_1, h_2, hx⟩
 have E4 : Hid (Ext w3 w4) := hx
 obtain ⟨a0f, a1f, b0f, b1f, c0f, c1f, d0f, d1f, rfl, ia0f, ia1f, ib0f, ib1f, ic0f, ic1f, id0f, id1f⟩ := h_1
 obtain ⟨a0s, a1s, b0s, b1s, c0s, c1s, d0s, d1s, rfl, ia0s, ia1s, ib0s, ib1s, ic0s, ic1s, id0s, id1s⟩ := h_2
 have Fa0f := zH ia0f
 have Fa1f := zH ia1f
 have Fb0f := zH ib0f
 have Fb1f := zH ib1f
 have Fc0f := zH ic0f
 have Fc1f := zH ic1f
 have Fd0f := zH id0f
 have Fd1f := zH id1f
 have Fa0s := zH ia0s
 have Fa1s := zH ia1s
 have Fb0s := zH ib0s
 have Fb1s := zH ib1s
 have Fc0s := zH ic0s
 have Fc1s := zH ic1s
 have Fd0s := zH id0s
 have Fd1s := zH id1s
 clear ia0f ia1f ib0f ib1f ic0f ic1f id0f id1f ia0s ia1s ib0s ib1s ic0s ic1s id0s id1s
 clear hx
 refine ⟨_, rfl, ?_⟩
 (try simp only [Act.put, zA, zB, zC])
 refine pV (w' := w4) ?_
 (try simp only [Act.put, zA, zB, zC])
 refine pV (w' := w4) ?_
 (try simp only [Act.put, zA, zB, zC])
 refine pV (w' := w4) ?_
 (try simp only [Act.put, zA, zB, zC])
 obtain ⟨xq1, xq2, xq3, xq4, xq5⟩ := new_var2 w4 28 z32 #[.bool a0f.n, .slice a0f.p a0f.l a0f.c, .bool a0f.m, .slice a0f.p2 a0f.l2 a0f.c2, .bool a1f.n, .slice a1f.p a1f.l a1f.c, .bool a1f.m, .slice a1f.p2 a1f.l2 a1f.c2, .bool b0f.n, .slice b0f.p b0f.l b0f.c, .bool b0f.m, .slice b0f.p2 b0f.l2 b0f.c2, .bool b1f.n, .slice b1f.p b1f.l b1f.c, .bool b1f.m, .slice b1f.p2 b1f.l2 b1f.c2, .bool c0f.n, .slice c0f.p c0f.l c0f.c, .bool c0f.m, .slice c0f.p2 c0f.l2 c0f.c2, .bool c1f.n, .slice c1f.p c1f.l c1f.c, .bool c1f.m, .slice c1f.p2 c1f.l2 c1f.c2, .bool d0f.n, .slice d0f.p d0f.l d0f.c, .bool d0f.m, .slice d0f.p2 d0f.l2 d0f.c2, .bool d1f.n, .slice d1f.p d1f.l d1f.c, .bool d1f.m, .slice d1f.p2 d1f.l2 d1f.c2] #[.bool a0s.n, .slice a0s.p a0s.l a0s.c, .bool a0s.m, .slice a0s.p2 a0s.l2 a0s.c2, .bool a1s.n, .slice a1s.p a1s.l a1s.c, .bool a1s.m, .slice a1s.p2 a1s.l2 a1s.c2, .bool b0s.n, .slice b0s.p b0s.l b0s.c, .bool b0s.m, .slice b0s.p2 b0s.l2 b0s.c2, .bool b1s.n, .slice b1s.p b1s.l b1s.c, .bool b1s.m, .slice b1s.p2 b1s.l2 b1s.c2, .bool c0s.n, .slice c0s.p c0s.l c0s.c, .bool c0s.m, .slice c0s.p2 c0s.l2 c0s.c2, .bool c1s.n, .slice c1s.p c1s.l c1s.c, .bool c1s.m, .slice c1s.p2 c1s.l2 c1s.c2, .bool d0s.n, .slice d0s.p d0s.l d0s.c, .bool d0s.m, .slice d0s.p2 d0s.l2 d0s.c2, .bool d1s.n, .slice d1s.p d1s.l d1s.c, .bool d1s.m, .slice d1s.p2 d1s.l2 d1s.c2] rfl rfl
 refine mv_val (v := .pointer (some ⟨w4.heap.size, 0, none⟩)) (w' := w4.alloc (.cells z32 28)) (by rfl) (by go_simp) ?_
 (try simp only [Act.put, zA, zB, zC])
 refine mv_val (v := .pointer (some ⟨(w4.alloc (.cells z32 28)).heap.size, 0, none⟩)) (w' := (w4.alloc (.cells z32 28)).alloc (.cells z32 28)) (by rfl) (by go_simp) ?_
 (try simp only [Act.put, zA, zB, zC])
 refine pO #[.bool a0f.n, .slice a0f.p a0f.l a0f.c, .bool a0f.m, .slice a0f.p2 a0f.l2 a0f.c2, .bool a1f.n, .slice a1f.p a1f.l a1f.c, .bool a1f.m, .slice a1f.p2 a1f.l2 a1f.c2, .bool b0f.n, .slice b0f.p b0f.l b0f.c, .bool b0f.m, .slice b0f.p2 b0f.l2 b0f.c2, .bool b1f.n, .slice b1f.p b1f.l b1f.c, .bool b1f.m, .slice b1f.p2 b1f.l2 b1f.c2, .bool c0f.n, .slice c0f.p c0f.l c0f.c, .bool c0f.m, .slice c0f.p2 c0f.l2 c0f.c2, .bool c1f.n, .slice c1f.p c1f.l c1f.c, .bool c1f.m, .slice c1f.p2 c1f.l2 c1f.c2, .bool d0f.n, .slice d0f.p d0f.l d0f.c, .bool d0f.m, .slice d0f.p2 d0f.l2 d0f.c2, .bool d1f.n, .slice d1f.p d1f.l d1f.c, .bool d1f.m, .slice d1f.p2 d1f.l2 d1f.c2] xq1 rfl (by rw [show (#[.bool a0f.n, .slice a0f.p a0f.l a0f.c, .bool a0f.m, .slice a0f.p2 a0f.l2 a0f.c2, .bool a1f.n, .slice a1f.p a1f.l a1f.c, .bool a1f.m, .slice a1f.p2 a1f.l2 a1f.c2, .bool b0f.n, .slice b0f.p b0f.l b0f.c, .bool b0f.m, .slice b0f.p2 b0f.l2 b0f.c2, .bool b1f.n, .slice b1f.p b1f.l b1f.c, .bool b1f.m, .slice b1f.p2 b1f.l2 b1f.c2, .bool c0f.n, .slice c0f.p c0f.l c0f.c, .bool c0f.m, .slice c0f.p2 c0f.l2 c0f.c2, .bool c1f.n, .slice c1f.p c1f.l c1f.c, .bool c1f.m, .slice c1f.p2 c1f.l2 c1f.c2, .bool d0f.n, .slice d0f.p d0f.l d0f.c, .bool d0f.m, .slice d0f.p2 d0f.l2 d0f.c2, .bool d1f.n, .slice d1f.p d1f.l d1f.c, .bool d1f.m, .slice d1f.p2 d1f.l2 d1f.c2] : Array Value).size = 32 from rfl]; kernel_rfl) (all_oneCell_toArray (by simp [Value.oneCell'])) ?_
 (try simp only [Act.put])
 refine pO #[.bool a0s.n, .slice a0s.p a0s.l a0s.c, .bool a0s.m, .slice a0s.p2 a0s.l2 a0s.c2, .bool a1s.n, .slice a1s.p a1s.l a1s.c, .bool a1s.m, .slice a1s.p2 a1s.l2 a1s.c2, .bool b0s.n, .slice b0s.p b0s.l b0s.c, .bool b0s.m, .slice b0s.p2 b0s.l2 b0s.c2, .bool b1s.n, .slice b1s.p b1s.l b1s.c, .bool b1s.m, .slice b1s.p2 b1s.l2 b1s.c2, .bool c0s.n, .slice c0s.p c0s.l c0s.c, .bool c0s.m, .slice c0s.p2 c0s.l2 c0s.c2, .bool c1s.n, .slice c1s.p c1s.l c1s.c, .bool c1s.m, .slice c1s.p2 c1s.l2 c1s.c2, .bool d0s.n, .slice d0s.p d0s.l d0s.c, .bool d0s.m, .slice d0s.p2 d0s.l2 d0s.c2, .bool d1s.n, .slice d1s.p d1s.l d1s.c, .bool d1s.m, .slice d1s.p2 d1s.l2 d1s.c2] xq2 rfl (by rw [show (#[.bool a0s.n, .slice a0s.p a0s.l a0s.c, .bool a0s.m, .slice a0s.p2 a0s.l2 a0s.c2, .bool a1s.n, .slice a1s.p a1s.l a1s.c, .bool a1s.m, .slice a1s.p2 a1s.l2 a1s.c2, .bool b0s.n, .slice b0s.p b0s.l b0s.c, .bool b0s.m, .slice b0s.p2 b0s.l2 b0s.c2, .bool b1s.n, .slice b1s.p b1s.l b1s.c, .bool b1s.m, .slice b1s.p2 b1s.l2 b1s.c2, .bool c0s.n, .slice c0s.p c0s.l c0s.c, .bool c0s.m, .slice c0s.p2 c0s.l2 c0s.c2, .bool c1s.n, .slice c1s.p c1s.l c1s.c, .bool c1s.m, .slice c1s.p2 c1s.l2 c1s.c2, .bool d0s.n, .slice d0s.p d0s.l d0s.c, .bool d0s.m, .slice d0s.p2 d0s.l2 d0s.c2, .bool d1s.n, .slice d1s.p d1s.l d1s.c, .bool d1s.m, .slice d1s.p2 d1s.l2 d1s.c2] : Array Value).size = 32 from rfl]; kernel_rfl) (all_oneCell_toArray (by simp [Value.oneCell'])) ?_
 (try simp only [Act.put])
 clear xq1 xq2
 have nV6_R0 : w4.heap.size ≠ R0 := Nat.ne_of_gt (Blk.lt (FR0.out.ext (tr E2 (tr E3 E4)).out))
 have nV6_R1 : w4.heap.size ≠ R1 := Nat.ne_of_gt (Blk.lt (FR1.out.ext (tr E2 (tr E3 E4)).out))
 have nV7_R0 : (w4.alloc (.cells z32 28)).heap.size ≠ R0 := Nat.ne_of_gt (Nat.lt_trans (Blk.lt (FR0.out.ext (tr E2 (tr E3 E4)).out)) (by simp))
 have nV7_R1 : (w4.alloc (.cells z32 28)).heap.size ≠ R1 := Nat.ne_of_gt (Nat.lt_trans (Blk.lt (FR1.out.ext (tr E2 (tr E3 E4)).out)) (by simp))
 generalize (((w4.alloc (.cells z32 28)).alloc (.cells z32 28)).setCells w4.heap.size 0 (#[.bool a0f.n, .slice a0f.p a0f.l a0f.c, .bool a0f.m, .slice a0f.p2 a0f.l2 a0f.c2, .bool a1f.n, .slice a1f.p a1f.l a1f.c, .bool a1f.m, .slice a1f.p2 a1f.l2 a1f.c2, .bool b0f.n, .slice b0f.p b0f.l b0f.c, .bool b0f.m, .slice b0f.p2 b0f.l2 b0f.c2, .bool b1f.n, .slice b1f.p b1f.l b1f.c, .bool b1f.m, .slice b1f.p2 b1f.l2 b1f.c2, .bool c0f.n, .slice c0f.p c0f.l c0f.c, .bool c0f.m, .slice c0f.p2 c0f.l2 c0f.c2, .bool c1f.n, .slice c1f.p c1f.l c1f.c, .bool c1f.m, .slice c1f.p2 c1f.l2 c1f.c2, .bool d0f.n, .slice d0f.p d0f.l d0f.c, .bool d0f.m, .slice d0f.p2 d0f.l2 d0f.c2, .bool d1f.n, .slice d1f.p d1f.l d1f.c, .bool d1f.m, .slice d1f.p2 d1f.l2 d1f.c2] : Array Value).toList).setCells (w4.alloc (.cells z32 28)).heap.size 0 (#[.bool a0s.n, .slice a0s.p a0s.l a0s.c, .bool a0s.m, .slice a0s.p2 a0s.l2 a0s.c2, .bool a1s.n, .slice a1s.p a1s.l a1s.c, .bool a1s.m, .slice a1s.p2 a1s.l2 a1s.c2, .bool b0s.n, .slice b0s.p b0s.l b0s.c, .bool b0s.m, .slice b0s.p2 b0s.l2 b0s.c2, .bool b1s.n, .slice b1s.p b1s.l b1s.c, .bool b1s.m, .slice b1s.p2 b1s.l2 b1s.c2, .bool c0s.n, .slice c0s.p c0s.l c0s.c, .bool c0s.m, .slice c0s.p2 c0s.l2 c0s.c2, .bool c1s.n, .slice c1s.p c1s.l c1s.c, .bool c1s.m, .slice c1s.p2 c1s.l2 c1s.c2, .bool d0s.n, .slice d0s.p d0s.l d0s.c, .bool d0s.m, .slice d0s.p2 d0s.l2 d0s.c2, .bool d1s.n, .slice d1s.p d1s.l d1s.c, .bool d1s.m, .slice d1s.p2 d1s.l2 d1s.c2] : Array Value).toList = w5 at *
 generalize (w4.alloc (.cells z32 28)).heap.size = Y5 at *
 generalize w4.heap.size = X5 at *
 have E5 : Hid (Ext w4 w5) := xq3
 have FV6 := zH xq4
 have FV7 := zH xq5
 clear xq3 xq4 xq5
 have HEX := zH (tr E1 (tr E2 (tr E3 (tr E4 E5)))).out
 have Ja0f := zH (Fa0f.out.ext E5.out)
 have Ja1f := zH (Fa1f.out.ext E5.out)
 have Jb0f := zH (Fb0f.out.ext E5.out)
 have Jb1f := zH (Fb1f.out.ext E5.out)
 have Jc0f := zH (Fc0f.out.ext E5.out)
 have Jc1f := zH (Fc1f.out.ext E5.out)
 have Jd0f := zH (Fd0f.out.ext E5.out)
 have Jd1f := zH (Fd1f.out.ext E5.out)
 have Ja0s := zH (Fa0s.out.ext E5.out)
 have Ja1s := zH (Fa1s.out.ext E5.out)
 have Jb0s := zH (Fb0s.out.ext E5.out)
 have Jb1s := zH (Fb1s.out.ext E5.out)
 have Jc0s := zH (Fc0s.out.ext E5.out)
 have Jc1s := zH (Fc1s.out.ext E5.out)
 have Jd0s := zH (Fd0s.out.ext E5.out)
 have Jd1s := zH (Fd1s.out.ext E5.out)
 have HBV6 := zH FV6.out
 have HBV7 := zH FV7.out
 have HBR0 := zH (FR0.out.ext (tr E2 (tr E3 (tr E4 E5))).out)
 have HBR1 := zH (FR1.out.ext (tr E2 (tr E3 (tr E4 E5))).out)
 clear Fa0f Fa1f Fb0f Fb1f Fc0f Fc1f Fd0f Fd1f Fa0s Fa1s Fb0s Fb1s Fc0s Fc1s Fd0s Fd1s FV6 FV7 FR0 FR1
 go_upto_region 3 with fail
 refine wp_region_lit ?_
 refine mv_val (v := .slice (some ⟨w5.heap.size, 0, none⟩) 0 0) (w' := (w5.alloc (.cells #[] 26))) (by rfl) (by go_simp) ?_
 (try simp only [Act.put, zA, zB, zC])
 refine mv_val (v := .slice (some ⟨(w5.alloc (.cells #[] 26)).heap.size, 0, none⟩) 0 0) (w' := ((w5.alloc (.cells #[] 26)).alloc (.cells #[] 26))) (by rfl) (by go_simp) ?_
 (try simp only [Act.put, zA, zB, zC])
 have q1 : RowN ((w5.alloc (.cells #[] 26)).alloc (.cells #[] 26)) w5.heap.size 26 4 (.slice (some ⟨w5.heap.size, 0, none⟩) 0 0) 0 (rvCells []) := (RowN.empty w5 w5.heap.size 26 4 (Nat.le_refl _)).alloc' _
 have q2 : RowN ((w5.alloc (.cells #[] 26)).alloc (.cells #[] 26)) w5.heap.size 26 4 (.slice (some ⟨(w5.alloc (.cells #[] 26)).heap.size, 0, none⟩) 0 0) 0 (rvCells []) := RowN.empty (w5.alloc (.cells #[] 26)) w5.heap.size 26 4 (by simp)
 have q3 : ∀ j, (Value.slice (some ⟨w5.heap.size, 0, none⟩) 0 0).ownBlock = some j → (Value.slice (some ⟨(w5.alloc (.cells #[] 26)).heap.size, 0, none⟩) 0 0).ownBlock ≠ some j := by intro j; simp only [Value.ownBlock, World.size_alloc, Option.some.injEq, ne_eq]; omega
 have q4 : Ext w5 ((w5.alloc (.cells #[] 26)).alloc (.cells #[] 26)) := ((Ext.refl _).alloc _).alloc _
 generalize hwe : ((w5.alloc (.cells #[] 26)).alloc (.cells #[] 26)) = wE at *
 generalize (w5.alloc (.cells #[] 26)).heap.size = YE at *
 have q5 : w5.heap.size ≤ wE.heap.size := q4.size
 clear hwe
 generalize hbs : w5.heap.size = BS at *
 have HBS := zH hbs
 clear hbs
 refine pV (w' := wE) ?_
 (try simp only [Act.put, zA, zB, zC])
 refine pV (w' := wE) ?_
 (try simp only [Act.put, zA, zB, zC])
 go_wp2_with fail
 go_loopg [8, 9, 10] 4 (fun g vx vy i wr => (g = 4 ∧ i = .int .i64 0 ∧ RowN wr BS 26 4 vx 0 (rvCells []) ∧ RowN wr BS 26 4 vy 0 (rvCells []) ∧ (∀ j, vx.ownBlock = some j → vy.ownBlock ≠ some j) ∧ Ext w5 wr ∧ BS ≤ wr.heap.size) ∨ (g = 3 ∧ i = .int .i64 1 ∧ RowN wr BS 26 4 vx 2 (rvCells [a0f, a0s]) ∧ RowN wr BS 26 4 vy 2 (rvCells [a1f, a1s]) ∧ (∀ j, vx.ownBlock = some j → vy.ownBlock ≠ some j) ∧ Ext w5 wr ∧ BS ≤ wr.heap.size) ∨ (g = 2 ∧ i = .int .i64 2 ∧ RowN wr BS 26 4 vx 4 (rvCells [a0f, a0s, b0f, b0s]) ∧ RowN wr BS 26 4 vy 4 (rvCells [a1f, a1s, b1f, b1s]) ∧ (∀ j, vx.ownBlock = some j → vy.ownBlock ≠ some j) ∧ Ext w5 wr ∧ BS ≤ wr.heap.size) ∨ (g = 1 ∧ i = .int .i64 3 ∧ RowN wr BS 26 4 vx 6 (rvCells [a0f, a0s, b0f, b0s, c0f, c0s]) ∧ RowN wr BS 26 4 vy 6 (rvCells [a1f, a1s, b1f, b1s, c1f, c1s]) ∧ (∀ j, vx.ownBlock = some j → vy.ownBlock ≠ some j) ∧ Ext w5 wr ∧ BS ≤ wr.heap.size) ∨ (g = 0 ∧ i = .int .i64 4 ∧ RowN wr BS 26 4 vx 8 (rvCells [a0f, a0s, b0f, b0s, c0f, c0s, d0f, d0s]) ∧ RowN wr BS 26 4 vy 8 (rvCells [a1f, a1s, b1f, b1s, c1f, c1s, d1f, d1s]) ∧ (∀ j, vx.ownBlock = some j → vy.ownBlock ≠ some j) ∧ Ext w5 wr ∧ BS ≤ wr.heap.size))
 case atStart => exact Or.inl ⟨rfl, rfl, q1, q2, q3, q4, q5⟩
 case round =>
  clear q1 q2 q3 q4 q5
  rcases hrel with ⟨rfl, rfl, h1, h2, h3, h4, h5⟩ | ⟨rfl, rfl, h1, h2, h3, h4, h5⟩ | ⟨rfl, rfl, h1, h2, h3, h4, h5⟩ | ⟨rfl, rfl, h1, h2, h3, h4, h5⟩ | ⟨rfl, rfl, h1, h2, h3, h4, h5⟩
  ·have HX0 := zH h1
   have HY0 := zH h2
   have HD0 := zH h3
   have HBL0 := zH h5
   have h4' := h4
   clear h1 h2 h3 h4 h5
   have E1 := zH (show Ext w5 wr from h4')
   clear h4'
   go_upto_region 7 with fail
   refine wp_region_held_drew (S := fun x => Ext w5 x) (by kernel_rfl) E1.out.drew (fun _ => ?_)
   have E2 := zH (show Ext wr wr.drew from (Ext.refl _).drew)
   refine mV 0 (bs 12 1) (tr E1 E2).out ?_
   (try simp only [Act.put, zA, zB, zC])
   refine mV 1 (bs 12 3) (tr E1 E2).out ?_
   (try simp only [Act.put, zA, zB, zC])
   refine mV 2 (bs 12 7) (tr E1 E2).out ?_
   (try simp only [Act.put, zA, zB, zC])
   refine mV 3 (bs 12 15) (tr E1 E2).out ?_
   refine mR 4 (bs 12 31) X5 0 [.bool a0f.n, .slice a0f.p a0f.l a0f.c, .bool a0f.m, .slice a0f.p2 a0f.l2 a0f.c2] (fun x hx => ((HBV6.out).ext hx).part 0 4) Tryz.underlying26 (tr E1 E2).out ?_
   (try simp only [Act.put, zA, zB, zC])
   refine mV 5 (bs 12 63) (tr E1 E2).out ?_
   (try simp only [Act.put, zA, zB, zC])
   refine mV 6 (bs 12 127) (tr E1 E2).out ?_
   (try simp only [Act.put, zA, zB, zC])
   refine mV 7 (bs 12 255) (tr E1 E2).out ?_
   refine mR 8 (bs 12 511) Y5 0 [.bool a0s.n, .slice a0s.p a0s.l a0s.c, .bool a0s.m, .slice a0s.p2 a0s.l2 a0s.c2] (fun x hx => ((HBV7.out).ext hx).part 0 4) Tryz.underlying26 (tr E1 E2).out ?_
   (try simp only [Act.put, zA, zB, zC])
   refine mU 9 (bs 12 1023) (v := .slice (some ⟨wr.drew.heap.size, 0, none⟩) 2 2) (w' := (wr.drew.alloc (.cells #[.bool a0f.n, .slice a0f.p a0f.l a0f.c, .bool a0f.m, .slice a0f.p2 a0f.l2 a0f.c2, .bool a0s.n, .slice a0s.p a0s.l a0s.c, .bool a0s.m, .slice a0s.p2 a0s.l2 a0s.c2] 26))) ((tr E1 E2).out.alloc (.cells #[.bool a0f.n, .slice a0f.p a0f.l a0f.c, .bool a0f.m, .slice a0f.p2 a0f.l2 a0f.c2, .bool a0s.n, .slice a0s.p a0s.l a0s.c, .bool a0s.m, .slice a0s.p2 a0s.l2 a0s.c2] 26)) ?_
   (try simp only [Act.put, zA, zB, zC])
   have hrw := HX0.out.ext (E2.out.alloc (.cells #[.bool a0f.n, .slice a0f.p a0f.l a0f.c, .bool a0f.m, .slice a0f.p2 a0f.l2 a0f.c2, .bool a0s.n, .slice a0s.p a0s.l a0s.c, .bool a0s.m, .slice a0s.p2 a0s.l2 a0s.c2] 26))
   have hro := HY0.out.ext (E2.out.alloc (.cells #[.bool a0f.n, .slice a0f.p a0f.l a0f.c, .bool a0f.m, .slice a0f.p2 a0f.l2 a0f.c2, .bool a0s.n, .slice a0s.p a0s.l a0s.c, .bool a0s.m, .slice a0s.p2 a0s.l2 a0s.c2] 26))
   have hdd := HD0.out
   have hbl : BS ≤ (wr.drew.alloc (.cells #[.bool a0f.n, .slice a0f.p a0f.l a0f.c, .bool a0f.m, .slice a0f.p2 a0f.l2 a0f.c2, .bool a0s.n, .slice a0s.p a0s.l a0s.c, .bool a0s.m, .slice a0s.p2 a0s.l2 a0s.c2] 26)).heap.size := Nat.le_trans HBL0.out (E2.out.alloc (.cells #[.bool a0f.n, .slice a0f.p a0f.l a0f.c, .bool a0f.m, .slice a0f.p2 a0f.l2 a0f.c2, .bool a0s.n, .slice a0s.p a0s.l a0s.c, .bool a0s.m, .slice a0s.p2 a0s.l2 a0s.c2] 26)).size
   have hEE : Ext w5 (wr.drew.alloc (.cells #[.bool a0f.n, .slice a0f.p a0f.l a0f.c, .bool a0f.m, .slice a0f.p2 a0f.l2 a0f.c2, .bool a0s.n, .slice a0s.p a0s.l a0s.c, .bool a0s.m, .slice a0s.p2 a0s.l2 a0s.c2] 26)) := ((tr E1 E2).out.alloc (.cells #[.bool a0f.n, .slice a0f.p a0f.l a0f.c, .bool a0f.m, .slice a0f.p2 a0f.l2 a0f.c2, .bool a0s.n, .slice a0s.p a0s.l a0s.c, .bool a0s.m, .slice a0s.p2 a0s.l2 a0s.c2] 26))
   refine md_appendF (j := 10) (listed' := (bs 12 2047)) (by rfl) (by kernel_rfl) (by rfl) _ _ 64 (by rfl) BS 26 i0 _ 4 64 Tryz.underlying64 HI.out.1 HI.out.2.1 HI.out.2.2.1 HI.out.2.2.2 rfl (by decide) noUL_z _ 0 (rvCells []) (by rfl) hrw ⟨wr.drew.heap.size, 0, none⟩ 2 2 [.bool a0f.n, .slice a0f.p a0f.l a0f.c, .bool a0f.m, .slice a0f.p2 a0f.l2 a0f.c2, .bool a0s.n, .slice a0s.p a0s.l a0s.c, .bool a0s.m, .slice a0s.p2 a0s.l2 a0s.c2] (by rfl) rfl (new_cells _ [.bool a0f.n, .slice a0f.p a0f.l a0f.c, .bool a0f.m, .slice a0f.p2 a0f.l2 a0f.c2, .bool a0s.n, .slice a0s.p a0s.l a0s.c, .bool a0s.m, .slice a0s.p2 a0s.l2 a0s.c2] _) (one_rvs [a0f, a0s]) (noUL_rv [a0f, a0s]) (by decide) (by unfold maxLen; omega) (by omega) hbl (by kernel_rfl) ?_
   intro gx cx wn0 hf k2 k3 k4
   have m1 : RowN wn0 BS 26 4 (.slice (some ⟨gx, 0, none⟩) 2 cx) 2 (rvCells [a0f, a0s]) := k2
   have m2 := hro.grown k3 (fun j hj hk => hdd j hk hj)
   have m3 := apart_step (n := 2) (c := cx) hdd hro.lt hf
   have m4 : Ext w5 wn0 := hEE.grown k3 (fun j hj => by have := hrw.block j hj; have := HBS.out; omega)
   have m5 : BS ≤ wn0.heap.size := Nat.le_trans hbl k3.size
   refine ⟨m4, ?_⟩
   (try simp only [Act.put, zA, zB, zC])
   clear hrw hro hdd hbl hEE hf k2 k3 k4
   refine mU 11 (bs 12 4095) (v := .slice (some ⟨gx, 0, none⟩) 2 cx) (w' := wn0) m4 ?_
   (try simp only [Act.put, zA, zB, zC])
   refine wpAnyH_done (by kernel_rfl) ?_ _
   have HX1 := zH m1
   have HY1 := zH m2
   have HD1 := zH m3
   have HBL1 := zH m5
   clear m1 m2 m3 m5
   have m4' := m4
   clear m4
   have E1 := zH (show Ext w5 wn0 from m4')
   clear m4'
   go_upto_region 8 with fail
   refine wp_region_held_drew (S := fun x => Ext w5 x) (by kernel_rfl) E1.out.drew (fun _ => ?_)
   have E2 := zH (show Ext wn0 wn0.drew from (Ext.refl _).drew)
   refine mV 0 (bs 12 1) (tr E1 E2).out ?_
   (try simp only [Act.put, zA, zB, zC])
   refine mV 1 (bs 12 3) (tr E1 E2).out ?_
   (try simp only [Act.put, zA, zB, zC])
   refine mV 2 (bs 12 7) (tr E1 E2).out ?_
   (try simp only [Act.put, zA, zB, zC])
   refine mV 3 (bs 12 15) (tr E1 E2).out ?_
   refine mR 4 (bs 12 31) X5 4 [.bool a1f.n, .slice a1f.p a1f.l a1f.c, .bool a1f.m, .slice a1f.p2 a1f.l2 a1f.c2] (fun x hx => ((HBV6.out).ext hx).part 4 4) Tryz.underlying26 (tr E1 E2).out ?_
   (try simp only [Act.put, zA, zB, zC])
   refine mV 5 (bs 12 63) (tr E1 E2).out ?_
   (try simp only [Act.put, zA, zB, zC])
   refine mV 6 (bs 12 127) (tr E1 E2).out ?_
   (try simp only [Act.put, zA, zB, zC])
   refine mV 7 (bs 12 255) (tr E1 E2).out ?_
   refine mR 8 (bs 12 511) Y5 4 [.bool a1s.n, .slice a1s.p a1s.l a1s.c, .bool a1s.m, .slice a1s.p2 a1s.l2 a1s.c2] (fun x hx => ((HBV7.out).ext hx).part 4 4) Tryz.underlying26 (tr E1 E2).out ?_
   (try simp only [Act.put, zA, zB, zC])
   refine mU 9 (bs 12 1023) (v := .slice (some ⟨wn0.drew.heap.size, 0, none⟩) 2 2) (w' := (wn0.drew.alloc (.cells #[.bool a1f.n, .slice a1f.p a1f.l a1f.c, .bool a1f.m, .slice a1f.p2 a1f.l2 a1f.c2, .bool a1s.n, .slice a1s.p a1s.l a1s.c, .bool a1s.m, .slice a1s.p2 a1s.l2 a1s.c2] 26))) ((tr E1 E2).out.alloc (.cells #[.bool a1f.n, .slice a1f.p a1f.l a1f.c, .bool a1f.m, .slice a1f.p2 a1f.l2 a1f.c2, .bool a1s.n, .slice a1s.p a1s.l a1s.c, .bool a1s.m, .slice a1s.p2 a1s.l2 a1s.c2] 26)) ?_
   (try simp only [Act.put, zA, zB, zC])
   have hrw := HY1.out.ext (E2.out.alloc (.cells #[.bool a1f.n, .slice a1f.p a1f.l a1f.c, .bool a1f.m, .slice a1f.p2 a1f.l2 a1f.c2, .bool a1s.n, .slice a1s.p a1s.l a1s.c, .bool a1s.m, .slice a1s.p2 a1s.l2 a1s.c2] 26))
   have hro := HX1.out.ext (E2.out.alloc (.cells #[.bool a1f.n, .slice a1f.p a1f.l a1f.c, .bool a1f.m, .slice a1f.p2 a1f.l2 a1f.c2, .bool a1s.n, .slice a1s.p a1s.l a1s.c, .bool a1s.m, .slice a1s.p2 a1s.l2 a1s.c2] 26))
   have hdd := apart_flip HD1.out
   have hbl : BS ≤ (wn0.drew.alloc (.cells #[.bool a1f.n, .slice a1f.p a1f.l a1f.c, .bool a1f.m, .slice a1f.p2 a1f.l2 a1f.c2, .bool a1s.n, .slice a1s.p a1s.l a1s.c, .bool a1s.m, .slice a1s.p2 a1s.l2 a1s.c2] 26)).heap.size := Nat.le_trans HBL1.out (E2.out.alloc (.cells #[.bool a1f.n, .slice a1f.p a1f.l a1f.c, .bool a1f.m, .slice a1f.p2 a1f.l2 a1f.c2, .bool a1s.n, .slice a1s.p a1s.l a1s.c, .bool a1s.m, .slice a1s.p2 a1s.l2 a1s.c2] 26)).size
   have hEE : Ext w5 (wn0.drew.alloc (.cells #[.bool a1f.n, .slice a1f.p a1f.l a1f.c, .bool a1f.m, .slice a1f.p2 a1f.l2 a1f.c2, .bool a1s.n, .slice a1s.p a1s.l a1s.c, .bool a1s.m, .slice a1s.p2 a1s.l2 a1s.c2] 26)) := ((tr E1 E2).out.alloc (.cells #[.bool a1f.n, .slice a1f.p a1f.l a1f.c, .bool a1f.m, .slice a1f.p2 a1f.l2 a1f.c2, .bool a1s.n, .slice a1s.p a1s.l a1s.c, .bool a1s.m, .slice a1s.p2 a1s.l2 a1s.c2] 26))
   refine md_appendF (j := 10) (listed' := (bs 12 2047)) (by rfl) (by kernel_rfl) (by rfl) _ _ 64 (by rfl) BS 26 i0 _ 4 64 Tryz.underlying64 HI.out.1 HI.out.2.1 HI.out.2.2.1 HI.out.2.2.2 rfl (by decide) noUL_z _ 0 (rvCells []) (by rfl) hrw ⟨wn0.drew.heap.size, 0, none⟩ 2 2 [.bool a1f.n, .slice a1f.p a1f.l a1f.c, .bool a1f.m, .slice a1f.p2 a1f.l2 a1f.c2, .bool a1s.n, .slice a1s.p a1s.l a1s.c, .bool a1s.m, .slice a1s.p2 a1s.l2 a1s.c2] (by rfl) rfl (new_cells _ [.bool a1f.n, .slice a1f.p a1f.l a1f.c, .bool a1f.m, .slice a1f.p2 a1f.l2 a1f.c2, .bool a1s.n, .slice a1s.p a1s.l a1s.c, .bool a1s.m, .slice a1s.p2 a1s.l2 a1s.c2] _) (one_rvs [a1f, a1s]) (noUL_rv [a1f, a1s]) (by decide) (by unfold maxLen; omega) (by omega) hbl (by kernel_rfl) ?_
   intro gy cy wn1 hf k2 k3 k4
   have m1 : RowN wn1 BS 26 4 (.slice (some ⟨gy, 0, none⟩) 2 cy) 2 (rvCells [a1f, a1s]) := k2
   have m2 := hro.grown k3 (fun j hj hk => hdd j hk hj)
   have m3 := apart_step (n := 2) (c := cy) hdd hro.lt hf
   have m4 : Ext w5 wn1 := hEE.grown k3 (fun j hj => by have := hrw.block j hj; have := HBS.out; omega)
   have m5 : BS ≤ wn1.heap.size := Nat.le_trans hbl k3.size
   refine ⟨m4, ?_⟩
   (try simp only [Act.put, zA, zB, zC])
   clear hrw hro hdd hbl hEE hf k2 k3 k4
   refine mU 11 (bs 12 4095) (v := .slice (some ⟨gy, 0, none⟩) 2 cy) (w' := wn1) m4 ?_
   (try simp only [Act.put, zA, zB, zC])
   refine wpAnyH_done (by kernel_rfl) ?_ _
   have HX2 := zH m2
   have HY2 := zH m1
   have HD2 := zH m3
   have HE2 := zH m4
   have HBL2 := zH m5
   clear m1 m2 m3 m4 m5
   go_wp2_with fail
   go_roundg 3
   case measure => omega
   case rel => exact Or.inr (Or.inl ⟨rfl, by go_num, HX2.out, HY2.out, fun j hj hk => HD2.out j hk hj, HE2.out, HBL2.out⟩)
  ·have HX0 := zH h1
   have HY0 := zH h2
   have HD0 := zH h3
   have HBL0 := zH h5
   have h4' := h4
   clear h1 h2 h3 h4 h5
   have E1 := zH (show Ext w5 wr from h4')
   clear h4'
   go_upto_region 7 with fail
   refine wp_region_held_drew (S := fun x => Ext w5 x) (by kernel_rfl) E1.out.drew (fun _ => ?_)
   have E2 := zH (show Ext wr wr.drew from (Ext.refl _).drew)
   refine mV 0 (bs 12 1) (tr E1 E2).out ?_
   (try simp only [Act.put, zA, zB, zC])
   refine mV 1 (bs 12 3) (tr E1 E2).out ?_
   (try simp only [Act.put, zA, zB, zC])
   refine mV 2 (bs 12 7) (tr E1 E2).out ?_
   (try simp only [Act.put, zA, zB, zC])
   refine mV 3 (bs 12 15) (tr E1 E2).out ?_
   refine mR 4 (bs 12 31) X5 8 [.bool b0f.n, .slice b0f.p b0f.l b0f.c, .bool b0f.m, .slice b0f.p2 b0f.l2 b0f.c2] (fun x hx => ((HBV6.out).ext hx).part 8 4) Tryz.underlying26 (tr E1 E2).out ?_
   (try simp only [Act.put, zA, zB, zC])
   refine mV 5 (bs 12 63) (tr E1 E2).out ?_
   (try simp only [Act.put, zA, zB, zC])
   refine mV 6 (bs 12 127) (tr E1 E2).out ?_
   (try simp only [Act.put, zA, zB, zC])
   refine mV 7 (bs 12 255) (tr E1 E2).out ?_
   refine mR 8 (bs 12 511) Y5 8 [.bool b0s.n, .slice b0s.p b0s.l b0s.c, .bool b0s.m, .slice b0s.p2 b0s.l2 b0s.c2] (fun x hx => ((HBV7.out).ext hx).part 8 4) Tryz.underlying26 (tr E1 E2).out ?_
   (try simp only [Act.put, zA, zB, zC])
   refine mU 9 (bs 12 1023) (v := .slice (some ⟨wr.drew.heap.size, 0, none⟩) 2 2) (w' := (wr.drew.alloc (.cells #[.bool b0f.n, .slice b0f.p b0f.l b0f.c, .bool b0f.m, .slice b0f.p2 b0f.l2 b0f.c2, .bool b0s.n, .slice b0s.p b0s.l b0s.c, .bool b0s.m, .slice b0s.p2 b0s.l2 b0s.c2] 26))) ((tr E1 E2).out.alloc (.cells #[.bool b0f.n, .slice b0f.p b0f.l b0f.c, .bool b0f.m, .slice b0f.p2 b0f.l2 b0f.c2, .bool b0s.n, .slice b0s.p b0s.l b0s.c, .bool b0s.m, .slice b0s.p2 b0s.l2 b0s.c2] 26)) ?_
   (try simp only [Act.put, zA, zB, zC])
   have hrw := HX0.out.ext (E2.out.alloc (.cells #[.bool b0f.n, .slice b0f.p b0f.l b0f.c, .bool b0f.m, .slice b0f.p2 b0f.l2 b0f.c2, .bool b0s.n, .slice b0s.p b0s.l b0s.c, .bool b0s.m, .slice b0s.p2 b0s.l2 b0s.c2] 26))
   have hro := HY0.out.ext (E2.out.alloc (.cells #[.bool b0f.n, .slice b0f.p b0f.l b0f.c, .bool b0f.m, .slice b0f.p2 b0f.l2 b0f.c2, .bool b0s.n, .slice b0s.p b0s.l b0s.c, .bool b0s.m, .slice b0s.p2 b0s.l2 b0s.c2] 26))
   have hdd := HD0.out
   have hbl : BS ≤ (wr.drew.alloc (.cells #[.bool b0f.n, .slice b0f.p b0f.l b0f.c, .bool b0f.m, .slice b0f.p2 b0f.l2 b0f.c2, .bool b0s.n, .slice b0s.p b0s.l b0s.c, .bool b0s.m, .slice b0s.p2 b0s.l2 b0s.c2] 26)).heap.size := Nat.le_trans HBL0.out (E2.out.alloc (.cells #[.bool b0f.n, .slice b0f.p b0f.l b0f.c, .bool b0f.m, .slice b0f.p2 b0f.l2 b0f.c2, .bool b0s.n, .slice b0s.p b0s.l b0s.c, .bool b0s.m, .slice b0s.p2 b0s.l2 b0s.c2] 26)).size
   have hEE : Ext w5 (wr.drew.alloc (.cells #[.bool b0f.n, .slice b0f.p b0f.l b0f.c, .bool b0f.m, .slice b0f.p2 b0f.l2 b0f.c2, .bool b0s.n, .slice b0s.p b0s.l b0s.c, .bool b0s.m, .slice b0s.p2 b0s.l2 b0s.c2] 26)) := ((tr E1 E2).out.alloc (.cells #[.bool b0f.n, .slice b0f.p b0f.l b0f.c, .bool b0f.m, .slice b0f.p2 b0f.l2 b0f.c2, .bool b0s.n, .slice b0s.p b0s.l b0s.c, .bool b0s.m, .slice b0s.p2 b0s.l2 b0s.c2] 26))
   refine md_appendF (j := 10) (listed' := (bs 12 2047)) (by rfl) (by kernel_rfl) (by rfl) _ _ 64 (by rfl) BS 26 i0 _ 4 64 Tryz.underlying64 HI.out.1 HI.out.2.1 HI.out.2.2.1 HI.out.2.2.2 rfl (by decide) noUL_z _ 2 (rvCells [a0f, a0s]) (by rfl) hrw ⟨wr.drew.heap.size, 0, none⟩ 2 2 [.bool b0f.n, .slice b0f.p b0f.l b0f.c, .bool b0f.m, .slice b0f.p2 b0f.l2 b0f.c2, .bool b0s.n, .slice b0s.p b0s.l b0s.c, .bool b0s.m, .slice b0s.p2 b0s.l2 b0s.c2] (by rfl) rfl (new_cells _ [.bool b0f.n, .slice b0f.p b0f.l b0f.c, .bool b0f.m, .slice b0f.p2 b0f.l2 b0f.c2, .bool b0s.n, .slice b0s.p b0s.l b0s.c, .bool b0s.m, .slice b0s.p2 b0s.l2 b0s.c2] _) (one_rvs [b0f, b0s]) (noUL_rv [b0f, b0s]) (by decide) (by unfold maxLen; omega) (by omega) hbl (by kernel_rfl) ?_
   intro gx cx wn0 hf k2 k3 k4
   have m1 : RowN wn0 BS 26 4 (.slice (some ⟨gx, 0, none⟩) 4 cx) 4 (rvCells [a0f, a0s, b0f, b0s]) := k2
   have m2 := hro.grown k3 (fun j hj hk => hdd j hk hj)
   have m3 := apart_step (n := 4) (c := cx) hdd hro.lt hf
   have m4 : Ext w5 wn0 := hEE.grown k3 (fun j hj => by have := hrw.block j hj; have := HBS.out; omega)
   have m5 : BS ≤ wn0.heap.size := Nat.le_trans hbl k3.size
   refine ⟨m4, ?_⟩
   (try simp only [Act.put, zA, zB, zC])
   clear hrw hro hdd hbl hEE hf k2 k3 k4
   refine mU 11 (bs 12 4095) (v := .slice (some ⟨gx, 0, none⟩) 4 cx) (w' := wn0) m4 ?_
   (try simp only [Act.put, zA, zB, zC])
   refine wpAnyH_done (by kernel_rfl) ?_ _
   have HX1 := zH m1
   have HY1 := zH m2
   have HD1 := zH m3
   have HBL1 := zH m5
   clear m1 m2 m3 m5
   have m4' := m4
   clear m4
   have E1 := zH (show Ext w5 wn0 from m4')
   clear m4'
   go_upto_region 8 with fail
   refine wp_region_held_drew (S := fun x => Ext w5 x) (by kernel_rfl) E1.out.drew (fun _ => ?_)
   have E2 := zH (show Ext wn0 wn0.drew from (Ext.refl _).drew)
   refine mV 0 (bs 12 1) (tr E1 E2).out ?_
   (try simp only [Act.put, zA, zB, zC])
   refine mV 1 (bs 12 3) (tr E1 E2).out ?_
   (try simp only [Act.put, zA, zB, zC])
   refine mV 2 (bs 12 7) (tr E1 E2).out ?_
   (try simp only [Act.put, zA, zB, zC])
   refine mV 3 (bs 12 15) (tr E1 E2).out ?_
   refine mR 4 (bs 12 31) X5 12 [.bool b1f.n, .slice b1f.p b1f.l b1f.c, .bool b1f.m, .slice b1f.p2 b1f.l2 b1f.c2] (fun x hx => ((HBV6.out).ext hx).part 12 4) Tryz.underlying26 (tr E1 E2).out ?_
   (try simp only [Act.put, zA, zB, zC])
   refine mV 5 (bs 12 63) (tr E1 E2).out ?_
   (try simp only [Act.put, zA, zB, zC])
   refine mV 6 (bs 12 127) (tr E1 E2).out ?_
   (try simp only [Act.put, zA, zB, zC])
   refine mV 7 (bs 12 255) (tr E1 E2).out ?_
   refine mR 8 (bs 12 511) Y5 12 [.bool b1s.n, .slice b1s.p b1s.l b1s.c, .bool b1s.m, .slice b1s.p2 b1s.l2 b1s.c2] (fun x hx => ((HBV7.out).ext hx).part 12 4) Tryz.underlying26 (tr E1 E2).out ?_
   (try simp only [Act.put, zA, zB, zC])
   refine mU 9 (bs 12 1023) (v := .slice (some ⟨wn0.drew.heap.size, 0, none⟩) 2 2) (w' := (wn0.drew.alloc (.cells #[.bool b1f.n, .slice b1f.p b1f.l b1f.c, .bool b1f.m, .slice b1f.p2 b1f.l2 b1f.c2, .bool b1s.n, .slice b1s.p b1s.l b1s.c, .bool b1s.m, .slice b1s.p2 b1s.l2 b1s.c2] 26))) ((tr E1 E2).out.alloc (.cells #[.bool b1f.n, .slice b1f.p b1f.l b1f.c, .bool b1f.m, .slice b1f.p2 b1f.l2 b1f.c2, .bool b1s.n, .slice b1s.p b1s.l b1s.c, .bool b1s.m, .slice b1s.p2 b1s.l2 b1s.c2] 26)) ?_
   (try simp only [Act.put, zA, zB, zC])
   have hrw := HY1.out.ext (E2.out.alloc (.cells #[.bool b1f.n, .slice b1f.p b1f.l b1f.c, .bool b1f.m, .slice b1f.p2 b1f.l2 b1f.c2, .bool b1s.n, .slice b1s.p b1s.l b1s.c, .bool b1s.m, .slice b1s.p2 b1s.l2 b1s.c2] 26))
   have hro := HX1.out.ext (E2.out.alloc (.cells #[.bool b1f.n, .slice b1f.p b1f.l b1f.c, .bool b1f.m, .slice b1f.p2 b1f.l2 b1f.c2, .bool b1s.n, .slice b1s.p b1s.l b1s.c, .bool b1s.m, .slice b1s.p2 b1s.l2 b1s.c2] 26))
   have hdd := apart_flip HD1.out
   have hbl : BS ≤ (wn0.drew.alloc (.cells #[.bool b1f.n, .slice b1f.p b1f.l b1f.c, .bool b1f.m, .slice b1f.p2 b1f.l2 b1f.c2, .bool b1s.n, .slice b1s.p b1s.l b1s.c, .bool b1s.m, .slice b1s.p2 b1s.l2 b1s.c2] 26)).heap.size := Nat.le_trans HBL1.out (E2.out.alloc (.cells #[.bool b1f.n, .slice b1f.p b1f.l b1f.c, .bool b1f.m, .slice b1f.p2 b1f.l2 b1f.c2, .bool b1s.n, .slice b1s.p b1s.l b1s.c, .bool b1s.m, .slice b1s.p2 b1s.l2 b1s.c2] 26)).size
   have hEE : Ext w5 (wn0.drew.alloc (.cells #[.bool b1f.n, .slice b1f.p b1f.l b1f.c, .bool b1f.m, .slice b1f.p2 b1f.l2 b1f.c2, .bool b1s.n, .slice b1s.p b1s.l b1s.c, .bool b1s.m, .slice b1s.p2 b1s.l2 b1s.c2] 26)) := ((tr E1 E2).out.alloc (.cells #[.bool b1f.n, .slice b1f.p b1f.l b1f.c, .bool b1f.m, .slice b1f.p2 b1f.l2 b1f.c2, .bool b1s.n, .slice b1s.p b1s.l b1s.c, .bool b1s.m, .slice b1s.p2 b1s.l2 b1s.c2] 26))
   refine md_appendF (j := 10) (listed' := (bs 12 2047)) (by rfl) (by kernel_rfl) (by rfl) _ _ 64 (by rfl) BS 26 i0 _ 4 64 Tryz.underlying64 HI.out.1 HI.out.2.1 HI.out.2.2.1 HI.out.2.2.2 rfl (by decide) noUL_z _ 2 (rvCells [a1f, a1s]) (by rfl) hrw ⟨wn0.drew.heap.size, 0, none⟩ 2 2 [.bool b1f.n, .slice b1f.p b1f.l b1f.c, .bool b1f.m, .slice b1f.p2 b1f.l2 b1f.c2, .bool b1s.n, .slice b1s.p b1s.l b1s.c, .bool b1s.m, .slice b1s.p2 b1s.l2 b1s.c2] (by rfl) rfl (new_cells _ [.bool b1f.n, .slice b1f.p b1f.l b1f.c, .bool b1f.m, .slice b1f.p2 b1f.l2 b1f.c2, .bool b1s.n, .slice b1s.p b1s.l b1s.c, .bool b1s.m, .slice b1s.p2 b1s.l2 b1s.c2] _) (one_rvs [b1f, b1s]) (noUL_rv [b1f, b1s]) (by decide) (by unfold maxLen; omega) (by omega) hbl (by kernel_rfl) ?_
   intro gy cy wn1 hf k2 k3 k4
   have m1 : RowN wn1 BS 26 4 (.slice (some ⟨gy, 0, none⟩) 4 cy) 4 (rvCells [a1f, a1s, b1f, b1s]) := k2
   have m2 := hro.grown k3 (fun j hj hk => hdd j hk hj)
   have m3 := apart_step (n := 4) (c := cy) hdd hro.lt hf
   have m4 : Ext w5 wn1 := hEE.grown k3 (fun j hj => by have := hrw.block j hj; have := HBS.out; omega)
   have m5 : BS ≤ wn1.heap.size := Nat.le_trans hbl k3.size
   refine ⟨m4, ?_⟩
   (try simp only [Act.put, zA, zB, zC])
   clear hrw hro hdd hbl hEE hf k2 k3 k4
   refine mU 11 (bs 12 4095) (v := .slice (some ⟨gy, 0, none⟩) 4 cy) (w' := wn1) m4 ?_
   (try simp only [Act.put, zA, zB, zC])
   refine wpAnyH_done (by kernel_rfl) ?_ _
   have HX2 := zH m2
   have HY2 := zH m1
   have HD2 := zH m3
   have HE2 := zH m4
   have HBL2 := zH m5
   clear m1 m2 m3 m4 m5
   go_wp2_with fail
   go_roundg 2
   case measure => omega
   case rel => exact Or.inr (Or.inr (Or.inl ⟨rfl, by go_num, HX2.out, HY2.out, fun j hj hk => HD2.out j hk hj, HE2.out, HBL2.out⟩))
  ·have HX0 := zH h1
   have HY0 := zH h2
   have HD0 := zH h3
   have HBL0 := zH h5
   have h4' := h4
   clear h1 h2 h3 h4 h5
   have E1 := zH (show Ext w5 wr from h4')
   clear h4'
   go_upto_region 7 with fail
   refine wp_region_held_drew (S := fun x => Ext w5 x) (by kernel_rfl) E1.out.drew (fun _ => ?_)
   have E2 := zH (show Ext wr wr.drew from (Ext.refl _).drew)
   refine mV 0 (bs 12 1) (tr E1 E2).out ?_
   (try simp only [Act.put, zA, zB, zC])
   refine mV 1 (bs 12 3) (tr E1 E2).out ?_
   (try simp only [Act.put, zA, zB, zC])
   refine mV 2 (bs 12 7) (tr E1 E2).out ?_
   (try simp only [Act.put, zA, zB, zC])
   refine mV 3 (bs 12 15) (tr E1 E2).out ?_
   refine mR 4 (bs 12 31) X5 16 [.bool c0f.n, .slice c0f.p c0f.l c0f.c, .bool c0f.m, .slice c0f.p2 c0f.l2 c0f.c2] (fun x hx => ((HBV6.out).ext hx).part 16 4) Tryz.underlying26 (tr E1 E2).out ?_
   (try simp only [Act.put, zA, zB, zC])
   refine mV 5 (bs 12 63) (tr E1 E2).out ?_
   (try simp only [Act.put, zA, zB, zC])
   refine mV 6 (bs 12 127) (tr E1 E2).out ?_
   (try simp only [Act.put, zA, zB, zC])
   refine mV 7 (bs 12 255) (tr E1 E2).out ?_
   refine mR 8 (bs 12 511) Y5 16 [.bool c0s.n, .slice c0s.p c0s.l c0s.c, .bool c0s.m, .slice c0s.p2 c0s.l2 c0s.c2] (fun x hx => ((HBV7.out).ext hx).part 16 4) Tryz.underlying26 (tr E1 E2).out ?_
   (try simp only [Act.put, zA, zB, zC])
   refine mU 9 (bs 12 1023) (v := .slice (some ⟨wr.drew.heap.size, 0, none⟩) 2 2) (w' := (wr.drew.alloc (.cells #[.bool c0f.n, .slice c0f.p c0f.l c0f.c, .bool c0f.m, .slice c0f.p2 c0f.l2 c0f.c2, .bool c0s.n, .slice c0s.p c0s.l c0s.c, .bool c0s.m, .slice c0s.p2 c0s.l2 c0s.c2] 26))) ((tr E1 E2).out.alloc (.cells #[.bool c0f.n, .slice c0f.p c0f.l c0f.c, .bool c0f.m, .slice c0f.p2 c0f.l2 c0f.c2, .bool c0s.n, .slice c0s.p c0s.l c0s.c, .bool c0s.m, .slice c0s.p2 c0s.l2 c0s.c2] 26)) ?_
   (try simp only [Act.put, zA, zB, zC])
   have hrw := HX0.out.ext (E2.out.alloc (.cells #[.bool c0f.n, .slice c0f.p c0f.l c0f.c, .bool c0f.m, .slice c0f.p2 c0f.l2 c0f.c2, .bool c0s.n, .slice c0s.p c0s.l c0s.c, .bool c0s.m, .slice c0s.p2 c0s.l2 c0s.c2] 26))
   have hro := HY0.out.ext (E2.out.alloc (.cells #[.bool c0f.n, .slice c0f.p c0f.l c0f.c, .bool c0f.m, .slice c0f.p2 c0f.l2 c0f.c2, .bool c0s.n, .slice c0s.p c0s.l c0s.c, .bool c0s.m, .slice c0s.p2 c0s.l2 c0s.c2] 26))
   have hdd := HD0.out
   have hbl : BS ≤ (wr.drew.alloc (.cells #[.bool c0f.n, .slice c0f.p c0f.l c0f.c, .bool c0f.m, .slice c0f.p2 c0f.l2 c0f.c2, .bool c0s.n, .slice c0s.p c0s.l c0s.c, .bool c0s.m, .slice c0s.p2 c0s.l2 c0s.c2] 26)).heap.size := Nat.le_trans HBL0.out (E2.out.alloc (.cells #[.bool c0f.n, .slice c0f.p c0f.l c0f.c, .bool c0f.m, .slice c0f.p2 c0f.l2 c0f.c2, .bool c0s.n, .slice c0s.p c0s.l c0s.c, .bool c0s.m, .slice c0s.p2 c0s.l2 c0s.c2] 26)).size
   have hEE : Ext w5 (wr.drew.alloc (.cells #[.bool c0f.n, .slice c0f.p c0f.l c0f.c, .bool c0f.m, .slice c0f.p2 c0f.l2 c0f.c2, .bool c0s.n, .slice c0s.p c0s.l c0s.c, .bool c0s.m, .slice c0s.p2 c0s.l2 c0s.c2] 26)) := ((tr E1 E2).out.alloc (.cells #[.bool c0f.n, .slice c0f.p c0f.l c0f.c, .bool c0f.m, .slice c0f.p2 c0f.l2 c0f.c2, .bool c0s.n, .slice c0s.p c0s.l c0s.c, .bool c0s.m, .slice c0s.p2 c0s.l2 c0s.c2] 26))
   refine md_appendF (j := 10) (listed' := (bs 12 2047)) (by rfl) (by kernel_rfl) (by rfl) _ _ 64 (by rfl) BS 26 i0 _ 4 64 Tryz.underlying64 HI.out.1 HI.out.2.1 HI.out.2.2.1 HI.out.2.2.2 rfl (by decide) noUL_z _ 4 (rvCells [a0f, a0s, b0f, b0s]) (by rfl) hrw ⟨wr.drew.heap.size, 0, none⟩ 2 2 [.bool c0f.n, .slice c0f.p c0f.l c0f.c, .bool c0f.m, .slice c0f.p2 c0f.l2 c0f.c2, .bool c0s.n, .slice c0s.p c0s.l c0s.c, .bool c0s.m, .slice c0s.p2 c0s.l2 c0s.c2] (by rfl) rfl (new_cells _ [.bool c0f.n, .slice c0f.p c0f.l c0f.c, .bool c0f.m, .slice c0f.p2 c0f.l2 c0f.c2, .bool c0s.n, .slice c0s.p c0s.l c0s.c, .bool c0s.m, .slice c0s.p2 c0s.l2 c0s.c2] _) (one_rvs [c0f, c0s]) (noUL_rv [c0f, c0s]) (by decide) (by unfold maxLen; omega) (by omega) hbl (by kernel_rfl) ?_
   intro gx cx wn0 hf k2 k3 k4
   have m1 : RowN wn0 BS 26 4 (.slice (some ⟨gx, 0, none⟩) 6 cx) 6 (rvCells [a0f, a0s, b0f, b0s, c0f, c0s]) := k2
   have m2 := hro.grown k3 (fun j hj hk => hdd j hk hj)
   have m3 := apart_step (n := 6) (c := cx) hdd hro.lt hf
   have m4 : Ext w5 wn0 := hEE.grown k3 (fun j hj => by have := hrw.block j hj; have := HBS.out; omega)
   have m5 : BS ≤ wn0.heap.size := Nat.le_trans hbl k3.size
   refine ⟨m4, ?_⟩
   (try simp only [Act.put, zA, zB, zC])
   clear hrw hro hdd hbl hEE hf k2 k3 k4
   refine mU 11 (bs 12 4095) (v := .slice (some ⟨gx, 0, none⟩) 6 cx) (w' := wn0) m4 ?_
   (try simp only [Act.put, zA, zB, zC])
   refine wpAnyH_done (by kernel_rfl) ?_ _
   have HX1 := zH m1
   have HY1 := zH m2
   have HD1 := zH m3
   have HBL1 := zH m5
   clear m1 m2 m3 m5
   have m4' := m4
   clear m4
   have E1 := zH (show Ext w5 wn0 from m4')
   clear m4'
   go_upto_region 8 with fail
   refine wp_region_held_drew (S := fun x => Ext w5 x) (by kernel_rfl) E1.out.drew (fun _ => ?_)
   have E2 := zH (show Ext wn0 wn0.drew from (Ext.refl _).drew)
   refine mV 0 (bs 12 1) (tr E1 E2).out ?_
   (try simp only [Act.put, zA, zB, zC])
   refine mV 1 (bs 12 3) (tr E1 E2).out ?_
   (try simp only [Act.put, zA, zB, zC])
   refine mV 2 (bs 12 7) (tr E1 E2).out ?_
   (try simp only [Act.put, zA, zB, zC])
   refine mV 3 (bs 12 15) (tr E1 E2).out ?_
   refine mR 4 (bs 12 31) X5 20 [.bool c1f.n, .slice c1f.p c1f.l c1f.c, .bool c1f.m, .slice c1f.p2 c1f.l2 c1f.c2] (fun x hx => ((HBV6.out).ext hx).part 20 4) Tryz.underlying26 (tr E1 E2).out ?_
   (try simp only [Act.put, zA, zB, zC])
   refine mV 5 (bs 12 63) (tr E1 E2).out ?_
   (try simp only [Act.put, zA, zB, zC])
   refine mV 6 (bs 12 127) (tr E1 E2).out ?_
   (try simp only [Act.put, zA, zB, zC])
   refine mV 7 (bs 12 255) (tr E1 E2).out ?_
   refine mR 8 (bs 12 511) Y5 20 [.bool c1s.n, .slice c1s.p c1s.l c1s.c, .bool c1s.m, .slice c1s.p2 c1s.l2 c1s.c2] (fun x hx => ((HBV7.out).ext hx).part 20 4) Tryz.underlying26 (tr E1 E2).out ?_
   (try simp only [Act.put, zA, zB, zC])
   refine mU 9 (bs 12 1023) (v := .slice (some ⟨wn0.drew.heap.size, 0, none⟩) 2 2) (w' := (wn0.drew.alloc (.cells #[.bool c1f.n, .slice c1f.p c1f.l c1f.c, .bool c1f.m, .slice c1f.p2 c1f.l2 c1f.c2, .bool c1s.n, .slice c1s.p c1s.l c1s.c, .bool c1s.m, .slice c1s.p2 c1s.l2 c1s.c2] 26))) ((tr E1 E2).out.alloc (.cells #[.bool c1f.n, .slice c1f.p c1f.l c1f.c, .bool c1f.m, .slice c1f.p2 c1f.l2 c1f.c2, .bool c1s.n, .slice c1s.p c1s.l c1s.c, .bool c1s.m, .slice c1s.p2 c1s.l2 c1s.c2] 26)) ?_
   (try simp only [Act.put, zA, zB, zC])
   have hrw := HY1.out.ext (E2.out.alloc (.cells #[.bool c1f.n, .slice c1f.p c1f.l c1f.c, .bool c1f.m, .slice c1f.p2 c1f.l2 c1f.c2, .bool c1s.n, .slice c1s.p c1s.l c1s.c, .bool c1s.m, .slice c1s.p2 c1s.l2 c1s.c2] 26))
   have hro := HX1.out.ext (E2.out.alloc (.cells #[.bool c1f.n, .slice c1f.p c1f.l c1f.c, .bool c1f.m, .slice c1f.p2 c1f.l2 c1f.c2, .bool c1s.n, .slice c1s.p c1s.l c1s.c, .bool c1s.m, .slice c1s.p2 c1s.l2 c1s.c2] 26))
   have hdd := apart_flip HD1.out
   have hbl : BS ≤ (wn0.drew.alloc (.cells #[.bool c1f.n, .slice c1f.p c1f.l c1f.c, .bool c1f.m, .slice c1f.p2 c1f.l2 c1f.c2, .bool c1s.n, .slice c1s.p c1s.l c1s.c, .bool c1s.m, .slice c1s.p2 c1s.l2 c1s.c2] 26)).heap.size := Nat.le_trans HBL1.out (E2.out.alloc (.cells #[.bool c1f.n, .slice c1f.p c1f.l c1f.c, .bool c1f.m, .slice c1f.p2 c1f.l2 c1f.c2, .bool c1s.n, .slice c1s.p c1s.l c1s.c, .bool c1s.m, .slice c1s.p2 c1s.l2 c1s.c2] 26)).size
   have hEE : Ext w5 (wn0.drew.alloc (.cells #[.bool c1f.n, .slice c1f.p c1f.l c1f.c, .bool c1f.m, .slice c1f.p2 c1f.l2 c1f.c2, .bool c1s.n, .slice c1s.p c1s.l c1s.c, .bool c1s.m, .slice c1s.p2 c1s.l2 c1s.c2] 26)) := ((tr E1 E2).out.alloc (.cells #[.bool c1f.n, .slice c1f.p c1f.l c1f.c, .bool c1f.m, .slice c1f.p2 c1f.l2 c1f.c2, .bool c1s.n, .slice c1s.p c1s.l c1s.c, .bool c1s.m, .slice c1s.p2 c1s.l2 c1s.c2] 26))
   refine md_appendF (j := 10) (listed' := (bs 12 2047)) (by rfl) (by kernel_rfl) (by rfl) _ _ 64 (by rfl) BS 26 i0 _ 4 64 Tryz.underlying64 HI.out.1 HI.out.2.1 HI.out.2.2.1 HI.out.2.2.2 rfl (by decide) noUL_z _ 4 (rvCells [a1f, a1s, b1f, b1s]) (by rfl) hrw ⟨wn0.drew.heap.size, 0, none⟩ 2 2 [.bool c1f.n, .slice c1f.p c1f.l c1f.c, .bool c1f.m, .slice c1f.p2 c1f.l2 c1f.c2, .bool c1s.n, .slice c1s.p c1s.l c1s.c, .bool c1s.m, .slice c1s.p2 c1s.l2 c1s.c2] (by rfl) rfl (new_cells _ [.bool c1f.n, .slice c1f.p c1f.l c1f.c, .bool c1f.m, .slice c1f.p2 c1f.l2 c1f.c2, .bool c1s.n, .slice c1s.p c1s.l c1s.c, .bool c1s.m, .slice c1s.p2 c1s.l2 c1s.c2] _) (one_rvs [c1f, c1s]) (noUL_rv [c1f, c1s]) (by decide) (by unfold maxLen; omega) (by omega) hbl (by kernel_rfl) ?_
   intro gy cy wn1 hf k2 k3 k4
   have m1 : RowN wn1 BS 26 4 (.slice (some ⟨gy, 0, none⟩) 6 cy) 6 (rvCells [a1f, a1s, b1f, b1s, c1f, c1s]) := k2
   have m2 := hro.grown k3 (fun j hj hk => hdd j hk hj)
   have m3 := apart_step (n := 6) (c := cy) hdd hro.lt hf
   have m4 : Ext w5 wn1 := hEE.grown k3 (fun j hj => by have := hrw.block j hj; have := HBS.out; omega)
   have m5 : BS ≤ wn1.heap.size := Nat.le_trans hbl k3.size
   refine ⟨m4, ?_⟩
   (try simp only [Act.put, zA, zB, zC])
   clear hrw hro hdd hbl hEE hf k2 k3 k4
   refine mU 11 (bs 12 4095) (v := .slice (some ⟨gy, 0, none⟩) 6 cy) (w' := wn1) m4 ?_
   (try simp only [Act.put, zA, zB, zC])
   refine wpAnyH_done (by kernel_rfl) ?_ _
   have HX2 := zH m2
   have HY2 := zH m1
   have HD2 := zH m3
   have HE2 := zH m4
   have HBL2 := zH m5
   clear m1 m2 m3 m4 m5
   go_wp2_with fail
   go_roundg 1
   case measure => omega
   case rel => exact Or.inr (Or.inr (Or.inr (Or.inl ⟨rfl, by go_num, HX2.out, HY2.out, fun j hj hk => HD2.out j hk hj, HE2.out, HBL2.out⟩)))
  ·have HX0 := zH h1
   have HY0 := zH h2
   have HD0 := zH h3
   have HBL0 := zH h5
   have h4' := h4
   clear h1 h2 h3 h4 h5
   have E1 := zH (show Ext w5 wr from h4')
   clear h4'
   go_upto_region 7 with fail
   refine wp_region_held_drew (S := fun x => Ext w5 x) (by kernel_rfl) E1.out.drew (fun _ => ?_)
   have E2 := zH (show Ext wr wr.drew from (Ext.refl _).drew)
   refine mV 0 (bs 12 1) (tr E1 E2).out ?_
   (try simp only [Act.put, zA, zB, zC])
   refine mV 1 (bs 12 3) (tr E1 E2).out ?_
   (try simp only [Act.put, zA, zB, zC])
   refine mV 2 (bs 12 7) (tr E1 E2).out ?_
   (try simp only [Act.put, zA, zB, zC])
   refine mV 3 (bs 12 15) (tr E1 E2).out ?_
   refine mR 4 (bs 12 31) X5 24 [.bool d0f.n, .slice d0f.p d0f.l d0f.c, .bool d0f.m, .slice d0f.p2 d0f.l2 d0f.c2] (fun x hx => ((HBV6.out).ext hx).part 24 4) Tryz.underlying26 (tr E1 E2).out ?_
   (try simp only [Act.put, zA, zB, zC])
   refine mV 5 (bs 12 63) (tr E1 E2).out ?_
   (try simp only [Act.put, zA, zB, zC])
   refine mV 6 (bs 12 127) (tr E1 E2).out ?_
   (try simp only [Act.put, zA, zB, zC])
   refine mV 7 (bs 12 255) (tr E1 E2).out ?_
   refine mR 8 (bs 12 511) Y5 24 [.bool d0s.n, .slice d0s.p d0s.l d0s.c, .bool d0s.m, .slice d0s.p2 d0s.l2 d0s.c2] (fun x hx => ((HBV7.out).ext hx).part 24 4) Tryz.underlying26 (tr E1 E2).out ?_
   (try simp only [Act.put, zA, zB, zC])
   refine mU 9 (bs 12 1023) (v := .slice (some ⟨wr.drew.heap.size, 0, none⟩) 2 2) (w' := (wr.drew.alloc (.cells #[.bool d0f.n, .slice d0f.p d0f.l d0f.c, .bool d0f.m, .slice d0f.p2 d0f.l2 d0f.c2, .bool d0s.n, .slice d0s.p d0s.l d0s.c, .bool d0s.m, .slice d0s.p2 d0s.l2 d0s.c2] 26))) ((tr E1 E2).out.alloc (.cells #[.bool d0f.n, .slice d0f.p d0f.l d0f.c, .bool d0f.m, .slice d0f.p2 d0f.l2 d0f.c2, .bool d0s.n, .slice d0s.p d0s.l d0s.c, .bool d0s.m, .slice d0s.p2 d0s.l2 d0s.c2] 26)) ?_
   (try simp only [Act.put, zA, zB, zC])
   have hrw := HX0.out.ext (E2.out.alloc (.cells #[.bool d0f.n, .slice d0f.p d0f.l d0f.c, .bool d0f.m, .slice d0f.p2 d0f.l2 d0f.c2, .bool d0s.n, .slice d0s.p d0s.l d0s.c, .bool d0s.m, .slice d0s.p2 d0s.l2 d0s.c2] 26))
   have hro := HY0.out.ext (E2.out.alloc (.cells #[.bool d0f.n, .slice d0f.p d0f.l d0f.c, .bool d0f.m, .slice d0f.p2 d0f.l2 d0f.c2, .bool d0s.n, .slice d0s.p d0s.l d0s.c, .bool d0s.m, .slice d0s.p2 d0s.l2 d0s.c2] 26))
   have hdd := HD0.out
   have hbl : BS ≤ (wr.drew.alloc (.cells #[.bool d0f.n, .slice d0f.p d0f.l d0f.c, .bool d0f.m, .slice d0f.p2 d0f.l2 d0f.c2, .bool d0s.n, .slice d0s.p d0s.l d0s.c, .bool d0s.m, .slice d0s.p2 d0s.l2 d0s.c2] 26)).heap.size := Nat.le_trans HBL0.out (E2.out.alloc (.cells #[.bool d0f.n, .slice d0f.p d0f.l d0f.c, .bool d0f.m, .slice d0f.p2 d0f.l2 d0f.c2, .bool d0s.n, .slice d0s.p d0s.l d0s.c, .bool d0s.m, .slice d0s.p2 d0s.l2 d0s.c2] 26)).size
   have hEE : Ext w5 (wr.drew.alloc (.cells #[.bool d0f.n, .slice d0f.p d0f.l d0f.c, .bool d0f.m, .slice d0f.p2 d0f.l2 d0f.c2, .bool d0s.n, .slice d0s.p d0s.l d0s.c, .bool d0s.m, .slice d0s.p2 d0s.l2 d0s.c2] 26)) := ((tr E1 E2).out.alloc (.cells #[.bool d0f.n, .slice d0f.p d0f.l d0f.c, .bool d0f.m, .slice d0f.p2 d0f.l2 d0f.c2, .bool d0s.n, .slice d0s.p d0s.l d0s.c, .bool d0s.m, .slice d0s.p2 d0s.l2 d0s.c2] 26))
   refine md_appendF (j := 10) (listed' := (bs 12 2047)) (by rfl) (by kernel_rfl) (by rfl) _ _ 64 (by rfl) BS 26 i0 _ 4 64 Tryz.underlying64 HI.out.1 HI.out.2.1 HI.out.2.2.1 HI.out.2.2.2 rfl (by decide) noUL_z _ 6 (rvCells [a0f, a0s, b0f, b0s, c0f, c0s]) (by rfl) hrw ⟨wr.drew.heap.size, 0, none⟩ 2 2 [.bool d0f.n, .slice d0f.p d0f.l d0f.c, .bool d0f.m, .slice d0f.p2 d0f.l2 d0f.c2, .bool d0s.n, .slice d0s.p d0s.l d0s.c, .bool d0s.m, .slice d0s.p2 d0s.l2 d0s.c2] (by rfl) rfl (new_cells _ [.bool d0f.n, .slice d0f.p d0f.l d0f.c, .bool d0f.m, .slice d0f.p2 d0f.l2 d0f.c2, .bool d0s.n, .slice d0s.p d0s.l d0s.c, .bool d0s.m, .slice d0s.p2 d0s.l2 d0s.c2] _) (one_rvs [d0f, d0s]) (noUL_rv [d0f, d0s]) (by decide) (by unfold maxLen; omega) (by omega) hbl (by kernel_rfl) ?_
   intro gx cx wn0 hf k2 k3 k4
   have m1 : RowN wn0 BS 26 4 (.slice (some ⟨gx, 0, none⟩) 8 cx) 8 (rvCells [a0f, a0s, b0f, b0s, c0f, c0s, d0f, d0s]) := k2
   have m2 := hro.grown k3 (fun j hj hk => hdd j hk hj)
   have m3 := apart_step (n := 8) (c := cx) hdd hro.lt hf
   have m4 : Ext w5 wn0 := hEE.grown k3 (fun j hj => by have := hrw.block j hj; have := HBS.out; omega)
   have m5 : BS ≤ wn0.heap.size := Nat.le_trans hbl k3.size
   refine ⟨m4, ?_⟩
   (try simp only [Act.put, zA, zB, zC])
   clear hrw hro hdd hbl hEE hf k2 k3 k4
   refine mU 11 (bs 12 4095) (v := .slice (some ⟨gx, 0, none⟩) 8 cx) (w' := wn0) m4 ?_
   (try simp only [Act.put, zA, zB, zC])
   refine wpAnyH_done (by kernel_rfl) ?_ _
   have HX1 := zH m1
   have HY1 := zH m2
   have HD1 := zH m3
   have HBL1 := zH m5
   clear m1 m2 m3 m5
   have m4' := m4
   clear m4
   have E1 := zH (show Ext w5 wn0 from m4')
   clear m4'
   go_upto_region 8 with fail
   refine wp_region_held_drew (S := fun x => Ext w5 x) (by kernel_rfl) E1.out.drew (fun _ => ?_)
   have E2 := zH (show Ext wn0 wn0.drew from (Ext.refl _).drew)
   refine mV 0 (bs 12 1) (tr E1 E2).out ?_
   (try simp only [Act.put, zA, zB, zC])
   refine mV 1 (bs 12 3) (tr E1 E2).out ?_
   (try simp only [Act.put, zA, zB, zC])
   refine mV 2 (bs 12 7) (tr E1 E2).out ?_
   (try simp only [Act.put, zA, zB, zC])
   refine mV 3 (bs 12 15) (tr E1 E2).out ?_
   refine mR 4 (bs 12 31) X5 28 [.bool d1f.n, .slice d1f.p d1f.l d1f.c, .bool d1f.m, .slice d1f.p2 d1f.l2 d1f.c2] (fun x hx => ((HBV6.out).ext hx).part 28 4) Tryz.underlying26 (tr E1 E2).out ?_
   (try simp only [Act.put, zA, zB, zC])
   refine mV 5 (bs 12 63) (tr E1 E2).out ?_
   (try simp only [Act.put, zA, zB, zC])
   refine mV 6 (bs 12 127) (tr E1 E2).out ?_
   (try simp only [Act.put, zA, zB, zC])
   refine mV 7 (bs 12 255) (tr E1 E2).out ?_
   refine mR 8 (bs 12 511) Y5 28 [.bool d1s.n, .slice d1s.p d1s.l d1s.c, .bool d1s.m, .slice d1s.p2 d1s.l2 d1s.c2] (fun x hx => ((HBV7.out).ext hx).part 28 4) Tryz.underlying26 (tr E1 E2).out ?_
   (try simp only [Act.put, zA, zB, zC])
   refine mU 9 (bs 12 1023) (v := .slice (some ⟨wn0.drew.heap.size, 0, none⟩) 2 2) (w' := (wn0.drew.alloc (.cells #[.bool d1f.n, .slice d1f.p d1f.l d1f.c, .bool d1f.m, .slice d1f.p2 d1f.l2 d1f.c2, .bool d1s.n, .slice d1s.p d1s.l d1s.c, .bool d1s.m, .slice d1s.p2 d1s.l2 d1s.c2] 26))) ((tr E1 E2).out.alloc (.cells #[.bool d1f.n, .slice d1f.p d1f.l d1f.c, .bool d1f.m, .slice d1f.p2 d1f.l2 d1f.c2, .bool d1s.n, .slice d1s.p d1s.l d1s.c, .bool d1s.m, .slice d1s.p2 d1s.l2 d1s.c2] 26)) ?_
   (try simp only [Act.put, zA, zB, zC])
   have hrw := HY1.out.ext (E2.out.alloc (.cells #[.bool d1f.n, .slice d1f.p d1f.l d1f.c, .bool d1f.m, .slice d1f.p2 d1f.l2 d1f.c2, .bool d1s.n, .slice d1s.p d1s.l d1s.c, .bool d1s.m, .slice d1s.p2 d1s.l2 d1s.c2] 26))
   have hro := HX1.out.ext (E2.out.alloc (.cells #[.bool d1f.n, .slice d1f.p d1f.l d1f.c, .bool d1f.m, .slice d1f.p2 d1f.l2 d1f.c2, .bool d1s.n, .slice d1s.p d1s.l d1s.c, .bool d1s.m, .slice d1s.p2 d1s.l2 d1s.c2] 26))
   have hdd := apart_flip HD1.out
   have hbl : BS ≤ (wn0.drew.alloc (.cells #[.bool d1f.n, .slice d1f.p d1f.l d1f.c, .bool d1f.m, .slice d1f.p2 d1f.l2 d1f.c2, .bool d1s.n, .slice d1s.p d1s.l d1s.c, .bool d1s.m, .slice d1s.p2 d1s.l2 d1s.c2] 26)).heap.size := Nat.le_trans HBL1.out (E2.out.alloc (.cells #[.bool d1f.n, .slice d1f.p d1f.l d1f.c, .bool d1f.m, .slice d1f.p2 d1f.l2 d1f.c2, .bool d1s.n, .slice d1s.p d1s.l d1s.c, .bool d1s.m, .slice d1s.p2 d1s.l2 d1s.c2] 26)).size
   have hEE : Ext w5 (wn0.drew.alloc (.cells #[.bool d1f.n, .slice d1f.p d1f.l d1f.c, .bool d1f.m, .slice d1f.p2 d1f.l2 d1f.c2, .bool d1s.n, .slice d1s.p d1s.l d1s.c, .bool d1s.m, .slice d1s.p2 d1s.l2 d1s.c2] 26)) := ((tr E1 E2).out.alloc (.cells #[.bool d1f.n, .slice d1f.p d1f.l d1f.c, .bool d1f.m, .slice d1f.p2 d1f.l2 d1f.c2, .bool d1s.n, .slice d1s.p d1s.l d1s.c, .bool d1s.m, .slice d1s.p2 d1s.l2 d1s.c2] 26))
   refine md_appendF (j := 10) (listed' := (bs 12 2047)) (by rfl) (by kernel_rfl) (by rfl) _ _ 64 (by rfl) BS 26 i0 _ 4 64 Tryz.underlying64 HI.out.1 HI.out.2.1 HI.out.2.2.1 HI.out.2.2.2 rfl (by decide) noUL_z _ 6 (rvCells [a1f, a1s, b1f, b1s, c1f, c1s]) (by rfl) hrw ⟨wn0.drew.heap.size, 0, none⟩ 2 2 [.bool d1f.n, .slice d1f.p d1f.l d1f.c, .bool d1f.m, .slice d1f.p2 d1f.l2 d1f.c2, .bool d1s.n, .slice d1s.p d1s.l d1s.c, .bool d1s.m, .slice d1s.p2 d1s.l2 d1s.c2] (by rfl) rfl (new_cells _ [.bool d1f.n, .slice d1f.p d1f.l d1f.c, .bool d1f.m, .slice d1f.p2 d1f.l2 d1f.c2, .bool d1s.n, .slice d1s.p d1s.l d1s.c, .bool d1s.m, .slice d1s.p2 d1s.l2 d1s.c2] _) (one_rvs [d1f, d1s]) (noUL_rv [d1f, d1s]) (by decide) (by unfold maxLen; omega) (by omega) hbl (by kernel_rfl) ?_
   intro gy cy wn1 hf k2 k3 k4
   have m1 : RowN wn1 BS 26 4 (.slice (some ⟨gy, 0, none⟩) 8 cy) 8 (rvCells [a1f, a1s, b1f, b1s, c1f, c1s, d1f, d1s]) := k2
   have m2 := hro.grown k3 (fun j hj hk => hdd j hk hj)
   have m3 := apart_step (n := 8) (c := cy) hdd hro.lt hf
   have m4 : Ext w5 wn1 := hEE.grown k3 (fun j hj => by have := hrw.block j hj; have := HBS.out; omega)
   have m5 : BS ≤ wn1.heap.size := Nat.le_trans hbl k3.size
   refine ⟨m4, ?_⟩
   (try simp only [Act.put, zA, zB, zC])
   clear hrw hro hdd hbl hEE hf k2 k3 k4
   refine mU 11 (bs 12 4095) (v := .slice (some ⟨gy, 0, none⟩) 8 cy) (w' := wn1) m4 ?_
   (try simp only [Act.put, zA, zB, zC])
   refine wpAnyH_done (by kernel_rfl) ?_ _
   have HX2 := zH m2
   have HY2 := zH m1
   have HD2 := zH m3
   have HE2 := zH m4
   have HBL2 := zH m5
   clear m1 m2 m3 m4 m5
   go_wp2_with fail
   go_roundg 0
   case measure => omega
   case rel => exact Or.inr (Or.inr (Or.inr (Or.inr (⟨rfl, by go_num, HX2.out, HY2.out, fun j hj hk => HD2.out j hk hj, HE2.out, HBL2.out⟩))))
  ·have hEE := HEX.out.trans h4
   have r0 := RatsV.of_row (L := 426) (qs := cubXs A0 B0 C0 D0) (rs := [a0f, a0s, b0f, b0s, c0f, c0s, d0f, d0s]) h1 rfl (in8 ((Ja0f.out.ext h4).isIn (rl_cubXs hrP.1 hrP.2.2.1 hrP.2.2.2.2.1 hrP.2.2.2.2.2.2.1 _ (by simp [cubXs]))) ((Ja0s.out.ext h4).isIn (rl_cubXs hrP.1 hrP.2.2.1 hrP.2.2.2.2.1 hrP.2.2.2.2.2.2.1 _ (by simp [cubXs]))) ((Jb0f.out.ext h4).isIn (rl_cubXs hrP.1 hrP.2.2.1 hrP.2.2.2.2.1 hrP.2.2.2.2.2.2.1 _ (by simp [cubXs]))) ((Jb0s.out.ext h4).isIn (rl_cubXs hrP.1 hrP.2.2.1 hrP.2.2.2.2.1 hrP.2.2.2.2.2.2.1 _ (by simp [cubXs]))) ((Jc0f.out.ext h4).isIn (rl_cubXs hrP.1 hrP.2.2.1 hrP.2.2.2.2.1 hrP.2.2.2.2.2.2.1 _ (by simp [cubXs]))) ((Jc0s.out.ext h4).isIn (rl_cubXs hrP.1 hrP.2.2.1 hrP.2.2.2.2.1 hrP.2.2.2.2.2.2.1 _ (by simp [cubXs]))) ((Jd0f.out.ext h4).isIn (rl_cubXs hrP.1 hrP.2.2.1 hrP.2.2.2.2.1 hrP.2.2.2.2.2.2.1 _ (by simp [cubXs]))) ((Jd0s.out.ext h4).isIn (rl_cubXs hrP.1 hrP.2.2.1 hrP.2.2.2.2.1 hrP.2.2.2.2.2.2.1 _ (by simp [cubXs]))))
   have r1 := RatsV.of_row (L := 426) (qs := cubXs A1 B1 C1 D1) (rs := [a1f, a1s, b1f, b1s, c1f, c1s, d1f, d1s]) h2 rfl (in8 ((Ja1f.out.ext h4).isIn (rl_cubXs hrP.2.1 hrP.2.2.2.1 hrP.2.2.2.2.2.1 hrP.2.2.2.2.2.2.2 _ (by simp [cubXs]))) ((Ja1s.out.ext h4).isIn (rl_cubXs hrP.2.1 hrP.2.2.2.1 hrP.2.2.2.2.2.1 hrP.2.2.2.2.2.2.2 _ (by simp [cubXs]))) ((Jb1f.out.ext h4).isIn (rl_cubXs hrP.2.1 hrP.2.2.2.1 hrP.2.2.2.2.2.1 hrP.2.2.2.2.2.2.2 _ (by simp [cubXs]))) ((Jb1s.out.ext h4).isIn (rl_cubXs hrP.2.1 hrP.2.2.2.1 hrP.2.2.2.2.2.1 hrP.2.2.2.2.2.2.2 _ (by simp [cubXs]))) ((Jc1f.out.ext h4).isIn (rl_cubXs hrP.2.1 hrP.2.2.2.1 hrP.2.2.2.2.2.1 hrP.2.2.2.2.2.2.2 _ (by simp [cubXs]))) ((Jc1s.out.ext h4).isIn (rl_cubXs hrP.2.1 hrP.2.2.2.1 hrP.2.2.2.2.2.1 hrP.2.2.2.2.2.2.2 _ (by simp [cubXs]))) ((Jd1f.out.ext h4).isIn (rl_cubXs hrP.2.1 hrP.2.2.2.1 hrP.2.2.2.2.2.1 hrP.2.2.2.2.2.2.2 _ (by simp [cubXs]))) ((Jd1s.out.ext h4).isIn (rl_cubXs hrP.2.1 hrP.2.2.2.1 hrP.2.2.2.2.2.1 hrP.2.2.2.2.2.2.2 _ (by simp [cubXs]))))
   have kR0 := HBR0.out.ext h4
   have kR1 := HBR1.out.ext h4
   clear h1 h2 h3 h4 h5
   have E1 : Hid (Ext w wr) := hEE
   clear hEE
   have FR0 := zH kR0
   have FR1 := zH kR1
   have Fr0 := zH r0
   have Fr1 := zH r1
   clear kR0 kR1 r0 r1
   go_upto_region 9 with fail
   refine wp_region_lit ?_
   refine pV (w' := wr) ?_
   (try simp only [Act.put, zA, zB, zC])
   refine mv_call (by rfl) (by go_simp) (xextr Fr0.out ⟨by simp [cubXs], by simp [cubXs]⟩ (by omega) (by omega) rfl rfl) ?_
   rintro e w2 ⟨l0, u0, rfl, h_l0, h_u0, hx⟩
   have E2 : Hid (Ext wr w2) := hx
   have Fl0 := zH h_l0
   have Fu0 := zH h_u0
   clear h_l0 h_u0
   clear hx
   refine ⟨_, rfl, ?_⟩
   (try simp only [Act.put, zA, zB, zC])
   refine pV (w' := w2) ?_
   (try simp only [Act.put, zA, zB, zC])
   refine pV (w' := w2) ?_
   (try simp only [Act.put, zA, zB, zC])
   refine pV (w' := w2) ?_
   (try simp only [Act.put, zA, zB, zC])
   obtain ⟨xq1, xq2, xq3, xq4, xq5⟩ := new_var2 w2 26 z4 #[.bool l0.n, .slice l0.p l0.l l0.c, .bool l0.m, .slice l0.p2 l0.l2 l0.c2] #[.bool u0.n, .slice u0.p u0.l u0.c, .bool u0.m, .slice u0.p2 u0.l2 u0.c2] rfl rfl
   refine mv_val (v := .pointer (some ⟨w2.heap.size, 0, none⟩)) (w' := w2.alloc (.cells z4 26)) (by rfl) (by go_simp) ?_
   (try simp only [Act.put, zA, zB, zC])
   refine mv_val (v := .pointer (some ⟨(w2.alloc (.cells z4 26)).heap.size, 0, none⟩)) (w' := (w2.alloc (.cells z4 26)).alloc (.cells z4 26)) (by rfl) (by go_simp) ?_
   (try simp only [Act.put, zA, zB, zC])
   refine pO #[.bool l0.n, .slice l0.p l0.l l0.c, .bool l0.m, .slice l0.p2 l0.l2 l0.c2] xq1 rfl (by rw [show (#[.bool l0.n, .slice l0.p l0.l l0.c, .bool l0.m, .slice l0.p2 l0.l2 l0.c2] : Array Value).size = 4 from rfl]; kernel_rfl) (all_oneCell_toArray (by simp [Value.oneCell'])) ?_
   (try simp only [Act.put])
   refine pO #[.bool u0.n, .slice u0.p u0.l u0.c, .bool u0.m, .slice u0.p2 u0.l2 u0.c2] xq2 rfl (by rw [show (#[.bool u0.n, .slice u0.p u0.l u0.c, .bool u0.m, .slice u0.p2 u0.l2 u0.c2] : Array Value).size = 4 from rfl]; kernel_rfl) (all_oneCell_toArray (by simp [Value.oneCell'])) ?_
   (try simp only [Act.put])
   clear xq1 xq2
   have nV11_R0 : w2.heap.size ≠ R0 := Nat.ne_of_gt (Blk.lt (FR0.out.ext E2.out))
   have nV11_R1 : w2.heap.size ≠ R1 := Nat.ne_of_gt (Blk.lt (FR1.out.ext E2.out))
   have nV12_R0 : (w2.alloc (.cells z4 26)).heap.size ≠ R0 := Nat.ne_of_gt (Nat.lt_trans (Blk.lt (FR0.out.ext E2.out)) (by simp))
   have nV12_R1 : (w2.alloc (.cells z4 26)).heap.size ≠ R1 := Nat.ne_of_gt (Nat.lt_trans (Blk.lt (FR1.out.ext E2.out)) (by simp))
   generalize (((w2.alloc (.cells z4 26)).alloc (.cells z4 26)).setCells w2.heap.size 0 (#[.bool l0.n, .slice l0.p l0.l l0.c, .bool l0.m, .slice l0.p2 l0.l2 l0.c2] : Array Value).toList).setCells (w2.alloc (.cells z4 26)).heap.size 0 (#[.bool u0.n, .slice u0.p u0.l u0.c, .bool u0.m, .slice u0.p2 u0.l2 u0.c2] : Array Value).toList = w3 at *
   generalize (w2.alloc (.cells z4 26)).heap.size = Y3 at *
   generalize w2.heap.size = X3 at *
   have E3 : Hid (Ext w2 w3) := xq3
   have FV11 := zH xq4
   have FV12 := zH xq5
   clear xq3 xq4 xq5
   go_upto_region 10 with fail
   refine wp_region_lit ?_
   refine pV (w' := w3) ?_
   (try simp only [Act.put, zA, zB, zC])
   refine mv_call (by rfl) (by go_simp) (xextr (Fr1.out.ext (tr E2 E3).out) ⟨by simp [cubXs], by simp [cubXs]⟩ (by omega) (by omega) rfl rfl) ?_
   rintro e w4 ⟨l1, u1, rfl, h_l1, h_u1, hx⟩
   have E4 : Hid (Ext w3 w4) := hx
   have Fl1 := zH h_l1
   have Fu1 := zH h_u1
   clear h_l1 h_u1
   clear hx
   refine ⟨_, rfl, ?_⟩
   (try simp only [Act.put, zA, zB, zC])
   refine pV (w' := w4) ?_
   (try simp only [Act.put, zA, zB, zC])
   refine pV (w' := w4) ?_
   (try simp only [Act.put, zA, zB, zC])
   refine pV (w' := w4) ?_
   (try simp only [Act.put, zA, zB, zC])
   obtain ⟨xq1, xq2, xq3, xq4, xq5⟩ := new_var2 w4 26 z4 #[.bool l1.n, .slice l1.p l1.l l1.c, .bool l1.m, .slice l1.p2 l1.l2 l1.c2] #[.bool u1.n, .slice u1.p u1.l u1.c, .bool u1.m, .slice u1.p2 u1.l2 u1.c2] rfl rfl
   refine mv_val (v := .pointer (some ⟨w4.heap.size, 0, none⟩)) (w' := w4.alloc (.cells z4 26)) (by rfl) (by go_simp) ?_
   (try simp only [Act.put, zA, zB, zC])
   refine mv_val (v := .pointer (some ⟨(w4.alloc (.cells z4 26)).heap.size, 0, none⟩)) (w' := (w4.alloc (.cells z4 26)).alloc (.cells z4 26)) (by rfl) (by go_simp) ?_
   (try simp only [Act.put, zA, zB, zC])
   refine pO #[.bool l1.n, .slice l1.p l1.l l1.c, .bool l1.m, .slice l1.p2 l1.l2 l1.c2] xq1 rfl (by rw [show (#[.bool l1.n, .slice l1.p l1.l l1.c, .bool l1.m, .slice l1.p2 l1.l2 l1.c2] : Array Value).size = 4 from rfl]; kernel_rfl) (all_oneCell_toArray (by simp [Value.oneCell'])) ?_
   (try simp only [Act.put])
   refine pO #[.bool u1.n, .slice u1.p u1.l u1.c, .bool u1.m, .slice u1.p2 u1.l2 u1.c2] xq2 rfl (by rw [show (#[.bool u1.n, .slice u1.p u1.l u1.c, .bool u1.m, .slice u1.p2 u1.l2 u1.c2] : Array Value).size = 4 from rfl]; kernel_rfl) (all_oneCell_toArray (by simp [Value.oneCell'])) ?_
   (try simp only [Act.put])
   clear xq1 xq2
   have nV13_R0 : w4.heap.size ≠ R0 := Nat.ne_of_gt (Blk.lt (FR0.out.ext (tr E2 (tr E3 E4)).out))
   have nV13_R1 : w4.heap.size ≠ R1 := Nat.ne_of_gt (Blk.lt (FR1.out.ext (tr E2 (tr E3 E4)).out))
   have nV14_R0 : (w4.alloc (.cells z4 26)).heap.size ≠ R0 := Nat.ne_of_gt (Nat.lt_trans (Blk.lt (FR0.out.ext (tr E2 (tr E3 E4)).out)) (by simp))
   have nV14_R1 : (w4.alloc (.cells z4 26)).heap.size ≠ R1 := Nat.ne_of_gt (Nat.lt_trans (Blk.lt (FR1.out.ext (tr E2 (tr E3 E4)).out)) (by simp))
   generalize (((w4.alloc (.cells z4 26)).alloc (.cells z4 26)).setCells w4.heap.size 0 (#[.bool l1.n, .slice l1.p l1.l l1.c, .bool l1.m, .slice l1.p2 l1.l2 l1.c2] : Array Value).toList).setCells (w4.alloc (.cells z4 26)).heap.size 0 (#[.bool u1.n, .slice u1.p u1.l u1.c, .bool u1.m, .slice u1.p2 u1.l2 u1.c2] : Array Value).toList = w5 at *
   generalize (w4.alloc (.cells z4 26)).heap.size = Y5 at *
   generalize w4.heap.size = X5 at *
   have E5 : Hid (Ext w4 w5) := xq3
   have FV13 := zH xq4
   have FV14 := zH xq5
   clear xq3 xq4 xq5
   go_upto_region 11 with fail
   refine wp_region_held_drew (S := fun x => Own2 R0 R1 w5 x) (by kernel_rfl) (Own2.of_ext (Ext.refl _).drew) (fun _ => ?_)
   have E6 := zH (show Ext w5 w5.drew from (Ext.refl _).drew)
   refine mR 0 (bs 8 1) X3 0 [.bool l0.n, .slice l0.p l0.l l0.c, .bool l0.m, .slice l0.p2 l0.l2 l0.c2] (fun x hx => (((FV11.out.ext (tr E4 E5).out)).own2 hx nV11_R0 nV11_R1).part 0 4) Tryz.underlying26 (Own2.of_ext E6.out) ?_
   refine mR 1 (bs 8 3) X5 0 [.bool l1.n, .slice l1.p l1.l l1.c, .bool l1.m, .slice l1.p2 l1.l2 l1.c2] (fun x hx => ((FV13.out).own2 hx nV13_R0 nV13_R1).part 0 4) Tryz.underlying26 (Own2.of_ext E6.out) ?_
   (try simp only [Act.put, zA, zB, zC])
   refine mV 2 (bs 8 7) (Own2.of_ext E6.out) ?_
   refine mR 3 (bs 8 15) Y3 0 [.bool u0.n, .slice u0.p u0.l u0.c, .bool u0.m, .slice u0.p2 u0.l2 u0.c2] (fun x hx => (((FV12.out.ext (tr E4 E5).out)).own2 hx nV12_R0 nV12_R1).part 0 4) Tryz.underlying26 (Own2.of_ext E6.out) ?_
   refine mR 4 (bs 8 31) Y5 0 [.bool u1.n, .slice u1.p u1.l u1.c, .bool u1.m, .slice u1.p2 u1.l2 u1.c2] (fun x hx => ((FV14.out).own2 hx nV14_R0 nV14_R1).part 0 4) Tryz.underlying26 (Own2.of_ext E6.out) ?_
   (try simp only [Act.put, zA, zB, zC])
   refine mV 5 (bs 8 63) (Own2.of_ext E6.out) ?_
   (try simp only [Act.put, zA, zB, zC])
   have o1 := Own.setCells w5.drew R0 #[.bool l0.n, .slice l0.p l0.l l0.c, .bool l0.m, .slice l0.p2 l0.l2 l0.c2, .bool l1.n, .slice l1.p l1.l l1.c, .bool l1.m, .slice l1.p2 l1.l2 l1.c2]
   have kb1 := (FR0.out.ext (tr E2 (tr E3 (tr E4 (tr E5 E6)))).out)
   have hs1 : Own2 R0 R1 w5 (w5.drew.setCells R0 0 (#[.bool l0.n, .slice l0.p l0.l l0.c, .bool l0.m, .slice l0.p2 l0.l2 l0.c2, .bool l1.n, .slice l1.p l1.l l1.c, .bool l1.m, .slice l1.p2 l1.l2 l1.c2] : Array Value).toList) := (Own2.one (Own.then_ext' E6.out o1))
   refine mO 6 (bs 8 127) #[.bool l0.n, .slice l0.p l0.l l0.c, .bool l0.m, .slice l0.p2 l0.l2 l0.c2, .bool l1.n, .slice l1.p l1.l l1.c, .bool l1.m, .slice l1.p2 l1.l2 l1.c2] kb1 (by rw [show (#[.bool l0.n, .slice l0.p l0.l l0.c, .bool l0.m, .slice l0.p2 l0.l2 l0.c2, .bool l1.n, .slice l1.p l1.l l1.c, .bool l1.m, .slice l1.p2 l1.l2 l1.c2] : Array Value).size = 8 from rfl]; rfl) (by rw [show (#[.bool l0.n, .slice l0.p l0.l l0.c, .bool l0.m, .slice l0.p2 l0.l2 l0.c2, .bool l1.n, .slice l1.p l1.l l1.c, .bool l1.m, .slice l1.p2 l1.l2 l1.c2] : Array Value).size = 8 from rfl]; kernel_rfl) (all_oneCell_toArray (by simp [Value.oneCell'])) hs1 ?_
   (try simp only [Act.put])
   have kc1 := kb1.setCells #[.bool l0.n, .slice l0.p l0.l l0.c, .bool l0.m, .slice l0.p2 l0.l2 l0.c2, .bool l1.n, .slice l1.p l1.l l1.c, .bool l1.m, .slice l1.p2 l1.l2 l1.c2] (by rw [show (#[.bool l0.n, .slice l0.p l0.l l0.c, .bool l0.m, .slice l0.p2 l0.l2 l0.c2, .bool l1.n, .slice l1.p l1.l l1.c, .bool l1.m, .slice l1.p2 l1.l2 l1.c2] : Array Value).size = 8 from rfl]; rfl)
   have o2 := Own.setCells (w5.drew.setCells R0 0 (#[.bool l0.n, .slice l0.p l0.l l0.c, .bool l0.m, .slice l0.p2 l0.l2 l0.c2, .bool l1.n, .slice l1.p l1.l l1.c, .bool l1.m, .slice l1.p2 l1.l2 l1.c2] : Array Value).toList) R1 #[.bool u0.n, .slice u0.p u0.l u0.c, .bool u0.m, .slice u0.p2 u0.l2 u0.c2, .bool u1.n, .slice u1.p u1.l u1.c, .bool u1.m, .slice u1.p2 u1.l2 u1.c2]
   have kb2 := ((FR1.out.ext (tr E2 (tr E3 (tr E4 (tr E5 E6)))).out)).own o1 nR1_R0
   have hs2 : Own2 R0 R1 w5 ((w5.drew.setCells R0 0 (#[.bool l0.n, .slice l0.p l0.l l0.c, .bool l0.m, .slice l0.p2 l0.l2 l0.c2, .bool l1.n, .slice l1.p l1.l l1.c, .bool l1.m, .slice l1.p2 l1.l2 l1.c2] : Array Value).toList).setCells R1 0 (#[.bool u0.n, .slice u0.p u0.l u0.c, .bool u0.m, .slice u0.p2 u0.l2 u0.c2, .bool u1.n, .slice u1.p u1.l u1.c, .bool u1.m, .slice u1.p2 u1.l2 u1.c2] : Array Value).toList) := ⟨_, Own.then_ext' E6.out o1, o2⟩
   refine mO 7 (bs 8 255) #[.bool u0.n, .slice u0.p u0.l u0.c, .bool u0.m, .slice u0.p2 u0.l2 u0.c2, .bool u1.n, .slice u1.p u1.l u1.c, .bool u1.m, .slice u1.p2 u1.l2 u1.c2] kb2 (by rw [show (#[.bool u0.n, .slice u0.p u0.l u0.c, .bool u0.m, .slice u0.p2 u0.l2 u0.c2, .bool u1.n, .slice u1.p u1.l u1.c, .bool u1.m, .slice u1.p2 u1.l2 u1.c2] : Array Value).size = 8 from rfl]; rfl) (by rw [show (#[.bool u0.n, .slice u0.p u0.l u0.c, .bool u0.m, .slice u0.p2 u0.l2 u0.c2, .bool u1.n, .slice u1.p u1.l u1.c, .bool u1.m, .slice u1.p2 u1.l2 u1.c2] : Array Value).size = 8 from rfl]; kernel_rfl) (all_oneCell_toArray (by simp [Value.oneCell'])) hs2 ?_
   (try simp only [Act.put])
   have kc2 := kb2.setCells #[.bool u0.n, .slice u0.p u0.l u0.c, .bool u0.m, .slice u0.p2 u0.l2 u0.c2, .bool u1.n, .slice u1.p u1.l u1.c, .bool u1.m, .slice u1.p2 u1.l2 u1.c2] (by rw [show (#[.bool u0.n, .slice u0.p u0.l u0.c, .bool u0.m, .slice u0.p2 u0.l2 u0.c2, .bool u1.n, .slice u1.p u1.l u1.c, .bool u1.m, .slice u1.p2 u1.l2 u1.c2] : Array Value).size = 8 from rfl]; rfl)
   refine wpAnyH_done (by kernel_rfl) ?_ _
   go_wp2_with fail
   have kd1 := kc1.own o2 nR0_R1
   refine bodyPost_ret (v := .tuple #[.agg #[.bool l0.n, .slice l0.p l0.l l0.c, .bool l0.m, .slice l0.p2 l0.l2 l0.c2, .bool l1.n, .slice l1.p l1.l l1.c, .bool l1.m, .slice l1.p2 l1.l2 l1.c2], .agg #[.bool u0.n, .slice u0.p u0.l u0.c, .bool u0.m, .slice u0.p2 u0.l2 u0.c2, .bool u1.n, .slice u1.p u1.l u1.c, .bool u1.m, .slice u1.p2 u1.l2 u1.c2]]) ?_ rfl ⟨_, _, rfl, ⟨l0, l1, rfl, (((Fl0.out.ext (tr E3 (tr E4 (tr E5 E6))).out).own kb1 (noU_of _ (by simp)) o1).own kb2 (noU_of _ (by simp)) o2), (((Fl1.out.ext (tr E5 E6).out).own kb1 (noU_of _ (by simp)) o1).own kb2 (noU_of _ (by simp)) o2)⟩, ⟨u0, u1, rfl, (((Fu0.out.ext (tr E3 (tr E4 (tr E5 E6))).out).own kb1 (noU_of _ (by simp)) o1).own kb2 (noU_of _ (by simp)) o2), (((Fu1.out.ext (tr E5 E6).out).own kb1 (noU_of _ (by simp)) o1).own kb2 (noU_of _ (by simp)) o2)⟩, (o2.ext (o1.ext (tr E1 (tr E2 (tr E3 (tr E4 (tr E5 E6))))).out gR0) gR1)⟩
   exact results_cell2 rfl rfl rfl (kd1.loadVar rfl rfl rfl) (kc2.loadVar rfl rfl rfl)

end Go.Proofs.YtllpkoinjompcaaGreat

namespace Go.Proofs.YtllpkoinjompcaaGreat
open Go.RowKit
attribute [local go_sem ↓] Go.wp_at_zero Go.wp_at_succ run_eql_point run_neq_point

def clampI (n lo hi : Int) : Int := if n < lo then lo else if hi < n then hi else n

theorem clamp_any (n lo hi : Int) (w : World) :
    Calls Tryz.prog 124 #[.int .i64 n, .int .i64 lo, .int .i64 hi] w fun e w' => e = .returned (.int .i64 (clampI n lo hi)) ∧ w = w' := by
  go_enter Tryz.func124, Tryz.ntmps124
  go_wp2_with fail
  all_goals go_ret
  all_goals refine ⟨ret_int ?_, rfl⟩
  all_goals unfold clampI
  · rw [if_pos ‹_›]
  · rw [if_neg (by omega), if_pos ‹_›]
  · rw [if_neg (by omega), if_neg (by omega)]

theorem held_any (n : Int) (w : World) :
    Calls Tryz.prog 117 #[.int .i64 n] w fun e w' => e = .returned (.int .i64 (clampI n (-1048576) 1048576)) ∧ w = w' := by
  go_enter Tryz.func117, Tryz.ntmps117
  go_wp2_with (go_at_call 124; refine (clamp_any _ _ _ _).mono ?_; rintro e w' ⟨rfl, rfl⟩)
  go_ret
  exact ⟨rfl, rfl⟩

theorem hold_any (x y : Int) (w : World) :
    Calls Tryz.prog 100 #[.agg #[.int .i64 x, .int .i64 y]] w fun e w' => e = .returned (.agg #[.int .i64 (clampI x (-1048576) 1048576), .int .i64 (clampI y (-1048576) 1048576)]) ∧ Ext w w' := by
  go_enter Tryz.func100, Tryz.ntmps100
  go_wp2_with fail
  go_region_held3 (fun w' => w'.cell? ⟨w.heap.size, 0, none⟩ = some (.int .i64 x) ∧ w'.cell? ⟨w.heap.size, 1, none⟩ = some (.int .i64 y)) (go_keep)
    (first | (go_at_call 117; refine (held_any _ _).mono ?_; rintro e w' ⟨rfl, rfl⟩))
  go_wp2_with fail
  refine bodyPost_ret (v := .agg #[.int .i64 (clampI x (-1048576) 1048576), .int .i64 (clampI y (-1048576) 1048576)]) (by simp [results, Tryz.results100, go_sem]) rfl ⟨rfl, ?_⟩
  exact ((((Ext.refl _).alloc _).alloc _).drew)

theorem eq_clamp (x : Int) : (clampI x (-1048576) 1048576 == x) = decide (-1048576 ≤ x ∧ x ≤ 1048576) := by
  rw [Bool.eq_iff_iff]
  unfold clampI
  simp only [beq_iff_eq, decide_eq_true_eq]
  split
  · omega
  · split <;> omega

def okPt (x y : Int) : Bool := decide (-1048576 ≤ x ∧ x ≤ 1048576) && decide (-1048576 ≤ y ∧ y ≤ 1048576)

theorem valid_any (x y : Int) (w : World) :
    Calls Tryz.prog 80 #[.agg #[.int .i64 x, .int .i64 y]] w fun e w' => e = .returned (.bool (okPt x y)) ∧ Ext w w' := by
  have h0 : ∀ w', Ext (w.alloc (.cells #[.int .i64 x, .int .i64 y] 49)) w' → w'.cell? ⟨w.heap.size, 0, none⟩ = some (.int .i64 x) := fun w' h => h.get (by simp)
  have h1 : ∀ w', Ext (w.alloc (.cells #[.int .i64 x, .int .i64 y] 49)) w' → w'.cell? ⟨w.heap.size, 1, none⟩ = some (.int .i64 y) := fun w' h => h.get (by simp)
  go_enter Tryz.func80, Tryz.ntmps80
  go_wp2_with fail
  go_region_held3 (fun w' => Ext (w.alloc (.cells #[.int .i64 x, .int .i64 y] 49)) w') (first | assumption | exact Ext.drew (Ext.refl _) | (apply Ext.via; assumption; assumption))
    (first | (go_at_call 100; refine (hold_any _ _ _).mono ?_; rintro e w' ⟨rfl, hb⟩))
  go_wp2_with fail
  go_ret
  refine ⟨?_, ((Ext.refl _).alloc _).trans ‹_›⟩
  rw [eq_clamp, eq_clamp]; rfl

end Go.Proofs.YtllpkoinjompcaaGreat

namespace Go.Proofs.YtllpkoinjompcaaGreat
open Go.RowKit
attribute [local go_sem ↓] Go.wp_at_zero Go.wp_at_succ run_eql_point run_neq_point

def PtsAt (w : World) (b off : Nat) (ps : List (Int × Int)) : Prop :=
  ∀ i, i < ps.length → w.cell? ⟨b, off + i * 2, none⟩ = some (.int .i64 (ps.getD i (0, 0)).1) ∧ w.cell? ⟨b, off + i * 2 + 1, none⟩ = some (.int .i64 (ps.getD i (0, 0)).2)

theorem PtsAt.ext {w w' : World} {b off : Nat} {ps : List (Int × Int)} (h : PtsAt w b off ps) (e : Ext w w') : PtsAt w' b off ps :=
  fun i hi => ⟨e.get (h i hi).1, e.get (h i hi).2⟩

def okAll (ps : List (Int × Int)) : Bool := ps.all fun p => okPt p.1 p.2

theorem okAll_take_succ (ps : List (Int × Int)) (k : Nat) (hk : k < ps.length) :
    okAll (ps.take (k + 1)) = (okAll (ps.take k) && okPt (ps.getD k (0, 0)).1 (ps.getD k (0, 0)).2) := by
  unfold okAll
  rw [List.take_succ_eq_append_getElem hk, List.all_append]
  simp [List.getD, hk]

def least (need tol : Int) : Nat → Nat → Option Nat
  | _, 0 => none
  | k, f + 1 => if need ≤ 16 * k * k * k * k * tol * tol then some k else least need tol (k + 1) f

def piecesV (need tol : Int) (ps : List (Int × Int)) : Int × Int :=
  if tol < 1 ∨ 256 < tol then (0, 2) else if okAll ps = false then (0, 6) else
    match least need tol 1 64 with
    | some k => (k, 0)
    | none => (0, 11)

theorem okAll_stop (ps : List (Int × Int)) (k : Nat) (hk : k < ps.length) (h : okPt ps[k].1 ps[k].2 = false) : okAll ps = false := by
  unfold okAll
  rw [List.all_eq_false]
  exact ⟨ps[k], List.getElem_mem hk, by simp [h]⟩
theorem okAll_step (ps : List (Int × Int)) (k : Nat) (hk : k < ps.length) (h0 : okAll (ps.take k) = true) (h : okPt ps[k].1 ps[k].2 = true) : okAll (ps.take (k + 1)) = true := by
  rw [okAll_take_succ ps k hk, h0]
  simp [List.getD, hk, h]
theorem okAll_end (ps : List (Int × Int)) (k : Nat) (hk : k ≤ ps.length) (hge : ¬ k < ps.length) (h0 : okAll (ps.take k) = true) : okAll ps = true := by
  rwa [List.take_of_length_le (by omega)] at h0

theorem least_step (need tol : Int) (k f : Nat) (h : ¬ need ≤ 16 * k * k * k * k * tol * tol) : least need tol k (f + 1) = least need tol (k + 1) f := by
  rw [least, if_neg h]
theorem least_hit (need tol : Int) (k f : Nat) (h : need ≤ 16 * k * k * k * k * tol * tol) : least need tol k (f + 1) = some k := by
  rw [least, if_pos h]

theorem least_bounds (k : Nat) (tol : Int) (hk : k ≤ 64) (h1 : 1 ≤ tol) (h2 : tol ≤ 256) :
    0 ≤ 16 * (k : Int) * k ∧ 16 * (k : Int) * k ≤ 65536 ∧ 0 ≤ 16 * (k : Int) * k * k ∧ 16 * (k : Int) * k * k ≤ 4194304 ∧ 0 ≤ 16 * (k : Int) * k * k * k ∧ 16 * (k : Int) * k * k * k ≤ 268435456 ∧
    0 ≤ 16 * (k : Int) * k * k * k * tol ∧ 16 * (k : Int) * k * k * k * tol ≤ 68719476736 ∧ 0 ≤ 16 * (k : Int) * k * k * k * tol * tol ∧ 16 * (k : Int) * k * k * k * tol * tol ≤ 17592186044416 := by
  have hk0 : (0 : Int) ≤ k := by omega
  have hk1 : (k : Int) ≤ 64 := by omega
  have mb : ∀ a b A B : Int, 0 ≤ a → a ≤ A → 0 ≤ b → b ≤ B → 0 ≤ a * b ∧ a * b ≤ A * B := fun a b A B ha hA hb hB =>
    ⟨Int.mul_nonneg ha hb, Int.mul_le_mul hA hB hb (by omega)⟩
  have a1 := mb (16 * k) k 1024 64 (by omega) (by omega) hk0 hk1
  have a2 := mb _ k 65536 64 a1.1 (by omega) hk0 hk1
  have a3 := mb _ k 4194304 64 a2.1 (by omega) hk0 hk1
  have a4 := mb _ tol 268435456 256 a3.1 (by omega) (by omega) h2
  have a5 := mb _ tol 68719476736 256 a4.1 (by omega) (by omega) h2
  omega

theorem pieces_any (need tol : Int) (b off cap : Nat) (ps : List (Int × Int)) (w : World) (hn : ps.length ≤ 4096) (hp : PtsAt w b off ps) :
    Calls Tryz.prog 50 #[.int .i64 need, .int .i64 tol, .slice (some ⟨b, off, none⟩) ps.length cap] w fun e w' =>
      e = .returned (.tuple #[.int .i64 (piecesV need tol ps).1, .int .i64 (piecesV need tol ps).2]) ∧ Ext w w' := by
  by_cases ht : tol < 1 ∨ 256 < tol
  · have hv : piecesV need tol ps = (0, 2) := by unfold piecesV; rw [if_pos ht]
    rw [hv]
    clear hv
    rcases ht with ht | ht
    · go_enter Tryz.func50, Tryz.ntmps50
      go_wp2_with fail
      go_ret2
      exact ⟨rfl, Ext.refl _⟩
    · have ht' : ¬ tol < 1 := by omega
      go_enter Tryz.func50, Tryz.ntmps50
      go_wp2_with fail
      go_ret2
      exact ⟨rfl, Ext.refl _⟩
  have t1 : 1 ≤ tol := by omega
  have t2 : tol ≤ 256 := by omega
  have v1 : okAll ps = false → piecesV need tol ps = (0, 6) := fun h => by unfold piecesV; rw [if_neg ht, if_pos h]
  have v2 : ∀ k : Nat, okAll ps = true → least need tol 1 64 = some k → piecesV need tol ps = ((k : Int), 0) := fun k h hl => by unfold piecesV; rw [if_neg ht, if_neg (by simp [h]), hl]
  have v3 : okAll ps = true → least need tol 1 64 = none → piecesV need tol ps = (0, 11) := fun h hl => by unfold piecesV; rw [if_neg ht, if_neg (by simp [h]), hl]
  have H1 := zH v1
  have H2 := zH v2
  have H3 := zH v3
  clear v1 v2 v3 ht
  have d1 : decide (tol < 1) = false := by simp; omega
  have d2 : decide (256 < tol) = false := by simp; omega
  go_enter Tryz.func50, Tryz.ntmps50
  go_wp2_with fail
  go_loopw [19] (fun i wr => ∃ k : Nat, k ≤ ps.length ∧ i = .int .i64 k ∧ okAll (ps.take k) = true ∧ Ext w wr) (fun i _ => ps.length - (intOf i).toNat)
  case atStart => exact ⟨0, Nat.zero_le _, rfl, rfl, Ext.refl _⟩
  case round =>
    obtain ⟨k, hk, rfl, ho, he⟩ := hrel
    have HO := zH ho
    clear ho
    by_cases hlt : k < ps.length
    · obtain ⟨c0, c1⟩ := hp.ext he k hlt
      go_wp2_with (go_at_call 80; refine (valid_any _ _ _).mono ?_; rintro e w' ⟨rfl, hb⟩)
      · have hf : (!okPt ps[k].1 ps[k].2) = true := by assumption
        go_ret2
        rw [H1.out (okAll_stop ps k hlt (by simpa using hf))]
        exact ⟨rfl, (he.alloc _).trans ‹_›⟩
      · have hf : (!okPt ps[k].1 ps[k].2) = false := by assumption
        go_roundw
        case rel => exact ⟨k + 1, hlt, by go_num, okAll_step ps k hlt HO.out (by simpa using hf), (he.alloc _).trans ‹_›⟩
        case measure => simp [intOf]; omega
    · have HK := zH (okAll_end ps k hk hlt HO.out)
      clear HO
      go_wp2_with fail
      go_loop [10] (fun i => ∃ j : Nat, 1 ≤ j ∧ j ≤ 65 ∧ i = .int .i64 j ∧ least need tol 1 64 = least need tol j (65 - j)) (fun i => 65 - (intOf i).toNat)
      case atStart => exact ⟨1, Nat.le_refl _, by omega, rfl, rfl⟩
      case round =>
        obtain ⟨j, hj1, hj2, rfl, hl⟩ := hrel
        have HL := zH hl
        clear hl
        by_cases hj : j ≤ 64
        · have bd := least_bounds j tol hj t1 t2
          by_cases hit : need ≤ 16 * (j : Int) * j * j * j * tol * tol
          · have hr : least need tol 1 64 = some j := by
              rw [HL.out, show 65 - j = (64 - j) + 1 by omega]; exact least_hit _ _ _ _ hit
            have HR := zH hr
            clear hr
            go_wp2_with fail
            go_ret2
            rw [H2.out j HK.out HR.out]
            exact ⟨rfl, he⟩
          · have hr : least need tol 1 64 = least need tol (j + 1) (65 - (j + 1)) := by
              rw [HL.out, show 65 - j = (64 - j) + 1 by omega, least_step _ _ _ _ hit, show 64 - j = 65 - (j + 1) by omega]
            have HR := zH hr
            clear hr
            go_wp2_with fail
            go_round
            case rel => exact ⟨j + 1, by omega, by omega, by go_num, HR.out⟩
            case measure => simp [intOf]; omega
        · have hr : least need tol 1 64 = none := by
            rw [HL.out, show 65 - j = 0 by omega]; rfl
          have HR := zH hr
          clear hr
          go_wp2_with fail
          go_ret2
          rw [H3.out HK.out HR.out]
          exact ⟨rfl, he⟩

def sqD (a b c : Int × Int) : Int := (a.1 - 2 * b.1 + c.1) * (a.1 - 2 * b.1 + c.1) + (a.2 - 2 * b.2 + c.2) * (a.2 - 2 * b.2 + c.2)

theorem sq_bound (x : Int) (h1 : -4194304 ≤ x) (h2 : x ≤ 4194304) : 0 ≤ x * x ∧ x * x ≤ 17592186044416 := by
  have h : x * x ≤ 4194304 * 4194304 := by
    by_cases hx : 0 ≤ x
    · exact Int.mul_le_mul h2 h2 hx (by omega)
    · have := Int.mul_le_mul (a := -x) (c := 4194304) (b := -x) (d := 4194304) (by omega) (by omega) (by omega) (by omega)
      rw [Int.neg_mul_neg] at this
      exact this
  refine ⟨?_, by omega⟩
  by_cases hx : 0 ≤ x
  · exact Int.mul_nonneg hx hx
  · have := Int.mul_nonneg (a := -x) (b := -x) (by omega) (by omega)
    rw [Int.neg_mul_neg] at this
    exact this

theorem okPt_iff (x y : Int) : okPt x y = true ↔ (-1048576 ≤ x ∧ x ≤ 1048576) ∧ -1048576 ≤ y ∧ y ≤ 1048576 := by simp [okPt]

def SquareSays (a b c : Int × Int) (w : World) (e : Ending) (w' : World) : Prop :=
  ∃ n : Int, e = .returned (.int .i64 n) ∧ (okAll [a, b, c] = true → n = sqD a b c) ∧ Ext w w'

theorem square_any (a b c : Int × Int) (w : World) :
    Calls Tryz.prog 51 #[.agg #[.int .i64 a.1, .int .i64 a.2], .agg #[.int .i64 b.1, .int .i64 b.2], .agg #[.int .i64 c.1, .int .i64 c.2]] w (SquareSays a b c w) := by
  obtain ⟨ax, ay⟩ := a
  obtain ⟨bx, bt⟩ := b
  obtain ⟨cx, cy⟩ := c
  by_cases hv : okAll [(ax, ay), (bx, bt), (cx, cy)] = true
  · have hb : ((-1048576 ≤ ax ∧ ax ≤ 1048576) ∧ -1048576 ≤ ay ∧ ay ≤ 1048576) ∧ ((-1048576 ≤ bx ∧ bx ≤ 1048576) ∧ -1048576 ≤ bt ∧ bt ≤ 1048576) ∧ ((-1048576 ≤ cx ∧ cx ≤ 1048576) ∧ -1048576 ≤ cy ∧ cy ≤ 1048576) := by
      simpa [okAll, okPt_iff] using hv
    have b1 := sq_bound (ax - 2 * bx + cx) (by omega) (by omega)
    have b2 := sq_bound (ay - 2 * bt + cy) (by omega) (by omega)
    clear hv
    go_enter Tryz.func51, Tryz.ntmps51
    go_wp2_with fail
    go_quiet (fail)
    go_wp2_with fail
    go_ret
    exact ⟨_, rfl, fun _ => rfl, ((((Ext.refl _).alloc _).alloc _).alloc _).drewN _⟩
  · have HV := zH hv
    clear hv
    go_enter Tryz.func51, Tryz.ntmps51
    go_wp2_with fail
    go_quiet (fail)
    go_wp2_with fail
    go_ret
    exact ⟨_, rfl, fun h => absurd h HV.out, ((((Ext.refl _).alloc _).alloc _).alloc _).drewN _⟩

theorem piecesV_bad (n m tol : Int) (ps : List (Int × Int)) (h : okAll ps = false) : piecesV n tol ps = piecesV m tol ps := by
  unfold piecesV
  simp [h]

def quadSegV (a b c : Int × Int) (tol : Int) : Int × Int := piecesV (sqD a b c) tol [a, b, c]
theorem pts3 {w : World} {g : Nat} {a b c : Int × Int} (h0 : w.cell? ⟨g, 0, none⟩ = some (.int .i64 a.1)) (h1 : w.cell? ⟨g, 1, none⟩ = some (.int .i64 a.2)) (h2 : w.cell? ⟨g, 2, none⟩ = some (.int .i64 b.1))
    (h3 : w.cell? ⟨g, 3, none⟩ = some (.int .i64 b.2)) (h4 : w.cell? ⟨g, 4, none⟩ = some (.int .i64 c.1)) (h5 : w.cell? ⟨g, 5, none⟩ = some (.int .i64 c.2)) : PtsAt w g 0 [a, b, c] := by
  intro i hi
  match i, hi with
  | 0, _ => exact ⟨h0, h1⟩
  | 1, _ => exact ⟨h2, h3⟩
  | 2, _ => exact ⟨h4, h5⟩
def PiecesSays (need tol : Int) (ps : List (Int × Int)) (w : World) (e : Ending) (w' : World) : Prop :=
  e = .returned (.tuple #[.int .i64 (piecesV need tol ps).1, .int .i64 (piecesV need tol ps).2]) ∧ Ext w w'

theorem pieces_len (need tol : Int) (n b off cap : Nat) (ps : List (Int × Int)) (w : World) (hl : ps.length = n) (hn : n ≤ 4096) (hp : PtsAt w b off ps) :
    Calls Tryz.prog 50 #[.int .i64 need, .int .i64 tol, .slice (some ⟨b, off, none⟩) n cap] w (PiecesSays need tol ps w) := by
  subst hl
  exact pieces_any need tol b off cap ps w hn hp

end Go.Proofs.YtllpkoinjompcaaGreat

namespace Go.Proofs.YtllpkoinjompcaaGreat
open Go.RowKit
attribute [local go_sem ↓] Go.wp_at_zero Go.wp_at_succ run_eql_point run_neq_point run_max_ii run_min_ii

theorem quadSeg_any (a b c : Int × Int) (tol : Int) (w : World) :
    Calls Tryz.prog 26 #[.agg #[.int .i64 a.1, .int .i64 a.2, .int .i64 b.1, .int .i64 b.2, .int .i64 c.1, .int .i64 c.2], .int .i64 tol] w fun e w' =>
      e = .returned (.tuple #[.int .i64 (quadSegV a b c tol).1, .int .i64 (quadSegV a b c tol).2]) ∧ Ext w w' := by
  have g : ∀ w', Ext (w.alloc (.cells #[.int .i64 a.1, .int .i64 a.2, .int .i64 b.1, .int .i64 b.2, .int .i64 c.1, .int .i64 c.2] 50)) w' →
      w'.cell? ⟨w.heap.size, 0, none⟩ = some (.int .i64 a.1) ∧ w'.cell? ⟨w.heap.size, 1, none⟩ = some (.int .i64 a.2) ∧ w'.cell? ⟨w.heap.size, 2, none⟩ = some (.int .i64 b.1) ∧
      w'.cell? ⟨w.heap.size, 3, none⟩ = some (.int .i64 b.2) ∧ w'.cell? ⟨w.heap.size, 4, none⟩ = some (.int .i64 c.1) ∧ w'.cell? ⟨w.heap.size, 5, none⟩ = some (.int .i64 c.2) := fun w' h =>
    ⟨h.get (by simp), h.get (by simp), h.get (by simp), h.get (by simp), h.get (by simp), h.get (by simp)⟩
  have hps : ∀ w', Ext (w.alloc (.cells #[.int .i64 a.1, .int .i64 a.2, .int .i64 b.1, .int .i64 b.2, .int .i64 c.1, .int .i64 c.2] 50)) w' → PtsAt w' w.heap.size 0 [a, b, c] := fun w' h => by
    obtain ⟨h0, h1, h2, h3, h4, h5⟩ := g w' h
    exact pts3 h0 h1 h2 h3 h4 h5
  have HP := zH hps
  clear hps
  go_enter Tryz.func26, Tryz.ntmps26
  go_wp2_with fail
  go_region_held3 (fun w' => Ext (w.alloc (.cells #[.int .i64 a.1, .int .i64 a.2, .int .i64 b.1, .int .i64 b.2, .int .i64 c.1, .int .i64 c.2] 50)) w') (first | assumption | exact Ext.drew (Ext.refl _) | (apply Ext.via; assumption; assumption))
    (first | (go_at_call 51; refine (square_any a b c _).mono ?_; rintro e w' ⟨n, rfl, hn, hb⟩) | (go_at_call 50; refine (pieces_len _ tol 3 w.heap.size 0 3 [a, b, c] _ rfl (by omega) (HP.out _ (by assumption))).mono ?_; rintro e w' ⟨rfl, hb2⟩))
  go_wp2_with fail
  go_ret2
  have hq : quadSegV a b c tol = piecesV n tol [a, b, c] := by
    unfold quadSegV
    by_cases hv : okAll [a, b, c] = true
    · rw [hn hv]
    · exact piecesV_bad _ _ _ _ (by simpa using hv)
  rw [hq]
  exact ⟨rfl, ((Ext.refl _).alloc _).trans ‹_›⟩

end Go.Proofs.YtllpkoinjompcaaGreat

namespace Go.Proofs.YtllpkoinjompcaaGreat
open Go.RowKit
attribute [local go_sem ↓] Go.wp_at_zero Go.wp_at_succ run_eql_point run_neq_point run_max_ii run_min_ii

end Go.Proofs.YtllpkoinjompcaaGreat

namespace Go.Proofs.YtllpkoinjompcaaGreat
open Go.RowKit
attribute [local go_sem ↓] Go.wp_at_zero Go.wp_at_succ run_eql_point run_neq_point run_max_ii run_min_ii

def nearV (a b : Int) : Int := (2 * a + b) / (2 * b)

theorem quo_floor (x y : Int) (hy : 1 ≤ y) : (0 ≤ x.tmod y → x.tdiv y = x / y) ∧ (x.tmod y < 0 → x.tdiv y - 1 = x / y) ∧ (x.tmod y < 0 → x < 0) ∧ (0 ≤ x → x.tdiv y = x / y ∧ 0 ≤ x.tmod y) := by
  by_cases hx : 0 ≤ x
  · have h1 : x.tdiv y = x / y := Int.tdiv_eq_ediv_of_nonneg hx
    have h2 : 0 ≤ x.tmod y := Int.tmod_nonneg _ hx
    exact ⟨fun _ => h1, fun h => by omega, fun h => by omega, fun _ => ⟨h1, h2⟩⟩
  · have e := Int.mul_tdiv_add_tmod x y
    have e2 := Int.mul_ediv_add_emod x y
    have m0 := Int.emod_nonneg x (b := y) (by omega)
    have m1 := Int.emod_lt_of_pos x (b := y) (by omega)
    have t0 : x.tmod y ≤ 0 := by
      have := Int.tmod_nonneg (a := -x) y (by omega)
      rw [Int.neg_tmod] at this
      omega
    have t1 : -y < x.tmod y := by
      have := Int.tmod_lt_of_pos (-x) (b := y) (by omega)
      rw [Int.neg_tmod] at this
      omega
    refine ⟨fun h => ?_, fun h => ?_, fun _ => by omega, fun h => by omega⟩
    · have h0 : x.tmod y = 0 := by omega
      have hm : y * (x.tdiv y - x / y) = x % y := by rw [Int.mul_sub]; omega
      have : x.tdiv y - x / y = 0 := by
        by_cases hp : 1 ≤ x.tdiv y - x / y
        · have := Int.mul_le_mul_of_nonneg_left hp (show 0 ≤ y by omega); omega
        · by_cases hn : x.tdiv y - x / y ≤ -1
          · have := Int.mul_le_mul_of_nonneg_left hn (show 0 ≤ y by omega); omega
          · omega
      omega
    · have hm : y * (x.tdiv y - x / y) = x % y - x.tmod y := by rw [Int.mul_sub]; omega
      have : x.tdiv y - x / y = 1 := by
        by_cases hp : 2 ≤ x.tdiv y - x / y
        · have := Int.mul_le_mul_of_nonneg_left hp (show 0 ≤ y by omega); omega
        · by_cases hn : x.tdiv y - x / y ≤ 0
          · have := Int.mul_le_mul_of_nonneg_left hn (show 0 ≤ y by omega); omega
          · omega
      omega

theorem tdiv_bound (x y B : Int) (h1 : -B ≤ x) (h2 : x ≤ B) : -B ≤ x.tdiv y ∧ x.tdiv y ≤ B := by
  have := Int.natAbs_tdiv_le_natAbs x y
  omega

theorem near_any (a b : Int) (w : World) (h1 : 1 ≤ b) (h2 : b ≤ 1099511627776) (h3 : -1152921504606846976 ≤ a) (h4 : a ≤ 1152921504606846976) :
    Calls Tryz.prog 57 #[.int .i64 a, .int .i64 b] w fun e w' => e = .returned (.int .i64 (nearV a b)) ∧ w = w' := by
  have q := quo_floor (2 * a + b) (2 * b) (by omega)
  have bq := tdiv_bound (2 * a + b) (2 * b) 3458764513820540928 (by omega) (by omega)
  have e1 : (2 * a + b).tmod (2 * b) < 0 → nearV a b = (2 * a + b).tdiv (2 * b) - 1 := fun h => (q.2.1 h).symm
  have e2 : 0 ≤ (2 * a + b).tmod (2 * b) → nearV a b = (2 * a + b).tdiv (2 * b) := fun h => (q.1 h).symm
  have E1 := zH e1
  have E2 := zH e2
  clear e1 e2 q
  by_cases hr : (2 * a + b).tmod (2 * b) < 0
  · have d0 : ((2 * b) == 0) = false := by simp; omega
    go_enter Tryz.func57, Tryz.ntmps57
    go_wp2_with fail
    go_ret
    exact ⟨ret_int (E1.out hr).symm, rfl⟩
  · have d0 : ((2 * b) == 0) = false := by simp; omega
    go_enter Tryz.func57, Tryz.ntmps57
    go_wp2_with fail
    go_ret
    exact ⟨ret_int (E2.out (by omega)).symm, rfl⟩

end Go.Proofs.YtllpkoinjompcaaGreat

namespace Go.Proofs.YtllpkoinjompcaaGreat
open Go.RowKit
attribute [local go_sem ↓] Go.wp_at_zero Go.wp_at_succ run_eql_point run_neq_point run_max_ii run_min_ii

def parV (i n : Int) : Bool := decide (1 ≤ n) && (decide (n ≤ 64) && (decide (0 ≤ i) && decide (i ≤ n)))

theorem parV_iff (i n : Int) : parV i n = true ↔ 1 ≤ n ∧ n ≤ 64 ∧ 0 ≤ i ∧ i ≤ n := by simp [parV]

def MayB (ps : List (Int × Int)) (i n : Int) : Bool := okAll ps && parV i n

theorem may_any (b off cap : Nat) (ps : List (Int × Int)) (i n : Int) (w : World) (hn : ps.length ≤ 4096) (hp : PtsAt w b off ps) :
    Calls Tryz.prog 55 #[.slice (some ⟨b, off, none⟩) ps.length cap, .int .i64 i, .int .i64 n] w fun e w' => e = .returned (.bool (MayB ps i n)) ∧ Ext w w' := by
  go_enter Tryz.func55, Tryz.ntmps55
  go_wp2_with fail
  go_loopw [11] (fun x wr => ∃ k : Nat, k ≤ ps.length ∧ x = .int .i64 k ∧ okAll (ps.take k) = true ∧ Ext w wr) (fun x _ => ps.length - (intOf x).toNat)
  case atStart => exact ⟨0, Nat.zero_le _, rfl, rfl, Ext.refl _⟩
  case round =>
    obtain ⟨k, hk, rfl, ho, he⟩ := hrel
    have HO := zH ho
    clear ho
    by_cases hlt : k < ps.length
    · obtain ⟨c0, c1⟩ := hp.ext he k hlt
      go_wp2_with (go_at_call 80; refine (valid_any _ _ _).mono ?_; rintro e w' ⟨rfl, hb⟩)
      · have hf : (!okPt ps[k].1 ps[k].2) = true := by assumption
        go_ret
        exact ⟨ret_bool (by unfold MayB; rw [okAll_stop ps k hlt (by simpa using hf)]; rfl), (he.alloc _).trans ‹_›⟩
      · have hf : (!okPt ps[k].1 ps[k].2) = false := by assumption
        go_roundw
        case rel => exact ⟨k + 1, hlt, by go_num, okAll_step ps k hlt HO.out (by simpa using hf), (he.alloc _).trans ‹_›⟩
        case measure => simp [intOf]; omega
    · have e : MayB ps i n = parV i n := by unfold MayB; rw [okAll_end ps k hk hlt HO.out]; rfl
      have E := zH e
      clear HO e
      by_cases h1 : 1 ≤ n
      · by_cases h2 : n ≤ 64
        · by_cases h3 : 0 ≤ i
          · go_wp2_with fail
            all_goals go_ret
            all_goals exact ⟨ret_bool (by rw [E.out]; simp [parV, h1, h2, h3]), he⟩
          · go_wp2_with fail
            all_goals go_ret
            all_goals exact ⟨ret_bool (by rw [E.out]; simp [parV] <;> omega), he⟩
        · go_wp2_with fail
          all_goals go_ret
          all_goals exact ⟨ret_bool (by rw [E.out]; simp [parV] <;> omega), he⟩
      · go_wp2_with fail
        all_goals go_ret
        all_goals exact ⟨ret_bool (by rw [E.out]; simp [parV] <;> omega), he⟩

def MaySays (ps : List (Int × Int)) (i n : Int) (w : World) (e : Ending) (w' : World) : Prop := e = .returned (.bool (MayB ps i n)) ∧ Ext w w'

theorem may_len (l b off cap : Nat) (ps : List (Int × Int)) (i n : Int) (w : World) (hl : ps.length = l) (hn : l ≤ 4096) (hp : PtsAt w b off ps) :
    Calls Tryz.prog 55 #[.slice (some ⟨b, off, none⟩) l cap, .int .i64 i, .int .i64 n] w (MaySays ps i n w) := by
  subst hl
  exact may_any b off cap ps i n w hn hp
end Go.Proofs.YtllpkoinjompcaaGreat

namespace Go.Proofs.YtllpkoinjompcaaGreat
open Go.RowKit
attribute [local go_sem ↓] Go.wp_at_zero Go.wp_at_succ run_eql_point run_neq_point run_max_ii run_min_ii

theorem mulB (x y X Y : Int) (h1 : -X ≤ x) (h2 : x ≤ X) (h3 : -Y ≤ y) (h4 : y ≤ Y) : -(X * Y) ≤ x * y ∧ x * y ≤ X * Y := by
  have a := Int.natAbs_mul x y
  have b : x.natAbs * y.natAbs ≤ X.natAbs * Y.natAbs := Nat.mul_le_mul (by omega) (by omega)
  have c : ((X.natAbs * Y.natAbs : Nat) : Int) = X * Y := by
    rw [Int.natCast_mul, Int.natAbs_of_nonneg (by omega), Int.natAbs_of_nonneg (by omega)]
  omega

def qv (i n a b c : Int) : Int := nearV ((n - i) * (n - i) * a + 2 * i * (n - i) * b + i * i * c) (n * n)

theorem sq64 (i : Int) (h0 : 0 ≤ i) (h1 : i ≤ 64) : 0 ≤ i * i ∧ i * i ≤ 4096 := by
  have := mulB i i 64 64 (by omega) h1 (by omega) h1
  exact ⟨Int.mul_nonneg h0 h0, by omega⟩

theorem qbounds (i k n a b c : Int) (hi : 0 ≤ i ∧ i ≤ 64) (hk : 0 ≤ k ∧ k ≤ 64) (hn : 1 ≤ n ∧ n ≤ 64) (ha : -1048576 ≤ a ∧ a ≤ 1048576) (hb : -1048576 ≤ b ∧ b ≤ 1048576) (hc : -1048576 ≤ c ∧ c ≤ 1048576) :
    (0 ≤ k * k ∧ k * k ≤ 4096) ∧ (-4294967296 ≤ k * k * a ∧ k * k * a ≤ 4294967296) ∧ (-8192 ≤ 2 * i * k ∧ 2 * i * k ≤ 8192) ∧ (-8589934592 ≤ 2 * i * k * b ∧ 2 * i * k * b ≤ 8589934592) ∧
    (0 ≤ i * i ∧ i * i ≤ 4096) ∧ (-4294967296 ≤ i * i * c ∧ i * i * c ≤ 4294967296) ∧ (1 ≤ n * n ∧ n * n ≤ 4096) := by
  have s1 := sq64 k hk.1 hk.2
  have s2 := sq64 i hi.1 hi.2
  have s3 := sq64 n (by omega) hn.2
  have m1 := mulB (k * k) a 4096 1048576 (by omega) s1.2 ha.1 ha.2
  have m2 := mulB (2 * i) k 128 64 (by omega) (by omega) (by omega) hk.2
  have m3 := mulB (2 * i * k) b 8192 1048576 (by omega) (by omega) hb.1 hb.2
  have m4 := mulB (i * i) c 4096 1048576 (by omega) s2.2 hc.1 hc.2
  have m5 : 1 * 1 ≤ n * n := Int.mul_le_mul hn.1 hn.1 (by omega) (by omega)
  omega

theorem quadAt1_any (i k n a b c : Int) (pk pi pn : Addr) (w : World) (hi : 0 ≤ i ∧ i ≤ 64) (hk : 0 ≤ k ∧ k ≤ 64) (hn : 1 ≤ n ∧ n ≤ 64) (ha : -1048576 ≤ a ∧ a ≤ 1048576) (hb : -1048576 ≤ b ∧ b ≤ 1048576) (hc : -1048576 ≤ c ∧ c ≤ 1048576)
    (ck : w.cell? pk = some (.int .i64 k)) (ci : w.cell? pi = some (.int .i64 i)) (cn : w.cell? pn = some (.int .i64 n)) :
    Calls Tryz.prog 56 #[.int .i64 a, .int .i64 b, .int .i64 c, .pointer (some pk), .pointer (some pi), .pointer (some pn)] w fun e w' =>
      e = .returned (.int .i64 (nearV (k * k * a + 2 * i * k * b + i * i * c) (n * n))) ∧ w = w' := by
  have B := qbounds i k n a b c hi hk hn ha hb hc
  clear ha hb hc
  go_enter Tryz.func56, Tryz.ntmps56
  go_wp2_with (go_at_call 57; refine (near_any _ _ _ (by omega) (by omega) (by omega) (by omega)).mono ?_; rintro e w' ⟨rfl, rfl⟩)
  go_ret
  exact ⟨rfl, rfl⟩

def quadAtV (a b c : Int × Int) (i n : Int) : Int × Int := if MayB [a, b, c] i n = true then (qv i n a.1 b.1 c.1, qv i n a.2 b.2 c.2) else (0, 0)

theorem quadAt_any (a b c : Int × Int) (i n : Int) (w : World) :
    Calls Tryz.prog 29 #[.agg #[.int .i64 a.1, .int .i64 a.2, .int .i64 b.1, .int .i64 b.2, .int .i64 c.1, .int .i64 c.2], .int .i64 i, .int .i64 n] w fun e w' =>
      e = .returned (.agg #[.int .i64 (quadAtV a b c i n).1, .int .i64 (quadAtV a b c i n).2]) ∧ Ext w w' := by
  have g : ∀ w', Ext ((((w.alloc (.cells #[.int .i64 a.1, .int .i64 a.2, .int .i64 b.1, .int .i64 b.2, .int .i64 c.1, .int .i64 c.2] 50)).alloc (.cells #[.int .i64 i] 3)).alloc (.cells #[.int .i64 n] 3)).alloc (.cells #[.int .i64 0, .int .i64 0] 49)) w' →
      w'.cell? ⟨w.heap.size, 0, none⟩ = some (.int .i64 a.1) ∧ w'.cell? ⟨w.heap.size, 1, none⟩ = some (.int .i64 a.2) ∧ w'.cell? ⟨w.heap.size, 2, none⟩ = some (.int .i64 b.1) ∧
      w'.cell? ⟨w.heap.size, 3, none⟩ = some (.int .i64 b.2) ∧ w'.cell? ⟨w.heap.size, 4, none⟩ = some (.int .i64 c.1) ∧ w'.cell? ⟨w.heap.size, 5, none⟩ = some (.int .i64 c.2) ∧
      w'.cell? ⟨w.heap.size + 1, 0, none⟩ = some (.int .i64 i) ∧ w'.cell? ⟨w.heap.size + 2, 0, none⟩ = some (.int .i64 n) ∧
      w'.cell? ⟨w.heap.size + 3, 0, none⟩ = some (.int .i64 0) ∧ w'.cell? ⟨w.heap.size + 3, 1, none⟩ = some (.int .i64 0) ∧
      w'.frozen? ⟨w.heap.size + 3, 0, none⟩ = false ∧ w'.frozen? ⟨w.heap.size + 3, 1, none⟩ = false := fun w' h => by
    have e1 : Ext (w.alloc (.cells #[.int .i64 a.1, .int .i64 a.2, .int .i64 b.1, .int .i64 b.2, .int .i64 c.1, .int .i64 c.2] 50)) w' := ((((Ext.refl _).alloc _).alloc _).alloc _).trans h
    have e2 : Ext ((w.alloc (.cells #[.int .i64 a.1, .int .i64 a.2, .int .i64 b.1, .int .i64 b.2, .int .i64 c.1, .int .i64 c.2] 50)).alloc (.cells #[.int .i64 i] 3)) w' := (((Ext.refl _).alloc _).alloc _).trans h
    have e3 : Ext (((w.alloc (.cells #[.int .i64 a.1, .int .i64 a.2, .int .i64 b.1, .int .i64 b.2, .int .i64 c.1, .int .i64 c.2] 50)).alloc (.cells #[.int .i64 i] 3)).alloc (.cells #[.int .i64 n] 3)) w' := ((Ext.refl _).alloc _).trans h
    exact ⟨e1.get (by simp), e1.get (by simp), e1.get (by simp), e1.get (by simp), e1.get (by simp), e1.get (by simp), e2.get (by simp), e3.get (by rw [World.cell?_alloc_at _ _ _ _ (by simp)]; rfl), h.get (by rw [World.cell?_alloc_at _ _ _ _ (by simp)]; rfl), h.get (by rw [World.cell?_alloc_at _ _ _ _ (by simp)]; rfl), (h.frozen (by simp)).trans (World.frozen?_alloc_at _ _ _ _ (by simp)), (h.frozen (by simp)).trans (World.frozen?_alloc_at _ _ _ _ (by simp))⟩
  have HP := zH (fun w' h => have q := g w' h; pts3 q.1 q.2.1 q.2.2.1 q.2.2.2.1 q.2.2.2.2.1 q.2.2.2.2.2.1)
  by_cases hm : MayB [a, b, c] i n = true
  · have hv : quadAtV a b c i n = (qv i n a.1 b.1 c.1, qv i n a.2 b.2 c.2) := by unfold quadAtV; rw [if_pos hm]
    rw [hv]
    clear hv
    have ho : okAll [a, b, c] = true ∧ parV i n = true := by unfold MayB at hm; simpa using hm
    have bi := (parV_iff i n).1 ho.2
    have hb : ((-1048576 ≤ a.1 ∧ a.1 ≤ 1048576) ∧ -1048576 ≤ a.2 ∧ a.2 ≤ 1048576) ∧ ((-1048576 ≤ b.1 ∧ b.1 ≤ 1048576) ∧ -1048576 ≤ b.2 ∧ b.2 ≤ 1048576) ∧ ((-1048576 ≤ c.1 ∧ c.1 ≤ 1048576) ∧ -1048576 ≤ c.2 ∧ c.2 ≤ 1048576) := by
      simpa [okAll, okPt_iff] using ho.1
    have HB := zH hb
    clear hb ho
    go_enter Tryz.func29, Tryz.ntmps29
    go_wp2_with fail
    go_region_held3 (fun w' => Ext ((((w.alloc (.cells #[.int .i64 a.1, .int .i64 a.2, .int .i64 b.1, .int .i64 b.2, .int .i64 c.1, .int .i64 c.2] 50)).alloc (.cells #[.int .i64 i] 3)).alloc (.cells #[.int .i64 n] 3)).alloc (.cells #[.int .i64 0, .int .i64 0] 49)) w') (first | assumption | exact Ext.drew (Ext.refl _) | (apply Ext.via; assumption; assumption))
      (first | (go_at_call 55; refine (may_len 3 w.heap.size 0 3 [a, b, c] i n _ rfl (by omega) (HP.out _ (by assumption))).mono ?_; rintro e w' ⟨rfl, hb⟩))
    have hne : w.heap.size + 3 < w'.heap.size := by have := Ext.size (by assumption : Ext ((((w.alloc (.cells #[.int .i64 a.1, .int .i64 a.2, .int .i64 b.1, .int .i64 b.2, .int .i64 c.1, .int .i64 c.2] 50)).alloc (.cells #[.int .i64 i] 3)).alloc (.cells #[.int .i64 n] 3)).alloc (.cells #[.int .i64 0, .int .i64 0] 49)) w'); simp at this; omega
    have hne1 : ¬ w'.heap.size = w.heap.size + 3 := by omega
    have hne2 : ¬ w.heap.size + 3 = w'.heap.size := by omega
    go_wp2_with fail
    have gk := g _ (by assumption : Ext ((((w.alloc (.cells #[.int .i64 a.1, .int .i64 a.2, .int .i64 b.1, .int .i64 b.2, .int .i64 c.1, .int .i64 c.2] 50)).alloc (.cells #[.int .i64 i] 3)).alloc (.cells #[.int .i64 n] 3)).alloc (.cells #[.int .i64 0, .int .i64 0] 49)) w')
    have g2 : ∀ x, Own (w.heap.size + 3) w' x → x.cell? ⟨w.heap.size, 0, none⟩ = some (.int .i64 a.1) ∧ x.cell? ⟨w.heap.size, 1, none⟩ = some (.int .i64 a.2) ∧ x.cell? ⟨w.heap.size, 2, none⟩ = some (.int .i64 b.1) ∧
      x.cell? ⟨w.heap.size, 3, none⟩ = some (.int .i64 b.2) ∧ x.cell? ⟨w.heap.size, 4, none⟩ = some (.int .i64 c.1) ∧ x.cell? ⟨w.heap.size, 5, none⟩ = some (.int .i64 c.2) ∧
      x.cell? ⟨w.heap.size + 1, 0, none⟩ = some (.int .i64 i) ∧ x.cell? ⟨w.heap.size + 2, 0, none⟩ = some (.int .i64 n) := fun x h => by
      obtain ⟨k0, k1, k2, k3, k4, k5, k6, k7, _⟩ := gk
      exact ⟨h.get k0 (by simp), h.get k1 (by simp), h.get k2 (by simp), h.get k3 (by simp), h.get k4 (by simp), h.get k5 (by simp), h.get k6 (by simp), h.get k7 (by simp)⟩
    go_region_held3 (fun x => Own (w.heap.size + 3) w' x ∧ x.cell? ⟨w'.heap.size, 0, none⟩ = some (.int .i64 (n - i))) (first | assumption | (refine ⟨?_, ?_⟩ <;> (first | ((repeat (first | exact Own.refl _ _ | apply Own.drew | apply Own.alloc | apply Own.set_at)); done) | (simp; done) | (refine (cell_last _ _ _ _ _ (by simp [World.setCell])).trans rfl))))
      (first | (go_at_call 56; go_split_ands; refine (quadAt1_any i (n - i) n _ _ _ _ _ _ _ (by omega) (by omega) (by omega) ?_ ?_ ?_ (by simp [*]) (by simp [*]) (by simp [*])).mono ?_ <;> (first | (rintro e w' ⟨rfl, rfl⟩) | (have hb := HB.out; omega))))
    go_wp2_with fail
    refine bodyPost_ret (v := .agg #[.int .i64 (qv i n a.1 b.1 c.1), .int .i64 (qv i n a.2 b.2 c.2)]) ?_ rfl ⟨rfl, ?_⟩
    · unfold qv
      simp [results, Tryz.results29, go_sem, *]
    · refine Ext.drew (Ext.alloc (Ext.setCell (Ext.setCell ?_ (by simp; omega) _) (by simp; omega) _) _)
      exact ((Ext.refl w).alloc _ |>.alloc _ |>.alloc _ |>.alloc _ |>.drew).trans hb
  · have hv : quadAtV a b c i n = (0, 0) := by unfold quadAtV; rw [if_neg hm]
    rw [hv]
    clear hv
    have hmf : MayB [a, b, c] i n = false := by simpa using hm
    clear hm
    go_enter Tryz.func29, Tryz.ntmps29
    go_wp2_with fail
    go_region_held3 (fun w' => Ext ((((w.alloc (.cells #[.int .i64 a.1, .int .i64 a.2, .int .i64 b.1, .int .i64 b.2, .int .i64 c.1, .int .i64 c.2] 50)).alloc (.cells #[.int .i64 i] 3)).alloc (.cells #[.int .i64 n] 3)).alloc (.cells #[.int .i64 0, .int .i64 0] 49)) w') (first | assumption | exact Ext.drew (Ext.refl _) | (apply Ext.via; assumption; assumption))
      (first | (go_at_call 55; refine (may_len 3 w.heap.size 0 3 [a, b, c] i n _ rfl (by omega) (HP.out _ (by assumption))).mono ?_; rintro e w' ⟨rfl, hb⟩))
    go_wp2_with fail
    refine bodyPost_ret (v := .agg #[.int .i64 0, .int .i64 0]) ?_ rfl ⟨rfl, ?_⟩
    · simp [results, Tryz.results29, go_sem, *]
    · exact ((Ext.refl w).alloc _ |>.alloc _ |>.alloc _ |>.alloc _ |>.trans (by assumption)).setCell (by simp; omega) _ |>.setCell (by simp; omega) _
end Go.Proofs.YtllpkoinjompcaaGreat

namespace Go.Proofs.YtllpkoinjompcaaGreat
open Go.RowKit
attribute [local go_sem ↓] Go.wp_at_zero Go.wp_at_succ run_eql_point run_neq_point run_max_ii run_min_ii

def cv (i n a b c d : Int) : Int := nearV ((n - i) * (n - i) * (n - i) * a + 3 * i * (n - i) * (n - i) * b + 3 * i * i * (n - i) * c + i * i * i * d) (n * n * n)

end Go.Proofs.YtllpkoinjompcaaGreat

namespace Go.Proofs.YtllpkoinjompcaaGreat
open Go.RowKit
attribute [local go_sem ↓] Go.wp_at_zero Go.wp_at_succ run_eql_point run_neq_point run_max_ii run_min_ii

end Go.Proofs.YtllpkoinjompcaaGreat

namespace Go.Proofs.YtllpkoinjompcaaGreat
open Go.RowKit
attribute [local go_sem ↓] Go.wp_at_zero Go.wp_at_succ run_eql_point run_neq_point run_max_ii run_min_ii

theorem quad1_any (a b c : Int × Int) (i n : Int) (bp bn : Nat) (w : World) (h0 : w.cell? ⟨bp, 0, none⟩ = some (.int .i64 a.1)) (h1 : w.cell? ⟨bp, 1, none⟩ = some (.int .i64 a.2)) (h2 : w.cell? ⟨bp, 2, none⟩ = some (.int .i64 b.1))
    (h3 : w.cell? ⟨bp, 3, none⟩ = some (.int .i64 b.2)) (h4 : w.cell? ⟨bp, 4, none⟩ = some (.int .i64 c.1)) (h5 : w.cell? ⟨bp, 5, none⟩ = some (.int .i64 c.2)) (hn : w.cell? ⟨bn, 0, none⟩ = some (.int .i64 n)) :
    Calls Tryz.prog 54 #[.int .i64 i, .pointer (some ⟨bp, 0, none⟩), .pointer (some ⟨bn, 0, none⟩)] w fun e w' =>
      e = .returned (.agg #[.int .i64 (quadAtV a b c i n).1, .int .i64 (quadAtV a b c i n).2]) ∧ Ext w w' := by
  have g : ∀ w', Ext (w.alloc (.cells #[.int .i64 0, .int .i64 0] 49)) w' → w'.cell? ⟨w.heap.size, 0, none⟩ = some (.int .i64 0) ∧ w'.cell? ⟨w.heap.size, 1, none⟩ = some (.int .i64 0) ∧ w'.frozen? ⟨w.heap.size, 0, none⟩ = false ∧ w'.frozen? ⟨w.heap.size, 1, none⟩ = false := fun w' h =>
    ⟨h.get (by simp), h.get (by simp), (h.frozen (by simp)).trans (World.frozen?_alloc_at _ _ _ _ (by simp)), (h.frozen (by simp)).trans (World.frozen?_alloc_at _ _ _ _ (by simp))⟩
  have HG := zH g
  have q : ∀ p v, w.cell? p = some v → (w.alloc (.cells #[.int .i64 0, .int .i64 0] 49)).cell? p = some v := fun p v h => ((Ext.refl w).alloc _).get h
  have q0 := q _ _ h0
  have q1 := q _ _ h1
  have q2 := q _ _ h2
  have q3 := q _ _ h3
  have q4 := q _ _ h4
  have q5 := q _ _ h5
  have q6 := q _ _ hn
  clear g q
  go_enter Tryz.func54, Tryz.ntmps54
  go_wp2_with (first | (go_at_call 29; refine (quadAt_any a b c _ _ _).mono ?_; rintro e w' ⟨rfl, hb⟩; have gk := HG.out _ hb))
  refine bodyPost_ret (v := .agg #[.int .i64 (quadAtV a b c i n).1, .int .i64 (quadAtV a b c i n).2]) ?_ rfl ⟨rfl, ?_⟩
  · simp [results, Tryz.results54, go_sem, *]
  · exact Ext.setCell (Ext.setCell (((Ext.refl _).alloc _).trans (by assumption)) (by simp) _) (by simp) _
end Go.Proofs.YtllpkoinjompcaaGreat
