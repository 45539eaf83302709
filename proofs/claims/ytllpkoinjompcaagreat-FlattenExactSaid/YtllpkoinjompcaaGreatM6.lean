/- In order: The exact part of the reference's flatten: SplitCubic, Elevate. · The law's sameQuad, sameCubic. · Slices that a function makes by append, of elements that hold no digits (numbers, spans ..): the whole row is known to hold none, so the digits of all numbers stand behind every append. · Slices of rational numbers; the reference's Sum. · The reference's weighted: products of two slices of numbers, added up. -/
import Derived.Deep.AppendLies
import Derived.Test.YtllpkoinjompcaaGreatM5
namespace Go.Proofs.YtllpkoinjompcaaGreat
open Go.RowKit
attribute [local go_sem ↓] Go.wp_at_zero Go.wp_at_succ run_max_ii run_min_ii

set_option maxRecDepth 20000 in
set_option maxHeartbeats 8000000 in
theorem rsplitCubic_any (L : Nat) (cp ct : Array Value) (A0 A1 B0 B1 C0 C1 D0 D1 S : Rat) (w : World) (hP : C4In L w cp A0 A1 B0 B1 C0 C1 D0 D1) (hS : NIn L w ct S) (h1 : 1 ≤ L) (hL : L ≤ 45) :
    Calls Tryz.prog 12 #[.agg cp, .agg ct] w fun e w' => ∃ c1 c2, e = .returned (.tuple #[.agg c1, .agg c2]) ∧ C4Is w' c1 A0 A1 (lerpV A0 B0 S) (lerpV A1 B1 S) (lerpV (lerpV A0 B0 S) (lerpV B0 C0 S) S) (lerpV (lerpV A1 B1 S) (lerpV B1 C1 S) S) (lerpV (lerpV (lerpV A0 B0 S) (lerpV B0 C0 S) S) (lerpV (lerpV B0 C0 S) (lerpV C0 D0 S) S) S) (lerpV (lerpV (lerpV A1 B1 S) (lerpV B1 C1 S) S) (lerpV (lerpV B1 C1 S) (lerpV C1 D1 S) S) S) ∧ C4Is w' c2 (lerpV (lerpV (lerpV A0 B0 S) (lerpV B0 C0 S) S) (lerpV (lerpV B0 C0 S) (lerpV C0 D0 S) S) S) (lerpV (lerpV (lerpV A1 B1 S) (lerpV B1 C1 S) S) (lerpV (lerpV B1 C1 S) (lerpV C1 D1 S) S) S) (lerpV (lerpV B0 C0 S) (lerpV C0 D0 S) S) (lerpV (lerpV B1 C1 S) (lerpV C1 D1 S) S) (lerpV C0 D0 S) (lerpV C1 D1 S) D0 D1 ∧ Ext w w' := by
  have ZP := hP.size
  have ZS := hS.size
  have rS := hS.rl h1
  have ra0 : Nm.rl A0 ≤ L := by obtain ⟨_, _, _, _, _, _, _, _, _, h, _, _, _, _, _, _, _⟩ := hP; have := h.rl; omega
  have ra1 : Nm.rl A1 ≤ L := by obtain ⟨_, _, _, _, _, _, _, _, _, _, h, _, _, _, _, _, _⟩ := hP; have := h.rl; omega
  have rb0 : Nm.rl B0 ≤ L := by obtain ⟨_, _, _, _, _, _, _, _, _, _, _, h, _, _, _, _, _⟩ := hP; have := h.rl; omega
  have rb1 : Nm.rl B1 ≤ L := by obtain ⟨_, _, _, _, _, _, _, _, _, _, _, _, h, _, _, _, _⟩ := hP; have := h.rl; omega
  have rc0 : Nm.rl C0 ≤ L := by obtain ⟨_, _, _, _, _, _, _, _, _, _, _, _, _, h, _, _, _⟩ := hP; have := h.rl; omega
  have rc1 : Nm.rl C1 ≤ L := by obtain ⟨_, _, _, _, _, _, _, _, _, _, _, _, _, _, h, _, _⟩ := hP; have := h.rl; omega
  have rd0 : Nm.rl D0 ≤ L := by obtain ⟨_, _, _, _, _, _, _, _, _, _, _, _, _, _, _, h, _⟩ := hP; have := h.rl; omega
  have rd1 : Nm.rl D1 ≤ L := by obtain ⟨_, _, _, _, _, _, _, _, _, _, _, _, _, _, _, _, h⟩ := hP; have := h.rl; omega
  have l00 := rl_lerpV (a := A0) (b := B0) (t := S) (L := L) ra0 rb0 rS
  have l10 := rl_lerpV (a := B0) (b := C0) (t := S) (L := L) rb0 rc0 rS
  have l20 := rl_lerpV (a := C0) (b := D0) (t := S) (L := L) rc0 rd0 rS
  have m00 := rl_lerpV (a := (lerpV A0 B0 S)) (b := (lerpV B0 C0 S)) (t := S) (L := 4 * L + 2) l00 l10 (by omega)
  have m10 := rl_lerpV (a := (lerpV B0 C0 S)) (b := (lerpV C0 D0 S)) (t := S) (L := 4 * L + 2) l10 l20 (by omega)
  have l01 := rl_lerpV (a := A1) (b := B1) (t := S) (L := L) ra1 rb1 rS
  have l11 := rl_lerpV (a := B1) (b := C1) (t := S) (L := L) rb1 rc1 rS
  have l21 := rl_lerpV (a := C1) (b := D1) (t := S) (L := L) rc1 rd1 rS
  have m01 := rl_lerpV (a := (lerpV A1 B1 S)) (b := (lerpV B1 C1 S)) (t := S) (L := 4 * L + 2) l01 l11 (by omega)
  have m11 := rl_lerpV (a := (lerpV B1 C1 S)) (b := (lerpV C1 D1 S)) (t := S) (L := 4 * L + 2) l11 l21 (by omega)
  have FP := Lib.hid hP
  have FS := Lib.hid hS
  clear hP hS
  go_enter Tryz.func12, Tryz.ntmps12
  go_upto_region 1 with fail
  have hbx0 : Blk ((((w.alloc (.cells cp 28)).alloc (.cells ct 26)).alloc (.cells #[.bool false, .slice none 0 0, .bool false, .slice none 0 0, .bool false, .slice none 0 0, .bool false, .slice none 0 0, .bool false, .slice none 0 0, .bool false, .slice none 0 0, .bool false, .slice none 0 0, .bool false, .slice none 0 0, .bool false, .slice none 0 0, .bool false, .slice none 0 0, .bool false, .slice none 0 0, .bool false, .slice none 0 0, .bool false, .slice none 0 0, .bool false, .slice none 0 0, .bool false, .slice none 0 0, .bool false, .slice none 0 0] 28)).alloc (.cells #[.bool false, .slice none 0 0, .bool false, .slice none 0 0, .bool false, .slice none 0 0, .bool false, .slice none 0 0, .bool false, .slice none 0 0, .bool false, .slice none 0 0, .bool false, .slice none 0 0, .bool false, .slice none 0 0, .bool false, .slice none 0 0, .bool false, .slice none 0 0, .bool false, .slice none 0 0, .bool false, .slice none 0 0, .bool false, .slice none 0 0, .bool false, .slice none 0 0, .bool false, .slice none 0 0, .bool false, .slice none 0 0] 28)) (w.heap.size) 28 cp := Blk.ext (Blk.new_at w _ (by simp) _ _) ((((Ext.refl _).alloc _).alloc _).alloc _)
  have hbx1 : Blk ((((w.alloc (.cells cp 28)).alloc (.cells ct 26)).alloc (.cells #[.bool false, .slice none 0 0, .bool false, .slice none 0 0, .bool false, .slice none 0 0, .bool false, .slice none 0 0, .bool false, .slice none 0 0, .bool false, .slice none 0 0, .bool false, .slice none 0 0, .bool false, .slice none 0 0, .bool false, .slice none 0 0, .bool false, .slice none 0 0, .bool false, .slice none 0 0, .bool false, .slice none 0 0, .bool false, .slice none 0 0, .bool false, .slice none 0 0, .bool false, .slice none 0 0, .bool false, .slice none 0 0] 28)).alloc (.cells #[.bool false, .slice none 0 0, .bool false, .slice none 0 0, .bool false, .slice none 0 0, .bool false, .slice none 0 0, .bool false, .slice none 0 0, .bool false, .slice none 0 0, .bool false, .slice none 0 0, .bool false, .slice none 0 0, .bool false, .slice none 0 0, .bool false, .slice none 0 0, .bool false, .slice none 0 0, .bool false, .slice none 0 0, .bool false, .slice none 0 0, .bool false, .slice none 0 0, .bool false, .slice none 0 0, .bool false, .slice none 0 0] 28)) (w.heap.size + 1) 26 ct := Blk.ext (Blk.new_at (w.alloc (.cells cp 28)) _ (by simp) _ _) (((Ext.refl _).alloc _).alloc _)
  have hR0 : Blk ((((w.alloc (.cells cp 28)).alloc (.cells ct 26)).alloc (.cells #[.bool false, .slice none 0 0, .bool false, .slice none 0 0, .bool false, .slice none 0 0, .bool false, .slice none 0 0, .bool false, .slice none 0 0, .bool false, .slice none 0 0, .bool false, .slice none 0 0, .bool false, .slice none 0 0, .bool false, .slice none 0 0, .bool false, .slice none 0 0, .bool false, .slice none 0 0, .bool false, .slice none 0 0, .bool false, .slice none 0 0, .bool false, .slice none 0 0, .bool false, .slice none 0 0, .bool false, .slice none 0 0] 28)).alloc (.cells #[.bool false, .slice none 0 0, .bool false, .slice none 0 0, .bool false, .slice none 0 0, .bool false, .slice none 0 0, .bool false, .slice none 0 0, .bool false, .slice none 0 0, .bool false, .slice none 0 0, .bool false, .slice none 0 0, .bool false, .slice none 0 0, .bool false, .slice none 0 0, .bool false, .slice none 0 0, .bool false, .slice none 0 0, .bool false, .slice none 0 0, .bool false, .slice none 0 0, .bool false, .slice none 0 0, .bool false, .slice none 0 0] 28)) (w.heap.size + 1 + 1) 28 #[.bool false, .slice none 0 0, .bool false, .slice none 0 0, .bool false, .slice none 0 0, .bool false, .slice none 0 0, .bool false, .slice none 0 0, .bool false, .slice none 0 0, .bool false, .slice none 0 0, .bool false, .slice none 0 0, .bool false, .slice none 0 0, .bool false, .slice none 0 0, .bool false, .slice none 0 0, .bool false, .slice none 0 0, .bool false, .slice none 0 0, .bool false, .slice none 0 0, .bool false, .slice none 0 0, .bool false, .slice none 0 0] := Blk.ext (Blk.new_at ((w.alloc (.cells cp 28)).alloc (.cells ct 26)) _ (by simp) _ _) ((Ext.refl _).alloc _)
  have hR1 : Blk ((((w.alloc (.cells cp 28)).alloc (.cells ct 26)).alloc (.cells #[.bool false, .slice none 0 0, .bool false, .slice none 0 0, .bool false, .slice none 0 0, .bool false, .slice none 0 0, .bool false, .slice none 0 0, .bool false, .slice none 0 0, .bool false, .slice none 0 0, .bool false, .slice none 0 0, .bool false, .slice none 0 0, .bool false, .slice none 0 0, .bool false, .slice none 0 0, .bool false, .slice none 0 0, .bool false, .slice none 0 0, .bool false, .slice none 0 0, .bool false, .slice none 0 0, .bool false, .slice none 0 0] 28)).alloc (.cells #[.bool false, .slice none 0 0, .bool false, .slice none 0 0, .bool false, .slice none 0 0, .bool false, .slice none 0 0, .bool false, .slice none 0 0, .bool false, .slice none 0 0, .bool false, .slice none 0 0, .bool false, .slice none 0 0, .bool false, .slice none 0 0, .bool false, .slice none 0 0, .bool false, .slice none 0 0, .bool false, .slice none 0 0, .bool false, .slice none 0 0, .bool false, .slice none 0 0, .bool false, .slice none 0 0, .bool false, .slice none 0 0] 28)) (w.heap.size + 1 + 1 + 1) 28 #[.bool false, .slice none 0 0, .bool false, .slice none 0 0, .bool false, .slice none 0 0, .bool false, .slice none 0 0, .bool false, .slice none 0 0, .bool false, .slice none 0 0, .bool false, .slice none 0 0, .bool false, .slice none 0 0, .bool false, .slice none 0 0, .bool false, .slice none 0 0, .bool false, .slice none 0 0, .bool false, .slice none 0 0, .bool false, .slice none 0 0, .bool false, .slice none 0 0, .bool false, .slice none 0 0, .bool false, .slice none 0 0] := Blk.ext (Blk.new_at (((w.alloc (.cells cp 28)).alloc (.cells ct 26)).alloc (.cells #[.bool false, .slice none 0 0, .bool false, .slice none 0 0, .bool false, .slice none 0 0, .bool false, .slice none 0 0, .bool false, .slice none 0 0, .bool false, .slice none 0 0, .bool false, .slice none 0 0, .bool false, .slice none 0 0, .bool false, .slice none 0 0, .bool false, .slice none 0 0, .bool false, .slice none 0 0, .bool false, .slice none 0 0, .bool false, .slice none 0 0, .bool false, .slice none 0 0, .bool false, .slice none 0 0, .bool false, .slice none 0 0] 28)) _ (by simp) _ _) (Ext.refl _)
  have hE : Ext w ((((w.alloc (.cells cp 28)).alloc (.cells ct 26)).alloc (.cells #[.bool false, .slice none 0 0, .bool false, .slice none 0 0, .bool false, .slice none 0 0, .bool false, .slice none 0 0, .bool false, .slice none 0 0, .bool false, .slice none 0 0, .bool false, .slice none 0 0, .bool false, .slice none 0 0, .bool false, .slice none 0 0, .bool false, .slice none 0 0, .bool false, .slice none 0 0, .bool false, .slice none 0 0, .bool false, .slice none 0 0, .bool false, .slice none 0 0, .bool false, .slice none 0 0, .bool false, .slice none 0 0] 28)).alloc (.cells #[.bool false, .slice none 0 0, .bool false, .slice none 0 0, .bool false, .slice none 0 0, .bool false, .slice none 0 0, .bool false, .slice none 0 0, .bool false, .slice none 0 0, .bool false, .slice none 0 0, .bool false, .slice none 0 0, .bool false, .slice none 0 0, .bool false, .slice none 0 0, .bool false, .slice none 0 0, .bool false, .slice none 0 0, .bool false, .slice none 0 0, .bool false, .slice none 0 0, .bool false, .slice none 0 0, .bool false, .slice none 0 0] 28)) := (((((Ext.refl _).alloc _).alloc _).alloc _).alloc _)
  have gR0 : w.heap.size ≤ w.heap.size + 1 + 1 := by omega
  have nbx0_R0 : w.heap.size ≠ w.heap.size + 1 + 1 := by omega
  have nbx1_R0 : w.heap.size + 1 ≠ w.heap.size + 1 + 1 := by omega
  have nR1_R0 : w.heap.size + 1 + 1 + 1 ≠ w.heap.size + 1 + 1 := by omega
  have gR1 : w.heap.size ≤ w.heap.size + 1 + 1 + 1 := by omega
  have nbx0_R1 : w.heap.size ≠ w.heap.size + 1 + 1 + 1 := by omega
  have nbx1_R1 : w.heap.size + 1 ≠ w.heap.size + 1 + 1 + 1 := by omega
  have nR0_R1 : w.heap.size + 1 + 1 ≠ w.heap.size + 1 + 1 + 1 := by omega
  generalize ((((w.alloc (.cells cp 28)).alloc (.cells ct 26)).alloc (.cells #[.bool false, .slice none 0 0, .bool false, .slice none 0 0, .bool false, .slice none 0 0, .bool false, .slice none 0 0, .bool false, .slice none 0 0, .bool false, .slice none 0 0, .bool false, .slice none 0 0, .bool false, .slice none 0 0, .bool false, .slice none 0 0, .bool false, .slice none 0 0, .bool false, .slice none 0 0, .bool false, .slice none 0 0, .bool false, .slice none 0 0, .bool false, .slice none 0 0, .bool false, .slice none 0 0, .bool false, .slice none 0 0] 28)).alloc (.cells #[.bool false, .slice none 0 0, .bool false, .slice none 0 0, .bool false, .slice none 0 0, .bool false, .slice none 0 0, .bool false, .slice none 0 0, .bool false, .slice none 0 0, .bool false, .slice none 0 0, .bool false, .slice none 0 0, .bool false, .slice none 0 0, .bool false, .slice none 0 0, .bool false, .slice none 0 0, .bool false, .slice none 0 0, .bool false, .slice none 0 0, .bool false, .slice none 0 0, .bool false, .slice none 0 0, .bool false, .slice none 0 0] 28)) = wa at *
  generalize w.heap.size + 1 + 1 + 1 = R1 at *
  generalize w.heap.size + 1 + 1 = R0 at *
  generalize w.heap.size + 1 = bx1 at *
  have E1 := Lib.hid (show Ext w wa from hE)
  have Fbx0 := Lib.hid hbx0
  have Fbx1 := Lib.hid hbx1
  have FR0 := Lib.hid hR0
  have FR1 := Lib.hid hR1
  clear hE hbx0 hbx1 hR0 hR1
  refine wp_region_held_drew (S := fun x => Ext wa x) (by kernel_rfl) (Ext.refl _).drew (fun _ => ?_)
  have E2 := Lib.hid (show Ext wa wa.drew from (Ext.refl _).drew)
  refine md_val (i := 0) (v := ?vm1) (listed' := #[true, false, false, false, false, false, false, false, false, false, false, false, false, false, false, false, false, false, false, false, false, false, false, false]) (by rfl) (by kernel_rfl) (by kernel_rfl) (by kernel_rfl) (by intro _ _ _ h; exact h) (by rfl) ?hm1 E2.out (by kernel_rfl) ?rm1
  case hm1 => (intro w hSw; (try dsimp only at hSw); go_simp <;> with_reducible rfl)
  (try simp only [Act.put, List.setIfInBounds_toArray, List.set_cons_zero, List.set_cons_succ])
  refine md_part (i := 1) (listed' := #[true, true, false, false, false, false, false, false, false, false, false, false, false, false, false, false, false, false, false, false, false, false, false, false]) (by rfl) (by kernel_rfl) (by kernel_rfl) (by kernel_rfl) _ _ (by rfl) w.heap.size 0 8 _ cp _ (by intro _ _ _ h; exact h) (by rfl) (by rfl) (fun x hx => (Fbx0.out).ext hx) Tryz.underlying27 (by rfl) (by kernel_rfl) (by rw [show (cp : Array Value).size = 32 from ZP]; omega) E2.out (by kernel_rfl) ?_
  (try simp only [Act.put, List.setIfInBounds_toArray, List.set_cons_zero, List.set_cons_succ])
  refine md_val (i := 2) (v := ?vm2) (listed' := #[true, true, true, false, false, false, false, false, false, false, false, false, false, false, false, false, false, false, false, false, false, false, false, false]) (by rfl) (by kernel_rfl) (by kernel_rfl) (by kernel_rfl) (by intro _ _ _ h; exact h) (by rfl) ?hm2 E2.out (by kernel_rfl) ?rm2
  case hm2 => (intro w hSw; (try dsimp only at hSw); go_simp <;> with_reducible rfl)
  (try simp only [Act.put, List.setIfInBounds_toArray, List.set_cons_zero, List.set_cons_succ])
  refine md_part (i := 3) (listed' := #[true, true, true, true, false, false, false, false, false, false, false, false, false, false, false, false, false, false, false, false, false, false, false, false]) (by rfl) (by kernel_rfl) (by kernel_rfl) (by kernel_rfl) _ _ (by rfl) w.heap.size 8 8 _ cp _ (by intro _ _ _ h; exact h) (by rfl) (by rfl) (fun x hx => (Fbx0.out).ext hx) Tryz.underlying27 (by rfl) (by kernel_rfl) (by rw [show (cp : Array Value).size = 32 from ZP]; omega) E2.out (by kernel_rfl) ?_
  (try simp only [Act.put, List.setIfInBounds_toArray, List.set_cons_zero, List.set_cons_succ])
  refine md_load (i := 4) (listed' := #[true, true, true, true, true, false, false, false, false, false, false, false, false, false, false, false, false, false, false, false, false, false, false, false]) (by rfl) (by kernel_rfl) (by kernel_rfl) (by kernel_rfl) _ _ (by rfl) bx1 _ ct _ (by intro _ _ _ h; exact h) (by rfl) (by rfl) (fun x hx => (Fbx1.out).ext hx) Tryz.underlying26 (by rfl) (by rw [show (ct : Array Value).size = 4 from ZS]; kernel_rfl) E2.out (by kernel_rfl) ?_
  (try simp only [Act.put, List.setIfInBounds_toArray, List.set_cons_zero, List.set_cons_succ])
  refine md_val (i := 6) (v := ?vm3) (listed' := #[true, true, true, true, true, false, true, false, false, false, false, false, false, false, false, false, false, false, false, false, false, false, false, false]) (by rfl) (by kernel_rfl) (by kernel_rfl) (by kernel_rfl) (by intro _ _ _ h; exact h) (by rfl) ?hm3 E2.out (by kernel_rfl) ?rm3
  case hm3 => (intro w hSw; (try dsimp only at hSw); go_simp <;> with_reducible rfl)
  (try simp only [Act.put, List.setIfInBounds_toArray, List.set_cons_zero, List.set_cons_succ])
  refine md_part (i := 7) (listed' := #[true, true, true, true, true, false, true, true, false, false, false, false, false, false, false, false, false, false, false, false, false, false, false, false]) (by rfl) (by kernel_rfl) (by kernel_rfl) (by kernel_rfl) _ _ (by rfl) w.heap.size 8 8 _ cp _ (by intro _ _ _ h; exact h) (by rfl) (by rfl) (fun x hx => (Fbx0.out).ext hx) Tryz.underlying27 (by rfl) (by kernel_rfl) (by rw [show (cp : Array Value).size = 32 from ZP]; omega) E2.out (by kernel_rfl) ?_
  (try simp only [Act.put, List.setIfInBounds_toArray, List.set_cons_zero, List.set_cons_succ])
  refine md_val (i := 8) (v := ?vm4) (listed' := #[true, true, true, true, true, false, true, true, true, false, false, false, false, false, false, false, false, false, false, false, false, false, false, false]) (by rfl) (by kernel_rfl) (by kernel_rfl) (by kernel_rfl) (by intro _ _ _ h; exact h) (by rfl) ?hm4 E2.out (by kernel_rfl) ?rm4
  case hm4 => (intro w hSw; (try dsimp only at hSw); go_simp <;> with_reducible rfl)
  (try simp only [Act.put, List.setIfInBounds_toArray, List.set_cons_zero, List.set_cons_succ])
  refine md_part (i := 9) (listed' := #[true, true, true, true, true, false, true, true, true, true, false, false, false, false, false, false, false, false, false, false, false, false, false, false]) (by rfl) (by kernel_rfl) (by kernel_rfl) (by kernel_rfl) _ _ (by rfl) w.heap.size 16 8 _ cp _ (by intro _ _ _ h; exact h) (by rfl) (by rfl) (fun x hx => (Fbx0.out).ext hx) Tryz.underlying27 (by rfl) (by kernel_rfl) (by rw [show (cp : Array Value).size = 32 from ZP]; omega) E2.out (by kernel_rfl) ?_
  (try simp only [Act.put, List.setIfInBounds_toArray, List.set_cons_zero, List.set_cons_succ])
  refine md_load (i := 10) (listed' := #[true, true, true, true, true, false, true, true, true, true, true, false, false, false, false, false, false, false, false, false, false, false, false, false]) (by rfl) (by kernel_rfl) (by kernel_rfl) (by kernel_rfl) _ _ (by rfl) bx1 _ ct _ (by intro _ _ _ h; exact h) (by rfl) (by rfl) (fun x hx => (Fbx1.out).ext hx) Tryz.underlying26 (by rfl) (by rw [show (ct : Array Value).size = 4 from ZS]; kernel_rfl) E2.out (by kernel_rfl) ?_
  (try simp only [Act.put, List.setIfInBounds_toArray, List.set_cons_zero, List.set_cons_succ])
  refine md_val (i := 12) (v := ?vm5) (listed' := #[true, true, true, true, true, false, true, true, true, true, true, false, true, false, false, false, false, false, false, false, false, false, false, false]) (by rfl) (by kernel_rfl) (by kernel_rfl) (by kernel_rfl) (by intro _ _ _ h; exact h) (by rfl) ?hm5 E2.out (by kernel_rfl) ?rm5
  case hm5 => (intro w hSw; (try dsimp only at hSw); go_simp <;> with_reducible rfl)
  (try simp only [Act.put, List.setIfInBounds_toArray, List.set_cons_zero, List.set_cons_succ])
  refine md_part (i := 13) (listed' := #[true, true, true, true, true, false, true, true, true, true, true, false, true, true, false, false, false, false, false, false, false, false, false, false]) (by rfl) (by kernel_rfl) (by kernel_rfl) (by kernel_rfl) _ _ (by rfl) w.heap.size 16 8 _ cp _ (by intro _ _ _ h; exact h) (by rfl) (by rfl) (fun x hx => (Fbx0.out).ext hx) Tryz.underlying27 (by rfl) (by kernel_rfl) (by rw [show (cp : Array Value).size = 32 from ZP]; omega) E2.out (by kernel_rfl) ?_
  (try simp only [Act.put, List.setIfInBounds_toArray, List.set_cons_zero, List.set_cons_succ])
  refine md_val (i := 14) (v := ?vm6) (listed' := #[true, true, true, true, true, false, true, true, true, true, true, false, true, true, true, false, false, false, false, false, false, false, false, false]) (by rfl) (by kernel_rfl) (by kernel_rfl) (by kernel_rfl) (by intro _ _ _ h; exact h) (by rfl) ?hm6 E2.out (by kernel_rfl) ?rm6
  case hm6 => (intro w hSw; (try dsimp only at hSw); go_simp <;> with_reducible rfl)
  (try simp only [Act.put, List.setIfInBounds_toArray, List.set_cons_zero, List.set_cons_succ])
  refine md_part (i := 15) (listed' := #[true, true, true, true, true, false, true, true, true, true, true, false, true, true, true, true, false, false, false, false, false, false, false, false]) (by rfl) (by kernel_rfl) (by kernel_rfl) (by kernel_rfl) _ _ (by rfl) w.heap.size 24 8 _ cp _ (by intro _ _ _ h; exact h) (by rfl) (by rfl) (fun x hx => (Fbx0.out).ext hx) Tryz.underlying27 (by rfl) (by kernel_rfl) (by rw [show (cp : Array Value).size = 32 from ZP]; omega) E2.out (by kernel_rfl) ?_
  (try simp only [Act.put, List.setIfInBounds_toArray, List.set_cons_zero, List.set_cons_succ])
  refine md_load (i := 16) (listed' := #[true, true, true, true, true, false, true, true, true, true, true, false, true, true, true, true, true, false, false, false, false, false, false, false]) (by rfl) (by kernel_rfl) (by kernel_rfl) (by kernel_rfl) _ _ (by rfl) bx1 _ ct _ (by intro _ _ _ h; exact h) (by rfl) (by rfl) (fun x hx => (Fbx1.out).ext hx) Tryz.underlying26 (by rfl) (by rw [show (ct : Array Value).size = 4 from ZS]; kernel_rfl) E2.out (by kernel_rfl) ?_
  (try simp only [Act.put, List.setIfInBounds_toArray, List.set_cons_zero, List.set_cons_succ])
  refine tuple3 (f := 3) 5 11 17 18 19 20 17 23 29 6 7 8 27 #[.bool false, .slice none 0 0, .bool false, .slice none 0 0, .bool false, .slice none 0 0, .bool false, .slice none 0 0] (fun v w => ∃ c, v = .agg c ∧ PtIs w c (lerpV A0 B0 S) (lerpV A1 B1 S)) (fun v w => ∃ c, v = .agg c ∧ PtIs w c (lerpV B0 C0 S) (lerpV B1 C1 S)) (fun v w => ∃ c, v = .agg c ∧ PtIs w c (lerpV C0 D0 S) (lerpV C1 D1 S)) rfl rfl rfl rfl rfl rfl (by decide) (by decide) (by kernel_rfl) (fun _ hx => E2.out.trans hx) (fun _ _ _ h e => by obtain ⟨c, h1, h2⟩ := h; exact ⟨c, h1, h2.ext e⟩) (fun _ _ _ h e => by obtain ⟨c, h1, h2⟩ := h; exact ⟨c, h1, h2.ext e⟩) (fun _ _ _ h e => by obtain ⟨c, h1, h2⟩ := h; exact ⟨c, h1, h2.ext e⟩) ?hm7c1 ?hm7c2 ?hm7c3 ?hm7c4 ?hm7c5 ?hm7c6 ?hm7e undef undef undef undef undef undef (by kernel_rfl) rfl
  case hm7c1 =>
    intro v1 v2 v3 v4 v5 v6 w1 K hx hSw hK
    (try simp only [Act.put, List.setIfInBounds_toArray, List.set_cons_zero, List.set_cons_succ])
    rw [if_pos (by rfl)]
    refine wp_call_op (by go_simp) (rbetween_any L _ _ _ _ _ _ _ _ _ ((FP.out.ext E1.out).ext hSw).p0 ((FP.out.ext E1.out).ext hSw).p1 ((FS.out.ext E1.out).ext hSw) h1 (by omega)) ?_
    rintro e w' ⟨c, rfl, hc, he⟩
    refine ⟨_, rfl, ?_⟩
    have hk := hK.out _ _ ⟨_, rfl, hc⟩ he
    (try simp only [Act.put, List.setIfInBounds_toArray, List.set_cons_zero, List.set_cons_succ])
    simp only [Act.put, List.setIfInBounds_toArray, List.set_cons_zero, List.set_cons_succ] at hk
    exact hk
  case hm7c2 =>
    intro v1 v2 v3 v4 v5 v6 w1 K hx hSw hK
    (try simp only [Act.put, List.setIfInBounds_toArray, List.set_cons_zero, List.set_cons_succ])
    rw [if_pos (by rfl)]
    refine wp_call_op (by go_simp) (rbetween_any L _ _ _ _ _ _ _ _ _ ((FP.out.ext E1.out).ext hSw).p1 ((FP.out.ext E1.out).ext hSw).p2 ((FS.out.ext E1.out).ext hSw) h1 (by omega)) ?_
    rintro e w' ⟨c, rfl, hc, he⟩
    refine ⟨_, rfl, ?_⟩
    have hk := hK.out _ _ ⟨_, rfl, hc⟩ he
    (try simp only [Act.put, List.setIfInBounds_toArray, List.set_cons_zero, List.set_cons_succ])
    simp only [Act.put, List.setIfInBounds_toArray, List.set_cons_zero, List.set_cons_succ] at hk
    exact hk
  case hm7c3 =>
    intro v1 v2 v3 v4 v5 v6 w1 K hx hSw hK
    (try simp only [Act.put, List.setIfInBounds_toArray, List.set_cons_zero, List.set_cons_succ])
    rw [if_pos (by rfl)]
    refine wp_call_op (by go_simp) (rbetween_any L _ _ _ _ _ _ _ _ _ ((FP.out.ext E1.out).ext hSw).p2 ((FP.out.ext E1.out).ext hSw).p3 ((FS.out.ext E1.out).ext hSw) h1 (by omega)) ?_
    rintro e w' ⟨c, rfl, hc, he⟩
    refine ⟨_, rfl, ?_⟩
    have hk := hK.out _ _ ⟨_, rfl, hc⟩ he
    (try simp only [Act.put, List.setIfInBounds_toArray, List.set_cons_zero, List.set_cons_succ])
    simp only [Act.put, List.setIfInBounds_toArray, List.set_cons_zero, List.set_cons_succ] at hk
    exact hk
  case hm7c4 =>
    intro v1 v2 v3 v4 v5 v6 w1 K hx hSw hK
    (try simp only [Act.put, List.setIfInBounds_toArray, List.set_cons_zero, List.set_cons_succ])
    go_simp
    have hk := hK.out
    simp only [Act.put, List.setIfInBounds_toArray, List.set_cons_zero, List.set_cons_succ] at hk
    exact hk
  case hm7c5 =>
    intro v1 v2 v3 v4 v5 v6 w1 K hx hSw hK
    (try simp only [Act.put, List.setIfInBounds_toArray, List.set_cons_zero, List.set_cons_succ])
    go_simp
    have hk := hK.out
    simp only [Act.put, List.setIfInBounds_toArray, List.set_cons_zero, List.set_cons_succ] at hk
    exact hk
  case hm7c6 =>
    intro v1 v2 v3 v4 v5 v6 w1 K hx hSw hK
    (try simp only [Act.put, List.setIfInBounds_toArray, List.set_cons_zero, List.set_cons_succ])
    go_simp
    have hk := hK.out
    simp only [Act.put, List.setIfInBounds_toArray, List.set_cons_zero, List.set_cons_succ] at hk
    exact hk
  case hm7e =>
    intro v1 v2 v3 Xm71 Xm72 Xm73 wqm7 hx hSw xp1 xp2 xp3 xb1 xb2 xb3 xz1 xz2 xz3 n12 n13 n23
    obtain ⟨_, rfl, e0, e1, rfl, ie0, ie1⟩ := xp1
    obtain ⟨_, rfl, f0, f1, rfl, if0, if1⟩ := xp2
    obtain ⟨_, rfl, k0, k1, rfl, ik0, ik1⟩ := xp3
    (try simp only [Act.put, List.setIfInBounds_toArray, List.set_cons_zero, List.set_cons_succ])
    have hy : Ext wa wqm7 := hSw
    obtain ⟨xk2, xk3, xex, xr1, xr2, xr3, xe1, xe2, xfm⟩ := stored_three (zs := #[.bool false, .slice none 0 0, .bool false, .slice none 0 0, .bool false, .slice none 0 0, .bool false, .slice none 0 0]) (c1 := #[.bool e0.n, .slice e0.p e0.l e0.c, .bool e0.m, .slice e0.p2 e0.l2 e0.c2, .bool e1.n, .slice e1.p e1.l e1.c, .bool e1.m, .slice e1.p2 e1.l2 e1.c2]) (c2 := #[.bool f0.n, .slice f0.p f0.l f0.c, .bool f0.m, .slice f0.p2 f0.l2 f0.c2, .bool f1.n, .slice f1.p f1.l f1.c, .bool f1.m, .slice f1.p2 f1.l2 f1.c2]) (c3 := #[.bool k0.n, .slice k0.p k0.l k0.c, .bool k0.m, .slice k0.p2 k0.l2 k0.c2, .bool k1.n, .slice k1.p k1.l k1.c, .bool k1.m, .slice k1.p2 k1.l2 k1.c2]) (noU_of _ (by simp)) hy xb1 xb2 xb3 xz1 xz2 xz3 n12 n13 n23 rfl rfl rfl
    refine md_store (i := 21) (listed' := #[true, true, true, true, true, true, true, true, true, true, true, true, true, true, true, true, true, true, true, true, true, true, false, false]) (by rfl) (by kernel_rfl) (by rfl) _ _ _ (by rfl) Xm71 _ #[.bool false, .slice none 0 0, .bool false, .slice none 0 0, .bool false, .slice none 0 0, .bool false, .slice none 0 0] #[.bool e0.n, .slice e0.p e0.l e0.c, .bool e0.m, .slice e0.p2 e0.l2 e0.c2, .bool e1.n, .slice e1.p e1.l e1.c, .bool e1.m, .slice e1.p2 e1.l2 e1.c2] (by rfl) (by rfl) xb1 rfl (by kernel_rfl) (all_oneCell_toArray (by simp [Value.oneCell'])) xe1 (by kernel_rfl) ?_
    (try simp only [Act.put, List.setIfInBounds_toArray, List.set_cons_zero, List.set_cons_succ])
    refine md_store (i := 22) (listed' := #[true, true, true, true, true, true, true, true, true, true, true, true, true, true, true, true, true, true, true, true, true, true, true, false]) (by rfl) (by kernel_rfl) (by rfl) _ _ _ (by rfl) Xm72 _ #[.bool false, .slice none 0 0, .bool false, .slice none 0 0, .bool false, .slice none 0 0, .bool false, .slice none 0 0] #[.bool f0.n, .slice f0.p f0.l f0.c, .bool f0.m, .slice f0.p2 f0.l2 f0.c2, .bool f1.n, .slice f1.p f1.l f1.c, .bool f1.m, .slice f1.p2 f1.l2 f1.c2] (by rfl) (by rfl) xk2 rfl (by kernel_rfl) (all_oneCell_toArray (by simp [Value.oneCell'])) xe2 (by kernel_rfl) ?_
    (try simp only [Act.put, List.setIfInBounds_toArray, List.set_cons_zero, List.set_cons_succ])
    refine md_store (i := 23) (listed' := #[true, true, true, true, true, true, true, true, true, true, true, true, true, true, true, true, true, true, true, true, true, true, true, true]) (by rfl) (by kernel_rfl) (by rfl) _ _ _ (by rfl) Xm73 _ #[.bool false, .slice none 0 0, .bool false, .slice none 0 0, .bool false, .slice none 0 0, .bool false, .slice none 0 0] #[.bool k0.n, .slice k0.p k0.l k0.c, .bool k0.m, .slice k0.p2 k0.l2 k0.c2, .bool k1.n, .slice k1.p k1.l k1.c, .bool k1.m, .slice k1.p2 k1.l2 k1.c2] (by rfl) (by rfl) xk3 rfl (by kernel_rfl) (all_oneCell_toArray (by simp [Value.oneCell'])) xex (by kernel_rfl) ?_
    (try simp only [Act.put, List.setIfInBounds_toArray, List.set_cons_zero, List.set_cons_succ])
    refine wpAnyH_done (by kernel_rfl) ?_ _
    have je0 := xfm _ _ ie0
    have je1 := xfm _ _ ie1
    have nbA_R0 : Xm71 ≠ R0 := by have h9 := Blk.lt FR0.out; have h8 : wa.heap.size ≤ Xm71 := xz1; omega
    have nbA_R1 : Xm71 ≠ R1 := by have h9 := Blk.lt FR1.out; have h8 : wa.heap.size ≤ Xm71 := xz1; omega
    have jf0 := xfm _ _ if0
    have jf1 := xfm _ _ if1
    have nbB_R0 : Xm72 ≠ R0 := by have h9 := Blk.lt FR0.out; have h8 : wa.heap.size ≤ Xm72 := xz2; omega
    have nbB_R1 : Xm72 ≠ R1 := by have h9 := Blk.lt FR1.out; have h8 : wa.heap.size ≤ Xm72 := xz2; omega
    have jk0 := xfm _ _ ik0
    have jk1 := xfm _ _ ik1
    have nbC_R0 : Xm73 ≠ R0 := by have h9 := Blk.lt FR0.out; have h8 : wa.heap.size ≤ Xm73 := xz3; omega
    have nbC_R1 : Xm73 ≠ R1 := by have h9 := Blk.lt FR1.out; have h8 : wa.heap.size ≤ Xm73 := xz3; omega
    clear xb1 xb2 xb3 xfm hx hy hSw xk2 xk3 xe1 xe2 ie0 ie1 if0 if1 ik0 ik1
    generalize (((wqm7.setCells Xm71 0 (#[.bool e0.n, .slice e0.p e0.l e0.c, .bool e0.m, .slice e0.p2 e0.l2 e0.c2, .bool e1.n, .slice e1.p e1.l e1.c, .bool e1.m, .slice e1.p2 e1.l2 e1.c2] : Array Value).toList).setCells Xm72 0 (#[.bool f0.n, .slice f0.p f0.l f0.c, .bool f0.m, .slice f0.p2 f0.l2 f0.c2, .bool f1.n, .slice f1.p f1.l f1.c, .bool f1.m, .slice f1.p2 f1.l2 f1.c2] : Array Value).toList).setCells Xm73 0 (#[.bool k0.n, .slice k0.p k0.l k0.c, .bool k0.m, .slice k0.p2 k0.l2 k0.c2, .bool k1.n, .slice k1.p k1.l k1.c, .bool k1.m, .slice k1.p2 k1.l2 k1.c2] : Array Value).toList) = wsm7 at *
    have E2 := Lib.hid (show Ext wa wsm7 from xex)
    have FbA := Lib.hid xr1
    have Fe0 := Lib.hid je0
    have Fe1 := Lib.hid je1
    have FbB := Lib.hid xr2
    have Ff0 := Lib.hid jf0
    have Ff1 := Lib.hid jf1
    have FbC := Lib.hid xr3
    have Fk0 := Lib.hid jk0
    have Fk1 := Lib.hid jk1
    clear xex xr1 je0 je1 xr2 jf0 jf1 xr3 jk0 jk1
    go_upto_region 2 with fail
    refine wp_region_held_drew (S := fun x => Ext wsm7 x) (by kernel_rfl) (Ext.refl _).drew (fun _ => ?_)
    have E3 := Lib.hid (show Ext wsm7 wsm7.drew from (Ext.refl _).drew)
    refine md_load (i := 0) (listed' := #[true, false, false, false, false, false, false, false, false, false, false, false]) (by rfl) (by kernel_rfl) (by kernel_rfl) (by kernel_rfl) _ _ (by rfl) Xm71 _ #[.bool e0.n, .slice e0.p e0.l e0.c, .bool e0.m, .slice e0.p2 e0.l2 e0.c2, .bool e1.n, .slice e1.p e1.l e1.c, .bool e1.m, .slice e1.p2 e1.l2 e1.c2] _ (by intro _ _ _ h; exact h) (by rfl) (by rfl) (fun x hx => (FbA.out).ext hx) Tryz.underlying27 (by rfl) (by rw [show (#[.bool e0.n, .slice e0.p e0.l e0.c, .bool e0.m, .slice e0.p2 e0.l2 e0.c2, .bool e1.n, .slice e1.p e1.l e1.c, .bool e1.m, .slice e1.p2 e1.l2 e1.c2] : Array Value).size = 8 from rfl]; kernel_rfl) E3.out (by kernel_rfl) ?_
    (try simp only [Act.put, List.setIfInBounds_toArray, List.set_cons_zero, List.set_cons_succ])
    refine md_load (i := 1) (listed' := #[true, true, false, false, false, false, false, false, false, false, false, false]) (by rfl) (by kernel_rfl) (by kernel_rfl) (by kernel_rfl) _ _ (by rfl) Xm72 _ #[.bool f0.n, .slice f0.p f0.l f0.c, .bool f0.m, .slice f0.p2 f0.l2 f0.c2, .bool f1.n, .slice f1.p f1.l f1.c, .bool f1.m, .slice f1.p2 f1.l2 f1.c2] _ (by intro _ _ _ h; exact h) (by rfl) (by rfl) (fun x hx => (FbB.out).ext hx) Tryz.underlying27 (by rfl) (by rw [show (#[.bool f0.n, .slice f0.p f0.l f0.c, .bool f0.m, .slice f0.p2 f0.l2 f0.c2, .bool f1.n, .slice f1.p f1.l f1.c, .bool f1.m, .slice f1.p2 f1.l2 f1.c2] : Array Value).size = 8 from rfl]; kernel_rfl) E3.out (by kernel_rfl) ?_
    (try simp only [Act.put, List.setIfInBounds_toArray, List.set_cons_zero, List.set_cons_succ])
    refine md_load (i := 2) (listed' := #[true, true, true, false, false, false, false, false, false, false, false, false]) (by rfl) (by kernel_rfl) (by kernel_rfl) (by kernel_rfl) _ _ (by rfl) bx1 _ ct _ (by intro _ _ _ h; exact h) (by rfl) (by rfl) (fun x hx => ((Fbx1.out.ext E2.out)).ext hx) Tryz.underlying26 (by rfl) (by rw [show (ct : Array Value).size = 4 from ZS]; kernel_rfl) E3.out (by kernel_rfl) ?_
    (try simp only [Act.put, List.setIfInBounds_toArray, List.set_cons_zero, List.set_cons_succ])
    refine md_load (i := 4) (listed' := #[true, true, true, false, true, false, false, false, false, false, false, false]) (by rfl) (by kernel_rfl) (by kernel_rfl) (by kernel_rfl) _ _ (by rfl) Xm72 _ #[.bool f0.n, .slice f0.p f0.l f0.c, .bool f0.m, .slice f0.p2 f0.l2 f0.c2, .bool f1.n, .slice f1.p f1.l f1.c, .bool f1.m, .slice f1.p2 f1.l2 f1.c2] _ (by intro _ _ _ h; exact h) (by rfl) (by rfl) (fun x hx => (FbB.out).ext hx) Tryz.underlying27 (by rfl) (by rw [show (#[.bool f0.n, .slice f0.p f0.l f0.c, .bool f0.m, .slice f0.p2 f0.l2 f0.c2, .bool f1.n, .slice f1.p f1.l f1.c, .bool f1.m, .slice f1.p2 f1.l2 f1.c2] : Array Value).size = 8 from rfl]; kernel_rfl) E3.out (by kernel_rfl) ?_
    (try simp only [Act.put, List.setIfInBounds_toArray, List.set_cons_zero, List.set_cons_succ])
    refine md_load (i := 5) (listed' := #[true, true, true, false, true, true, false, false, false, false, false, false]) (by rfl) (by kernel_rfl) (by kernel_rfl) (by kernel_rfl) _ _ (by rfl) Xm73 _ #[.bool k0.n, .slice k0.p k0.l k0.c, .bool k0.m, .slice k0.p2 k0.l2 k0.c2, .bool k1.n, .slice k1.p k1.l k1.c, .bool k1.m, .slice k1.p2 k1.l2 k1.c2] _ (by intro _ _ _ h; exact h) (by rfl) (by rfl) (fun x hx => (FbC.out).ext hx) Tryz.underlying27 (by rfl) (by rw [show (#[.bool k0.n, .slice k0.p k0.l k0.c, .bool k0.m, .slice k0.p2 k0.l2 k0.c2, .bool k1.n, .slice k1.p k1.l k1.c, .bool k1.m, .slice k1.p2 k1.l2 k1.c2] : Array Value).size = 8 from rfl]; kernel_rfl) E3.out (by kernel_rfl) ?_
    (try simp only [Act.put, List.setIfInBounds_toArray, List.set_cons_zero, List.set_cons_succ])
    refine md_load (i := 6) (listed' := #[true, true, true, false, true, true, true, false, false, false, false, false]) (by rfl) (by kernel_rfl) (by kernel_rfl) (by kernel_rfl) _ _ (by rfl) bx1 _ ct _ (by intro _ _ _ h; exact h) (by rfl) (by rfl) (fun x hx => ((Fbx1.out.ext E2.out)).ext hx) Tryz.underlying26 (by rfl) (by rw [show (ct : Array Value).size = 4 from ZS]; kernel_rfl) E3.out (by kernel_rfl) ?_
    (try simp only [Act.put, List.setIfInBounds_toArray, List.set_cons_zero, List.set_cons_succ])
    refine tuple2 (f := 2) 3 7 8 9 33 37 9 10 27 #[.bool false, .slice none 0 0, .bool false, .slice none 0 0, .bool false, .slice none 0 0, .bool false, .slice none 0 0] (fun v w => ∃ c, v = .agg c ∧ PtIs w c (lerpV (lerpV A0 B0 S) (lerpV B0 C0 S) S) (lerpV (lerpV A1 B1 S) (lerpV B1 C1 S) S)) (fun v w => ∃ c, v = .agg c ∧ PtIs w c (lerpV (lerpV B0 C0 S) (lerpV C0 D0 S) S) (lerpV (lerpV B1 C1 S) (lerpV C1 D1 S) S)) rfl rfl rfl rfl (by decide) (by decide) (by kernel_rfl) (fun _ hx => E3.out.trans hx) (fun _ _ _ h e => by obtain ⟨c, h1, h2⟩ := h; exact ⟨c, h1, h2.ext e⟩) (fun _ _ _ h e => by obtain ⟨c, h1, h2⟩ := h; exact ⟨c, h1, h2.ext e⟩) ?hm8c1 ?hm8c2 ?hm8c3 ?hm8c4 ?hm8e undef undef undef undef (by kernel_rfl) rfl
    case hm8c1 =>
      intro v1 v2 v3 v4 w1 K hx hSw hK
      (try simp only [Act.put, List.setIfInBounds_toArray, List.set_cons_zero, List.set_cons_succ])
      rw [if_pos (by rfl)]
      refine wp_call_op (by go_simp) (rbetween_any (4 * L + 2) _ _ _ _ _ _ _ _ _ (⟨e0, e1, rfl, (Fe0.out.ext hSw).isIn l00, (Fe1.out.ext hSw).isIn l01⟩ : PtIn (4 * L + 2) _ _ _ _) (⟨f0, f1, rfl, (Ff0.out.ext hSw).isIn l10, (Ff1.out.ext hSw).isIn l11⟩ : PtIn (4 * L + 2) _ _ _ _) (((FS.out.ext (E1.out.trans E2.out)).ext hSw).mono (by omega)) (by omega) (by omega)) ?_
      rintro e w' ⟨c, rfl, hc, he⟩
      refine ⟨_, rfl, ?_⟩
      have hk := hK.out _ _ ⟨_, rfl, hc⟩ he
      (try simp only [Act.put, List.setIfInBounds_toArray, List.set_cons_zero, List.set_cons_succ])
      simp only [Act.put, List.setIfInBounds_toArray, List.set_cons_zero, List.set_cons_succ] at hk
      exact hk
    case hm8c2 =>
      intro v1 v2 v3 v4 w1 K hx hSw hK
      (try simp only [Act.put, List.setIfInBounds_toArray, List.set_cons_zero, List.set_cons_succ])
      rw [if_pos (by rfl)]
      refine wp_call_op (by go_simp) (rbetween_any (4 * L + 2) _ _ _ _ _ _ _ _ _ (⟨f0, f1, rfl, (Ff0.out.ext hSw).isIn l10, (Ff1.out.ext hSw).isIn l11⟩ : PtIn (4 * L + 2) _ _ _ _) (⟨k0, k1, rfl, (Fk0.out.ext hSw).isIn l20, (Fk1.out.ext hSw).isIn l21⟩ : PtIn (4 * L + 2) _ _ _ _) (((FS.out.ext (E1.out.trans E2.out)).ext hSw).mono (by omega)) (by omega) (by omega)) ?_
      rintro e w' ⟨c, rfl, hc, he⟩
      refine ⟨_, rfl, ?_⟩
      have hk := hK.out _ _ ⟨_, rfl, hc⟩ he
      (try simp only [Act.put, List.setIfInBounds_toArray, List.set_cons_zero, List.set_cons_succ])
      simp only [Act.put, List.setIfInBounds_toArray, List.set_cons_zero, List.set_cons_succ] at hk
      exact hk
    case hm8c3 =>
      intro v1 v2 v3 v4 w1 K hx hSw hK
      (try simp only [Act.put, List.setIfInBounds_toArray, List.set_cons_zero, List.set_cons_succ])
      go_simp
      have hk := hK.out
      simp only [Act.put, List.setIfInBounds_toArray, List.set_cons_zero, List.set_cons_succ] at hk
      exact hk
    case hm8c4 =>
      intro v1 v2 v3 v4 w1 K hx hSw hK
      (try simp only [Act.put, List.setIfInBounds_toArray, List.set_cons_zero, List.set_cons_succ])
      go_simp
      have hk := hK.out
      simp only [Act.put, List.setIfInBounds_toArray, List.set_cons_zero, List.set_cons_succ] at hk
      exact hk
    case hm8e =>
      intro v1 v2 Xm81 Xm82 wqm8 hx hSw xp1 xp2 xb1 xb2 xz1 xz2 n12
      obtain ⟨_, rfl, g0, g1, rfl, ig0, ig1⟩ := xp1
      obtain ⟨_, rfl, i0, i1, rfl, ii0, ii1⟩ := xp2
      (try simp only [Act.put, List.setIfInBounds_toArray, List.set_cons_zero, List.set_cons_succ])
      have hy : Ext wsm7 wqm8 := hSw
      obtain ⟨xk2, xex, xr1, xr2, xe1, xfm⟩ := stored_two (zs := #[.bool false, .slice none 0 0, .bool false, .slice none 0 0, .bool false, .slice none 0 0, .bool false, .slice none 0 0]) (c1 := #[.bool g0.n, .slice g0.p g0.l g0.c, .bool g0.m, .slice g0.p2 g0.l2 g0.c2, .bool g1.n, .slice g1.p g1.l g1.c, .bool g1.m, .slice g1.p2 g1.l2 g1.c2]) (c2 := #[.bool i0.n, .slice i0.p i0.l i0.c, .bool i0.m, .slice i0.p2 i0.l2 i0.c2, .bool i1.n, .slice i1.p i1.l i1.c, .bool i1.m, .slice i1.p2 i1.l2 i1.c2]) (noU_of _ (by simp)) hy xb1 xb2 xz1 xz2 n12 rfl rfl
      refine md_store (i := 10) (listed' := #[true, true, true, true, true, true, true, true, true, true, true, false]) (by rfl) (by kernel_rfl) (by rfl) _ _ _ (by rfl) Xm81 _ #[.bool false, .slice none 0 0, .bool false, .slice none 0 0, .bool false, .slice none 0 0, .bool false, .slice none 0 0] #[.bool g0.n, .slice g0.p g0.l g0.c, .bool g0.m, .slice g0.p2 g0.l2 g0.c2, .bool g1.n, .slice g1.p g1.l g1.c, .bool g1.m, .slice g1.p2 g1.l2 g1.c2] (by rfl) (by rfl) xb1 rfl (by kernel_rfl) (all_oneCell_toArray (by simp [Value.oneCell'])) xe1 (by kernel_rfl) ?_
      (try simp only [Act.put, List.setIfInBounds_toArray, List.set_cons_zero, List.set_cons_succ])
      refine md_store (i := 11) (listed' := #[true, true, true, true, true, true, true, true, true, true, true, true]) (by rfl) (by kernel_rfl) (by rfl) _ _ _ (by rfl) Xm82 _ #[.bool false, .slice none 0 0, .bool false, .slice none 0 0, .bool false, .slice none 0 0, .bool false, .slice none 0 0] #[.bool i0.n, .slice i0.p i0.l i0.c, .bool i0.m, .slice i0.p2 i0.l2 i0.c2, .bool i1.n, .slice i1.p i1.l i1.c, .bool i1.m, .slice i1.p2 i1.l2 i1.c2] (by rfl) (by rfl) xk2 rfl (by kernel_rfl) (all_oneCell_toArray (by simp [Value.oneCell'])) xex (by kernel_rfl) ?_
      (try simp only [Act.put, List.setIfInBounds_toArray, List.set_cons_zero, List.set_cons_succ])
      refine wpAnyH_done (by kernel_rfl) ?_ _
      have jg0 := xfm _ _ ig0
      have jg1 := xfm _ _ ig1
      have nbD_R0 : Xm81 ≠ R0 := by have h9 := Blk.lt (FR0.out.ext E2.out); have h8 : wsm7.heap.size ≤ Xm81 := xz1; omega
      have nbD_R1 : Xm81 ≠ R1 := by have h9 := Blk.lt (FR1.out.ext E2.out); have h8 : wsm7.heap.size ≤ Xm81 := xz1; omega
      have ji0 := xfm _ _ ii0
      have ji1 := xfm _ _ ii1
      have nbE_R0 : Xm82 ≠ R0 := by have h9 := Blk.lt (FR0.out.ext E2.out); have h8 : wsm7.heap.size ≤ Xm82 := xz2; omega
      have nbE_R1 : Xm82 ≠ R1 := by have h9 := Blk.lt (FR1.out.ext E2.out); have h8 : wsm7.heap.size ≤ Xm82 := xz2; omega
      clear xb1 xb2 xfm hx hy hSw xk2 xe1 ig0 ig1 ii0 ii1
      generalize ((wqm8.setCells Xm81 0 (#[.bool g0.n, .slice g0.p g0.l g0.c, .bool g0.m, .slice g0.p2 g0.l2 g0.c2, .bool g1.n, .slice g1.p g1.l g1.c, .bool g1.m, .slice g1.p2 g1.l2 g1.c2] : Array Value).toList).setCells Xm82 0 (#[.bool i0.n, .slice i0.p i0.l i0.c, .bool i0.m, .slice i0.p2 i0.l2 i0.c2, .bool i1.n, .slice i1.p i1.l i1.c, .bool i1.m, .slice i1.p2 i1.l2 i1.c2] : Array Value).toList) = wsm8 at *
      have E3 := Lib.hid (show Ext wsm7 wsm8 from xex)
      have FbD := Lib.hid xr1
      have Fg0 := Lib.hid jg0
      have Fg1 := Lib.hid jg1
      have FbE := Lib.hid xr2
      have Fi0 := Lib.hid ji0
      have Fi1 := Lib.hid ji1
      clear xex xr1 jg0 jg1 xr2 ji0 ji1
      go_upto_region 3 with fail
      refine wp_region_lit ?_
      refine mv_load (by rfl) _ _ (by rfl) Xm81 _ #[.bool g0.n, .slice g0.p g0.l g0.c, .bool g0.m, .slice g0.p2 g0.l2 g0.c2, .bool g1.n, .slice g1.p g1.l g1.c, .bool g1.m, .slice g1.p2 g1.l2 g1.c2] _ (by rfl) FbD.out Tryz.underlying27 (by rfl) (by rw [show (#[.bool g0.n, .slice g0.p g0.l g0.c, .bool g0.m, .slice g0.p2 g0.l2 g0.c2, .bool g1.n, .slice g1.p g1.l g1.c, .bool g1.m, .slice g1.p2 g1.l2 g1.c2] : Array Value).size = 8 from rfl]; kernel_rfl) ?_
      (try simp only [Act.put, List.setIfInBounds_toArray, List.set_cons_zero, List.set_cons_succ])
      refine mv_load (by rfl) _ _ (by rfl) Xm82 _ #[.bool i0.n, .slice i0.p i0.l i0.c, .bool i0.m, .slice i0.p2 i0.l2 i0.c2, .bool i1.n, .slice i1.p i1.l i1.c, .bool i1.m, .slice i1.p2 i1.l2 i1.c2] _ (by rfl) FbE.out Tryz.underlying27 (by rfl) (by rw [show (#[.bool i0.n, .slice i0.p i0.l i0.c, .bool i0.m, .slice i0.p2 i0.l2 i0.c2, .bool i1.n, .slice i1.p i1.l i1.c, .bool i1.m, .slice i1.p2 i1.l2 i1.c2] : Array Value).size = 8 from rfl]; kernel_rfl) ?_
      (try simp only [Act.put, List.setIfInBounds_toArray, List.set_cons_zero, List.set_cons_succ])
      refine mv_load (by rfl) _ _ (by rfl) bx1 _ ct _ (by rfl) (Fbx1.out.ext (E2.out.trans E3.out)) Tryz.underlying26 (by rfl) (by rw [show (ct : Array Value).size = 4 from ZS]; kernel_rfl) ?_
      (try simp only [Act.put, List.setIfInBounds_toArray, List.set_cons_zero, List.set_cons_succ])
      refine mv_call (by rfl) (by go_simp) (rbetween_any (4 * (4 * L + 2) + 2) _ _ _ _ _ _ _ _ _ (⟨g0, g1, rfl, Fg0.out.isIn m00, Fg1.out.isIn m01⟩ : PtIn (4 * (4 * L + 2) + 2) _ _ _ _) (⟨i0, i1, rfl, Fi0.out.isIn m10, Fi1.out.isIn m11⟩ : PtIn (4 * (4 * L + 2) + 2) _ _ _ _) ((FS.out.ext (E1.out.trans (E2.out.trans E3.out))).mono (by omega)) (by omega) (by omega)) ?_
      rintro e w4 ⟨_, rfl, ⟨q0, q1, rfl, hc, hd⟩, hx⟩
      have E4 := Lib.hid (show Ext wsm8 w4 from hx)
      have Fq0 := Lib.hid hc
      have Fq1 := Lib.hid hd
      clear hc hd
      clear hx
      refine ⟨_, rfl, ?_⟩
      (try simp only [Act.put, List.setIfInBounds_toArray, List.set_cons_zero, List.set_cons_succ])
      refine mv_val (v := .pointer (some ⟨w4.heap.size, 0, none⟩)) (w' := w4.alloc (.cells #[.bool false, .slice none 0 0, .bool false, .slice none 0 0, .bool false, .slice none 0 0, .bool false, .slice none 0 0] 27)) (by rfl) (by go_simp) ?_
      (try simp only [Act.put, List.setIfInBounds_toArray, List.set_cons_zero, List.set_cons_succ])
      refine mv_store (by rfl) _ _ _ (by rfl) w4.heap.size 27 #[.bool false, .slice none 0 0, .bool false, .slice none 0 0, .bool false, .slice none 0 0, .bool false, .slice none 0 0] #[.bool q0.n, .slice q0.p q0.l q0.c, .bool q0.m, .slice q0.p2 q0.l2 q0.c2, .bool q1.n, .slice q1.p q1.l q1.c, .bool q1.m, .slice q1.p2 q1.l2 q1.c2] (by rfl) (by rfl) (Blk.new w4 _ _) (by rw [show (#[.bool q0.n, .slice q0.p q0.l q0.c, .bool q0.m, .slice q0.p2 q0.l2 q0.c2, .bool q1.n, .slice q1.p q1.l q1.c, .bool q1.m, .slice q1.p2 q1.l2 q1.c2] : Array Value).size = 8 from rfl]; rfl) (by rw [show (#[.bool q0.n, .slice q0.p q0.l q0.c, .bool q0.m, .slice q0.p2 q0.l2 q0.c2, .bool q1.n, .slice q1.p q1.l q1.c, .bool q1.m, .slice q1.p2 q1.l2 q1.c2] : Array Value).size = 8 from rfl]; kernel_rfl) (all_oneCell_toArray (by simp [Value.oneCell'])) ?_
      (try simp only [Act.put, List.setIfInBounds_toArray, List.set_cons_zero, List.set_cons_succ])
      have nV11_R0 : w4.heap.size ≠ R0 := Nat.ne_of_gt (Blk.lt (FR0.out.ext (E2.out.trans (E3.out.trans E4.out))))
      have nV11_R1 : w4.heap.size ≠ R1 := Nat.ne_of_gt (Blk.lt (FR1.out.ext (E2.out.trans (E3.out.trans E4.out))))
      obtain ⟨xq1, xq2⟩ := new_var w4 27 #[.bool false, .slice none 0 0, .bool false, .slice none 0 0, .bool false, .slice none 0 0, .bool false, .slice none 0 0] #[.bool q0.n, .slice q0.p q0.l q0.c, .bool q0.m, .slice q0.p2 q0.l2 q0.c2, .bool q1.n, .slice q1.p q1.l q1.c, .bool q1.m, .slice q1.p2 q1.l2 q1.c2] (by rw [show (#[.bool q0.n, .slice q0.p q0.l q0.c, .bool q0.m, .slice q0.p2 q0.l2 q0.c2, .bool q1.n, .slice q1.p q1.l q1.c, .bool q1.m, .slice q1.p2 q1.l2 q1.c2] : Array Value).size = 8 from rfl]; rfl)
      generalize (w4.alloc (.cells #[.bool false, .slice none 0 0, .bool false, .slice none 0 0, .bool false, .slice none 0 0, .bool false, .slice none 0 0] 27)).setCells w4.heap.size 0 (#[.bool q0.n, .slice q0.p q0.l q0.c, .bool q0.m, .slice q0.p2 q0.l2 q0.c2, .bool q1.n, .slice q1.p q1.l q1.c, .bool q1.m, .slice q1.p2 q1.l2 q1.c2] : Array Value).toList = w5 at *
      generalize w4.heap.size = X5 at *
      have E5 := Lib.hid (show Ext w4 w5 from xq1)
      have FV11 := Lib.hid xq2
      clear xq1 xq2
      go_upto_region 4 with fail
      refine wp_region_held_drew (S := fun x => Own2 R0 R1 w5 x) (by kernel_rfl) (Own2.of_ext (Ext.refl _).drew) (fun _ => ?_)
      have E6 := Lib.hid (show Ext w5 w5.drew from (Ext.refl _).drew)
      refine md_val (i := 0) (v := ?vm9) (listed' := #[true, false, false, false, false, false, false, false, false, false, false, false, false, false, false, false]) (by rfl) (by kernel_rfl) (by kernel_rfl) (by kernel_rfl) (by intro _ _ _ h; exact h) (by rfl) ?hm9 (Own2.of_ext E6.out) (by kernel_rfl) ?rm9
      case hm9 => (intro w hSw; (try dsimp only at hSw); go_simp <;> with_reducible rfl)
      (try simp only [Act.put, List.setIfInBounds_toArray, List.set_cons_zero, List.set_cons_succ])
      refine md_part (i := 1) (listed' := #[true, true, false, false, false, false, false, false, false, false, false, false, false, false, false, false]) (by rfl) (by kernel_rfl) (by kernel_rfl) (by kernel_rfl) _ _ (by rfl) w.heap.size 0 8 _ cp _ (by intro _ _ _ h; exact h) (by rfl) (by rfl) (fun x hx => ((Fbx0.out.ext (E2.out.trans (E3.out.trans (E4.out.trans E5.out))))).own2 hx nbx0_R0 nbx0_R1) Tryz.underlying27 (by rfl) (by kernel_rfl) (by rw [show (cp : Array Value).size = 32 from ZP]; omega) (Own2.of_ext E6.out) (by kernel_rfl) ?_
      (try simp only [Act.put, List.setIfInBounds_toArray, List.set_cons_zero, List.set_cons_succ])
      refine md_load (i := 3) (listed' := #[true, true, false, true, false, false, false, false, false, false, false, false, false, false, false, false]) (by rfl) (by kernel_rfl) (by kernel_rfl) (by kernel_rfl) _ _ (by rfl) Xm71 _ #[.bool e0.n, .slice e0.p e0.l e0.c, .bool e0.m, .slice e0.p2 e0.l2 e0.c2, .bool e1.n, .slice e1.p e1.l e1.c, .bool e1.m, .slice e1.p2 e1.l2 e1.c2] _ (by intro _ _ _ h; exact h) (by rfl) (by rfl) (fun x hx => ((FbA.out.ext (E3.out.trans (E4.out.trans E5.out)))).own2 hx nbA_R0 nbA_R1) Tryz.underlying27 (by rfl) (by rw [show (#[.bool e0.n, .slice e0.p e0.l e0.c, .bool e0.m, .slice e0.p2 e0.l2 e0.c2, .bool e1.n, .slice e1.p e1.l e1.c, .bool e1.m, .slice e1.p2 e1.l2 e1.c2] : Array Value).size = 8 from rfl]; kernel_rfl) (Own2.of_ext E6.out) (by kernel_rfl) ?_
      (try simp only [Act.put, List.setIfInBounds_toArray, List.set_cons_zero, List.set_cons_succ])
      refine md_load (i := 4) (listed' := #[true, true, false, true, true, false, false, false, false, false, false, false, false, false, false, false]) (by rfl) (by kernel_rfl) (by kernel_rfl) (by kernel_rfl) _ _ (by rfl) Xm81 _ #[.bool g0.n, .slice g0.p g0.l g0.c, .bool g0.m, .slice g0.p2 g0.l2 g0.c2, .bool g1.n, .slice g1.p g1.l g1.c, .bool g1.m, .slice g1.p2 g1.l2 g1.c2] _ (by intro _ _ _ h; exact h) (by rfl) (by rfl) (fun x hx => ((FbD.out.ext (E4.out.trans E5.out))).own2 hx nbD_R0 nbD_R1) Tryz.underlying27 (by rfl) (by rw [show (#[.bool g0.n, .slice g0.p g0.l g0.c, .bool g0.m, .slice g0.p2 g0.l2 g0.c2, .bool g1.n, .slice g1.p g1.l g1.c, .bool g1.m, .slice g1.p2 g1.l2 g1.c2] : Array Value).size = 8 from rfl]; kernel_rfl) (Own2.of_ext E6.out) (by kernel_rfl) ?_
      (try simp only [Act.put, List.setIfInBounds_toArray, List.set_cons_zero, List.set_cons_succ])
      refine md_load (i := 5) (listed' := #[true, true, false, true, true, true, false, false, false, false, false, false, false, false, false, false]) (by rfl) (by kernel_rfl) (by kernel_rfl) (by kernel_rfl) _ _ (by rfl) X5 _ #[.bool q0.n, .slice q0.p q0.l q0.c, .bool q0.m, .slice q0.p2 q0.l2 q0.c2, .bool q1.n, .slice q1.p q1.l q1.c, .bool q1.m, .slice q1.p2 q1.l2 q1.c2] _ (by intro _ _ _ h; exact h) (by rfl) (by rfl) (fun x hx => (FV11.out).own2 hx nV11_R0 nV11_R1) Tryz.underlying27 (by rfl) (by rw [show (#[.bool q0.n, .slice q0.p q0.l q0.c, .bool q0.m, .slice q0.p2 q0.l2 q0.c2, .bool q1.n, .slice q1.p q1.l q1.c, .bool q1.m, .slice q1.p2 q1.l2 q1.c2] : Array Value).size = 8 from rfl]; kernel_rfl) (Own2.of_ext E6.out) (by kernel_rfl) ?_
      (try simp only [Act.put, List.setIfInBounds_toArray, List.set_cons_zero, List.set_cons_succ])
      refine md_load (i := 7) (listed' := #[true, true, false, true, true, true, false, true, false, false, false, false, false, false, false, false]) (by rfl) (by kernel_rfl) (by kernel_rfl) (by kernel_rfl) _ _ (by rfl) X5 _ #[.bool q0.n, .slice q0.p q0.l q0.c, .bool q0.m, .slice q0.p2 q0.l2 q0.c2, .bool q1.n, .slice q1.p q1.l q1.c, .bool q1.m, .slice q1.p2 q1.l2 q1.c2] _ (by intro _ _ _ h; exact h) (by rfl) (by rfl) (fun x hx => (FV11.out).own2 hx nV11_R0 nV11_R1) Tryz.underlying27 (by rfl) (by rw [show (#[.bool q0.n, .slice q0.p q0.l q0.c, .bool q0.m, .slice q0.p2 q0.l2 q0.c2, .bool q1.n, .slice q1.p q1.l q1.c, .bool q1.m, .slice q1.p2 q1.l2 q1.c2] : Array Value).size = 8 from rfl]; kernel_rfl) (Own2.of_ext E6.out) (by kernel_rfl) ?_
      (try simp only [Act.put, List.setIfInBounds_toArray, List.set_cons_zero, List.set_cons_succ])
      refine md_load (i := 8) (listed' := #[true, true, false, true, true, true, false, true, true, false, false, false, false, false, false, false]) (by rfl) (by kernel_rfl) (by kernel_rfl) (by kernel_rfl) _ _ (by rfl) Xm82 _ #[.bool i0.n, .slice i0.p i0.l i0.c, .bool i0.m, .slice i0.p2 i0.l2 i0.c2, .bool i1.n, .slice i1.p i1.l i1.c, .bool i1.m, .slice i1.p2 i1.l2 i1.c2] _ (by intro _ _ _ h; exact h) (by rfl) (by rfl) (fun x hx => ((FbE.out.ext (E4.out.trans E5.out))).own2 hx nbE_R0 nbE_R1) Tryz.underlying27 (by rfl) (by rw [show (#[.bool i0.n, .slice i0.p i0.l i0.c, .bool i0.m, .slice i0.p2 i0.l2 i0.c2, .bool i1.n, .slice i1.p i1.l i1.c, .bool i1.m, .slice i1.p2 i1.l2 i1.c2] : Array Value).size = 8 from rfl]; kernel_rfl) (Own2.of_ext E6.out) (by kernel_rfl) ?_
      (try simp only [Act.put, List.setIfInBounds_toArray, List.set_cons_zero, List.set_cons_succ])
      refine md_load (i := 9) (listed' := #[true, true, false, true, true, true, false, true, true, true, false, false, false, false, false, false]) (by rfl) (by kernel_rfl) (by kernel_rfl) (by kernel_rfl) _ _ (by rfl) Xm73 _ #[.bool k0.n, .slice k0.p k0.l k0.c, .bool k0.m, .slice k0.p2 k0.l2 k0.c2, .bool k1.n, .slice k1.p k1.l k1.c, .bool k1.m, .slice k1.p2 k1.l2 k1.c2] _ (by intro _ _ _ h; exact h) (by rfl) (by rfl) (fun x hx => ((FbC.out.ext (E3.out.trans (E4.out.trans E5.out)))).own2 hx nbC_R0 nbC_R1) Tryz.underlying27 (by rfl) (by rw [show (#[.bool k0.n, .slice k0.p k0.l k0.c, .bool k0.m, .slice k0.p2 k0.l2 k0.c2, .bool k1.n, .slice k1.p k1.l k1.c, .bool k1.m, .slice k1.p2 k1.l2 k1.c2] : Array Value).size = 8 from rfl]; kernel_rfl) (Own2.of_ext E6.out) (by kernel_rfl) ?_
      (try simp only [Act.put, List.setIfInBounds_toArray, List.set_cons_zero, List.set_cons_succ])
      refine md_val (i := 10) (v := ?vm10) (listed' := #[true, true, false, true, true, true, false, true, true, true, true, false, false, false, false, false]) (by rfl) (by kernel_rfl) (by kernel_rfl) (by kernel_rfl) (by intro _ _ _ h; exact h) (by rfl) ?hm10 (Own2.of_ext E6.out) (by kernel_rfl) ?rm10
      case hm10 => (intro w hSw; (try dsimp only at hSw); go_simp <;> with_reducible rfl)
      (try simp only [Act.put, List.setIfInBounds_toArray, List.set_cons_zero, List.set_cons_succ])
      refine md_part (i := 11) (listed' := #[true, true, false, true, true, true, false, true, true, true, true, true, false, false, false, false]) (by rfl) (by kernel_rfl) (by kernel_rfl) (by kernel_rfl) _ _ (by rfl) w.heap.size 24 8 _ cp _ (by intro _ _ _ h; exact h) (by rfl) (by rfl) (fun x hx => ((Fbx0.out.ext (E2.out.trans (E3.out.trans (E4.out.trans E5.out))))).own2 hx nbx0_R0 nbx0_R1) Tryz.underlying27 (by rfl) (by kernel_rfl) (by rw [show (cp : Array Value).size = 32 from ZP]; omega) (Own2.of_ext E6.out) (by kernel_rfl) ?_
      (try simp only [Act.put, List.setIfInBounds_toArray, List.set_cons_zero, List.set_cons_succ])
      refine md_call (i := 2) (listed' := #[true, true, true, true, true, true, false, true, true, true, true, true, false, false, false, false]) (by rfl) (by kernel_rfl) (by rfl) (by go_simp) (rexact_any L _ _ _ _ (FP.out.ext (E1.out.trans (E2.out.trans (E3.out.trans (E4.out.trans (E5.out.trans E6.out)))))).p0 (by omega)) (by kernel_rfl) ?_
      rintro e w7 ⟨_, rfl, ⟨u0, u1, rfl, hc, hd⟩, hx⟩
      have E7 := Lib.hid (show Ext w5.drew w7 from hx)
      have Fu0 := Lib.hid hc
      have Fu1 := Lib.hid hd
      clear hc hd
      clear hx
      refine ⟨_, rfl, (Own2.of_ext (E6.out.trans E7.out)), ?_⟩
      (try simp only [Act.put, List.setIfInBounds_toArray, List.set_cons_zero, List.set_cons_succ])
      refine md_val (i := 6) (v := ?vm11) (listed' := #[true, true, true, true, true, true, true, true, true, true, true, true, false, false, false, false]) (by rfl) (by kernel_rfl) (by kernel_rfl) (by kernel_rfl) (by intro _ _ _ h; exact h) (by rfl) ?hm11 (Own2.of_ext (E6.out.trans E7.out)) (by kernel_rfl) ?rm11
      case hm11 => (intro w hSw; (try dsimp only at hSw); go_simp <;> with_reducible rfl)
      (try simp only [Act.put, List.setIfInBounds_toArray, List.set_cons_zero, List.set_cons_succ])
      refine md_call (i := 12) (listed' := #[true, true, true, true, true, true, true, true, true, true, true, true, true, false, false, false]) (by rfl) (by kernel_rfl) (by rfl) (by go_simp) (rexact_any L _ _ _ _ (FP.out.ext (E1.out.trans (E2.out.trans (E3.out.trans (E4.out.trans (E5.out.trans (E6.out.trans E7.out))))))).p3 (by omega)) (by kernel_rfl) ?_
      rintro e w8 ⟨_, rfl, ⟨v0, v1, rfl, hc, hd⟩, hx⟩
      have E8 := Lib.hid (show Ext w7 w8 from hx)
      have Fv0 := Lib.hid hc
      have Fv1 := Lib.hid hd
      clear hc hd
      clear hx
      refine ⟨_, rfl, (Own2.of_ext (E6.out.trans (E7.out.trans E8.out))), ?_⟩
      (try simp only [Act.put, List.setIfInBounds_toArray, List.set_cons_zero, List.set_cons_succ])
      refine md_val (i := 13) (v := ?vm12) (listed' := #[true, true, true, true, true, true, true, true, true, true, true, true, true, true, false, false]) (by rfl) (by kernel_rfl) (by kernel_rfl) (by kernel_rfl) (by intro _ _ _ h; exact h) (by rfl) ?hm12 (Own2.of_ext (E6.out.trans (E7.out.trans E8.out))) (by kernel_rfl) ?rm12
      case hm12 => (intro w hSw; (try dsimp only at hSw); go_simp <;> with_reducible rfl)
      (try simp only [Act.put, List.setIfInBounds_toArray, List.set_cons_zero, List.set_cons_succ])
      have o1 := Own.setCells w8 R0 #[.bool u0.n, .slice u0.p u0.l u0.c, .bool u0.m, .slice u0.p2 u0.l2 u0.c2, .bool u1.n, .slice u1.p u1.l u1.c, .bool u1.m, .slice u1.p2 u1.l2 u1.c2, .bool e0.n, .slice e0.p e0.l e0.c, .bool e0.m, .slice e0.p2 e0.l2 e0.c2, .bool e1.n, .slice e1.p e1.l e1.c, .bool e1.m, .slice e1.p2 e1.l2 e1.c2, .bool g0.n, .slice g0.p g0.l g0.c, .bool g0.m, .slice g0.p2 g0.l2 g0.c2, .bool g1.n, .slice g1.p g1.l g1.c, .bool g1.m, .slice g1.p2 g1.l2 g1.c2, .bool q0.n, .slice q0.p q0.l q0.c, .bool q0.m, .slice q0.p2 q0.l2 q0.c2, .bool q1.n, .slice q1.p q1.l q1.c, .bool q1.m, .slice q1.p2 q1.l2 q1.c2]
      have kb1 := (FR0.out.ext (E2.out.trans (E3.out.trans (E4.out.trans (E5.out.trans (E6.out.trans (E7.out.trans E8.out)))))))
      have hs1 : Own2 R0 R1 w5 (w8.setCells R0 0 (#[.bool u0.n, .slice u0.p u0.l u0.c, .bool u0.m, .slice u0.p2 u0.l2 u0.c2, .bool u1.n, .slice u1.p u1.l u1.c, .bool u1.m, .slice u1.p2 u1.l2 u1.c2, .bool e0.n, .slice e0.p e0.l e0.c, .bool e0.m, .slice e0.p2 e0.l2 e0.c2, .bool e1.n, .slice e1.p e1.l e1.c, .bool e1.m, .slice e1.p2 e1.l2 e1.c2, .bool g0.n, .slice g0.p g0.l g0.c, .bool g0.m, .slice g0.p2 g0.l2 g0.c2, .bool g1.n, .slice g1.p g1.l g1.c, .bool g1.m, .slice g1.p2 g1.l2 g1.c2, .bool q0.n, .slice q0.p q0.l q0.c, .bool q0.m, .slice q0.p2 q0.l2 q0.c2, .bool q1.n, .slice q1.p q1.l q1.c, .bool q1.m, .slice q1.p2 q1.l2 q1.c2] : Array Value).toList) := (Own2.one (Own.then_ext' (E6.out.trans (E7.out.trans E8.out)) o1))
      refine md_store (i := 14) (listed' := #[true, true, true, true, true, true, true, true, true, true, true, true, true, true, true, false]) (by rfl) (by kernel_rfl) (by rfl) _ _ _ (by rfl) R0 _ #[.bool false, .slice none 0 0, .bool false, .slice none 0 0, .bool false, .slice none 0 0, .bool false, .slice none 0 0, .bool false, .slice none 0 0, .bool false, .slice none 0 0, .bool false, .slice none 0 0, .bool false, .slice none 0 0, .bool false, .slice none 0 0, .bool false, .slice none 0 0, .bool false, .slice none 0 0, .bool false, .slice none 0 0, .bool false, .slice none 0 0, .bool false, .slice none 0 0, .bool false, .slice none 0 0, .bool false, .slice none 0 0] #[.bool u0.n, .slice u0.p u0.l u0.c, .bool u0.m, .slice u0.p2 u0.l2 u0.c2, .bool u1.n, .slice u1.p u1.l u1.c, .bool u1.m, .slice u1.p2 u1.l2 u1.c2, .bool e0.n, .slice e0.p e0.l e0.c, .bool e0.m, .slice e0.p2 e0.l2 e0.c2, .bool e1.n, .slice e1.p e1.l e1.c, .bool e1.m, .slice e1.p2 e1.l2 e1.c2, .bool g0.n, .slice g0.p g0.l g0.c, .bool g0.m, .slice g0.p2 g0.l2 g0.c2, .bool g1.n, .slice g1.p g1.l g1.c, .bool g1.m, .slice g1.p2 g1.l2 g1.c2, .bool q0.n, .slice q0.p q0.l q0.c, .bool q0.m, .slice q0.p2 q0.l2 q0.c2, .bool q1.n, .slice q1.p q1.l q1.c, .bool q1.m, .slice q1.p2 q1.l2 q1.c2] (by rfl) (by rfl) kb1 (by rw [show (#[.bool u0.n, .slice u0.p u0.l u0.c, .bool u0.m, .slice u0.p2 u0.l2 u0.c2, .bool u1.n, .slice u1.p u1.l u1.c, .bool u1.m, .slice u1.p2 u1.l2 u1.c2, .bool e0.n, .slice e0.p e0.l e0.c, .bool e0.m, .slice e0.p2 e0.l2 e0.c2, .bool e1.n, .slice e1.p e1.l e1.c, .bool e1.m, .slice e1.p2 e1.l2 e1.c2, .bool g0.n, .slice g0.p g0.l g0.c, .bool g0.m, .slice g0.p2 g0.l2 g0.c2, .bool g1.n, .slice g1.p g1.l g1.c, .bool g1.m, .slice g1.p2 g1.l2 g1.c2, .bool q0.n, .slice q0.p q0.l q0.c, .bool q0.m, .slice q0.p2 q0.l2 q0.c2, .bool q1.n, .slice q1.p q1.l q1.c, .bool q1.m, .slice q1.p2 q1.l2 q1.c2] : Array Value).size = 32 from rfl]; rfl) (by rw [show (#[.bool u0.n, .slice u0.p u0.l u0.c, .bool u0.m, .slice u0.p2 u0.l2 u0.c2, .bool u1.n, .slice u1.p u1.l u1.c, .bool u1.m, .slice u1.p2 u1.l2 u1.c2, .bool e0.n, .slice e0.p e0.l e0.c, .bool e0.m, .slice e0.p2 e0.l2 e0.c2, .bool e1.n, .slice e1.p e1.l e1.c, .bool e1.m, .slice e1.p2 e1.l2 e1.c2, .bool g0.n, .slice g0.p g0.l g0.c, .bool g0.m, .slice g0.p2 g0.l2 g0.c2, .bool g1.n, .slice g1.p g1.l g1.c, .bool g1.m, .slice g1.p2 g1.l2 g1.c2, .bool q0.n, .slice q0.p q0.l q0.c, .bool q0.m, .slice q0.p2 q0.l2 q0.c2, .bool q1.n, .slice q1.p q1.l q1.c, .bool q1.m, .slice q1.p2 q1.l2 q1.c2] : Array Value).size = 32 from rfl]; kernel_rfl) (all_oneCell_toArray (by simp [Value.oneCell'])) hs1 (by kernel_rfl) ?_
      (try simp only [Act.put, List.setIfInBounds_toArray, List.set_cons_zero, List.set_cons_succ])
      have kc1 := kb1.setCells #[.bool u0.n, .slice u0.p u0.l u0.c, .bool u0.m, .slice u0.p2 u0.l2 u0.c2, .bool u1.n, .slice u1.p u1.l u1.c, .bool u1.m, .slice u1.p2 u1.l2 u1.c2, .bool e0.n, .slice e0.p e0.l e0.c, .bool e0.m, .slice e0.p2 e0.l2 e0.c2, .bool e1.n, .slice e1.p e1.l e1.c, .bool e1.m, .slice e1.p2 e1.l2 e1.c2, .bool g0.n, .slice g0.p g0.l g0.c, .bool g0.m, .slice g0.p2 g0.l2 g0.c2, .bool g1.n, .slice g1.p g1.l g1.c, .bool g1.m, .slice g1.p2 g1.l2 g1.c2, .bool q0.n, .slice q0.p q0.l q0.c, .bool q0.m, .slice q0.p2 q0.l2 q0.c2, .bool q1.n, .slice q1.p q1.l q1.c, .bool q1.m, .slice q1.p2 q1.l2 q1.c2] (by rw [show (#[.bool u0.n, .slice u0.p u0.l u0.c, .bool u0.m, .slice u0.p2 u0.l2 u0.c2, .bool u1.n, .slice u1.p u1.l u1.c, .bool u1.m, .slice u1.p2 u1.l2 u1.c2, .bool e0.n, .slice e0.p e0.l e0.c, .bool e0.m, .slice e0.p2 e0.l2 e0.c2, .bool e1.n, .slice e1.p e1.l e1.c, .bool e1.m, .slice e1.p2 e1.l2 e1.c2, .bool g0.n, .slice g0.p g0.l g0.c, .bool g0.m, .slice g0.p2 g0.l2 g0.c2, .bool g1.n, .slice g1.p g1.l g1.c, .bool g1.m, .slice g1.p2 g1.l2 g1.c2, .bool q0.n, .slice q0.p q0.l q0.c, .bool q0.m, .slice q0.p2 q0.l2 q0.c2, .bool q1.n, .slice q1.p q1.l q1.c, .bool q1.m, .slice q1.p2 q1.l2 q1.c2] : Array Value).size = 32 from rfl]; rfl)
      have o2 := Own.setCells (w8.setCells R0 0 (#[.bool u0.n, .slice u0.p u0.l u0.c, .bool u0.m, .slice u0.p2 u0.l2 u0.c2, .bool u1.n, .slice u1.p u1.l u1.c, .bool u1.m, .slice u1.p2 u1.l2 u1.c2, .bool e0.n, .slice e0.p e0.l e0.c, .bool e0.m, .slice e0.p2 e0.l2 e0.c2, .bool e1.n, .slice e1.p e1.l e1.c, .bool e1.m, .slice e1.p2 e1.l2 e1.c2, .bool g0.n, .slice g0.p g0.l g0.c, .bool g0.m, .slice g0.p2 g0.l2 g0.c2, .bool g1.n, .slice g1.p g1.l g1.c, .bool g1.m, .slice g1.p2 g1.l2 g1.c2, .bool q0.n, .slice q0.p q0.l q0.c, .bool q0.m, .slice q0.p2 q0.l2 q0.c2, .bool q1.n, .slice q1.p q1.l q1.c, .bool q1.m, .slice q1.p2 q1.l2 q1.c2] : Array Value).toList) R1 #[.bool q0.n, .slice q0.p q0.l q0.c, .bool q0.m, .slice q0.p2 q0.l2 q0.c2, .bool q1.n, .slice q1.p q1.l q1.c, .bool q1.m, .slice q1.p2 q1.l2 q1.c2, .bool i0.n, .slice i0.p i0.l i0.c, .bool i0.m, .slice i0.p2 i0.l2 i0.c2, .bool i1.n, .slice i1.p i1.l i1.c, .bool i1.m, .slice i1.p2 i1.l2 i1.c2, .bool k0.n, .slice k0.p k0.l k0.c, .bool k0.m, .slice k0.p2 k0.l2 k0.c2, .bool k1.n, .slice k1.p k1.l k1.c, .bool k1.m, .slice k1.p2 k1.l2 k1.c2, .bool v0.n, .slice v0.p v0.l v0.c, .bool v0.m, .slice v0.p2 v0.l2 v0.c2, .bool v1.n, .slice v1.p v1.l v1.c, .bool v1.m, .slice v1.p2 v1.l2 v1.c2]
      have kb2 := ((FR1.out.ext (E2.out.trans (E3.out.trans (E4.out.trans (E5.out.trans (E6.out.trans (E7.out.trans E8.out)))))))).own o1 nR1_R0
      have hs2 : Own2 R0 R1 w5 ((w8.setCells R0 0 (#[.bool u0.n, .slice u0.p u0.l u0.c, .bool u0.m, .slice u0.p2 u0.l2 u0.c2, .bool u1.n, .slice u1.p u1.l u1.c, .bool u1.m, .slice u1.p2 u1.l2 u1.c2, .bool e0.n, .slice e0.p e0.l e0.c, .bool e0.m, .slice e0.p2 e0.l2 e0.c2, .bool e1.n, .slice e1.p e1.l e1.c, .bool e1.m, .slice e1.p2 e1.l2 e1.c2, .bool g0.n, .slice g0.p g0.l g0.c, .bool g0.m, .slice g0.p2 g0.l2 g0.c2, .bool g1.n, .slice g1.p g1.l g1.c, .bool g1.m, .slice g1.p2 g1.l2 g1.c2, .bool q0.n, .slice q0.p q0.l q0.c, .bool q0.m, .slice q0.p2 q0.l2 q0.c2, .bool q1.n, .slice q1.p q1.l q1.c, .bool q1.m, .slice q1.p2 q1.l2 q1.c2] : Array Value).toList).setCells R1 0 (#[.bool q0.n, .slice q0.p q0.l q0.c, .bool q0.m, .slice q0.p2 q0.l2 q0.c2, .bool q1.n, .slice q1.p q1.l q1.c, .bool q1.m, .slice q1.p2 q1.l2 q1.c2, .bool i0.n, .slice i0.p i0.l i0.c, .bool i0.m, .slice i0.p2 i0.l2 i0.c2, .bool i1.n, .slice i1.p i1.l i1.c, .bool i1.m, .slice i1.p2 i1.l2 i1.c2, .bool k0.n, .slice k0.p k0.l k0.c, .bool k0.m, .slice k0.p2 k0.l2 k0.c2, .bool k1.n, .slice k1.p k1.l k1.c, .bool k1.m, .slice k1.p2 k1.l2 k1.c2, .bool v0.n, .slice v0.p v0.l v0.c, .bool v0.m, .slice v0.p2 v0.l2 v0.c2, .bool v1.n, .slice v1.p v1.l v1.c, .bool v1.m, .slice v1.p2 v1.l2 v1.c2] : Array Value).toList) := ⟨_, Own.then_ext' (E6.out.trans (E7.out.trans E8.out)) o1, o2⟩
      refine md_store (i := 15) (listed' := #[true, true, true, true, true, true, true, true, true, true, true, true, true, true, true, true]) (by rfl) (by kernel_rfl) (by rfl) _ _ _ (by rfl) R1 _ #[.bool false, .slice none 0 0, .bool false, .slice none 0 0, .bool false, .slice none 0 0, .bool false, .slice none 0 0, .bool false, .slice none 0 0, .bool false, .slice none 0 0, .bool false, .slice none 0 0, .bool false, .slice none 0 0, .bool false, .slice none 0 0, .bool false, .slice none 0 0, .bool false, .slice none 0 0, .bool false, .slice none 0 0, .bool false, .slice none 0 0, .bool false, .slice none 0 0, .bool false, .slice none 0 0, .bool false, .slice none 0 0] #[.bool q0.n, .slice q0.p q0.l q0.c, .bool q0.m, .slice q0.p2 q0.l2 q0.c2, .bool q1.n, .slice q1.p q1.l q1.c, .bool q1.m, .slice q1.p2 q1.l2 q1.c2, .bool i0.n, .slice i0.p i0.l i0.c, .bool i0.m, .slice i0.p2 i0.l2 i0.c2, .bool i1.n, .slice i1.p i1.l i1.c, .bool i1.m, .slice i1.p2 i1.l2 i1.c2, .bool k0.n, .slice k0.p k0.l k0.c, .bool k0.m, .slice k0.p2 k0.l2 k0.c2, .bool k1.n, .slice k1.p k1.l k1.c, .bool k1.m, .slice k1.p2 k1.l2 k1.c2, .bool v0.n, .slice v0.p v0.l v0.c, .bool v0.m, .slice v0.p2 v0.l2 v0.c2, .bool v1.n, .slice v1.p v1.l v1.c, .bool v1.m, .slice v1.p2 v1.l2 v1.c2] (by rfl) (by rfl) kb2 (by rw [show (#[.bool q0.n, .slice q0.p q0.l q0.c, .bool q0.m, .slice q0.p2 q0.l2 q0.c2, .bool q1.n, .slice q1.p q1.l q1.c, .bool q1.m, .slice q1.p2 q1.l2 q1.c2, .bool i0.n, .slice i0.p i0.l i0.c, .bool i0.m, .slice i0.p2 i0.l2 i0.c2, .bool i1.n, .slice i1.p i1.l i1.c, .bool i1.m, .slice i1.p2 i1.l2 i1.c2, .bool k0.n, .slice k0.p k0.l k0.c, .bool k0.m, .slice k0.p2 k0.l2 k0.c2, .bool k1.n, .slice k1.p k1.l k1.c, .bool k1.m, .slice k1.p2 k1.l2 k1.c2, .bool v0.n, .slice v0.p v0.l v0.c, .bool v0.m, .slice v0.p2 v0.l2 v0.c2, .bool v1.n, .slice v1.p v1.l v1.c, .bool v1.m, .slice v1.p2 v1.l2 v1.c2] : Array Value).size = 32 from rfl]; rfl) (by rw [show (#[.bool q0.n, .slice q0.p q0.l q0.c, .bool q0.m, .slice q0.p2 q0.l2 q0.c2, .bool q1.n, .slice q1.p q1.l q1.c, .bool q1.m, .slice q1.p2 q1.l2 q1.c2, .bool i0.n, .slice i0.p i0.l i0.c, .bool i0.m, .slice i0.p2 i0.l2 i0.c2, .bool i1.n, .slice i1.p i1.l i1.c, .bool i1.m, .slice i1.p2 i1.l2 i1.c2, .bool k0.n, .slice k0.p k0.l k0.c, .bool k0.m, .slice k0.p2 k0.l2 k0.c2, .bool k1.n, .slice k1.p k1.l k1.c, .bool k1.m, .slice k1.p2 k1.l2 k1.c2, .bool v0.n, .slice v0.p v0.l v0.c, .bool v0.m, .slice v0.p2 v0.l2 v0.c2, .bool v1.n, .slice v1.p v1.l v1.c, .bool v1.m, .slice v1.p2 v1.l2 v1.c2] : Array Value).size = 32 from rfl]; kernel_rfl) (all_oneCell_toArray (by simp [Value.oneCell'])) hs2 (by kernel_rfl) ?_
      (try simp only [Act.put, List.setIfInBounds_toArray, List.set_cons_zero, List.set_cons_succ])
      have kc2 := kb2.setCells #[.bool q0.n, .slice q0.p q0.l q0.c, .bool q0.m, .slice q0.p2 q0.l2 q0.c2, .bool q1.n, .slice q1.p q1.l q1.c, .bool q1.m, .slice q1.p2 q1.l2 q1.c2, .bool i0.n, .slice i0.p i0.l i0.c, .bool i0.m, .slice i0.p2 i0.l2 i0.c2, .bool i1.n, .slice i1.p i1.l i1.c, .bool i1.m, .slice i1.p2 i1.l2 i1.c2, .bool k0.n, .slice k0.p k0.l k0.c, .bool k0.m, .slice k0.p2 k0.l2 k0.c2, .bool k1.n, .slice k1.p k1.l k1.c, .bool k1.m, .slice k1.p2 k1.l2 k1.c2, .bool v0.n, .slice v0.p v0.l v0.c, .bool v0.m, .slice v0.p2 v0.l2 v0.c2, .bool v1.n, .slice v1.p v1.l v1.c, .bool v1.m, .slice v1.p2 v1.l2 v1.c2] (by rw [show (#[.bool q0.n, .slice q0.p q0.l q0.c, .bool q0.m, .slice q0.p2 q0.l2 q0.c2, .bool q1.n, .slice q1.p q1.l q1.c, .bool q1.m, .slice q1.p2 q1.l2 q1.c2, .bool i0.n, .slice i0.p i0.l i0.c, .bool i0.m, .slice i0.p2 i0.l2 i0.c2, .bool i1.n, .slice i1.p i1.l i1.c, .bool i1.m, .slice i1.p2 i1.l2 i1.c2, .bool k0.n, .slice k0.p k0.l k0.c, .bool k0.m, .slice k0.p2 k0.l2 k0.c2, .bool k1.n, .slice k1.p k1.l k1.c, .bool k1.m, .slice k1.p2 k1.l2 k1.c2, .bool v0.n, .slice v0.p v0.l v0.c, .bool v0.m, .slice v0.p2 v0.l2 v0.c2, .bool v1.n, .slice v1.p v1.l v1.c, .bool v1.m, .slice v1.p2 v1.l2 v1.c2] : Array Value).size = 32 from rfl]; rfl)
      refine wpAnyH_done (by kernel_rfl) ?_ _
      go_wp2_with fail
      have kd1 := kc1.own o2 nR0_R1
      refine bodyPost_ret (v := .tuple #[.agg #[.bool u0.n, .slice u0.p u0.l u0.c, .bool u0.m, .slice u0.p2 u0.l2 u0.c2, .bool u1.n, .slice u1.p u1.l u1.c, .bool u1.m, .slice u1.p2 u1.l2 u1.c2, .bool e0.n, .slice e0.p e0.l e0.c, .bool e0.m, .slice e0.p2 e0.l2 e0.c2, .bool e1.n, .slice e1.p e1.l e1.c, .bool e1.m, .slice e1.p2 e1.l2 e1.c2, .bool g0.n, .slice g0.p g0.l g0.c, .bool g0.m, .slice g0.p2 g0.l2 g0.c2, .bool g1.n, .slice g1.p g1.l g1.c, .bool g1.m, .slice g1.p2 g1.l2 g1.c2, .bool q0.n, .slice q0.p q0.l q0.c, .bool q0.m, .slice q0.p2 q0.l2 q0.c2, .bool q1.n, .slice q1.p q1.l q1.c, .bool q1.m, .slice q1.p2 q1.l2 q1.c2], .agg #[.bool q0.n, .slice q0.p q0.l q0.c, .bool q0.m, .slice q0.p2 q0.l2 q0.c2, .bool q1.n, .slice q1.p q1.l q1.c, .bool q1.m, .slice q1.p2 q1.l2 q1.c2, .bool i0.n, .slice i0.p i0.l i0.c, .bool i0.m, .slice i0.p2 i0.l2 i0.c2, .bool i1.n, .slice i1.p i1.l i1.c, .bool i1.m, .slice i1.p2 i1.l2 i1.c2, .bool k0.n, .slice k0.p k0.l k0.c, .bool k0.m, .slice k0.p2 k0.l2 k0.c2, .bool k1.n, .slice k1.p k1.l k1.c, .bool k1.m, .slice k1.p2 k1.l2 k1.c2, .bool v0.n, .slice v0.p v0.l v0.c, .bool v0.m, .slice v0.p2 v0.l2 v0.c2, .bool v1.n, .slice v1.p v1.l v1.c, .bool v1.m, .slice v1.p2 v1.l2 v1.c2]]) ?_ rfl ⟨_, _, rfl, ⟨u0, u1, e0, e1, g0, g1, q0, q1, rfl, (((Fu0.out.ext E8.out).own kb1 (noU_of _ (by simp)) o1).own kb2 (noU_of _ (by simp)) o2), (((Fu1.out.ext E8.out).own kb1 (noU_of _ (by simp)) o1).own kb2 (noU_of _ (by simp)) o2), (((Fe0.out.ext (E3.out.trans (E4.out.trans (E5.out.trans (E6.out.trans (E7.out.trans E8.out)))))).own kb1 (noU_of _ (by simp)) o1).own kb2 (noU_of _ (by simp)) o2), (((Fe1.out.ext (E3.out.trans (E4.out.trans (E5.out.trans (E6.out.trans (E7.out.trans E8.out)))))).own kb1 (noU_of _ (by simp)) o1).own kb2 (noU_of _ (by simp)) o2), (((Fg0.out.ext (E4.out.trans (E5.out.trans (E6.out.trans (E7.out.trans E8.out))))).own kb1 (noU_of _ (by simp)) o1).own kb2 (noU_of _ (by simp)) o2), (((Fg1.out.ext (E4.out.trans (E5.out.trans (E6.out.trans (E7.out.trans E8.out))))).own kb1 (noU_of _ (by simp)) o1).own kb2 (noU_of _ (by simp)) o2), (((Fq0.out.ext (E5.out.trans (E6.out.trans (E7.out.trans E8.out)))).own kb1 (noU_of _ (by simp)) o1).own kb2 (noU_of _ (by simp)) o2), (((Fq1.out.ext (E5.out.trans (E6.out.trans (E7.out.trans E8.out)))).own kb1 (noU_of _ (by simp)) o1).own kb2 (noU_of _ (by simp)) o2)⟩, ⟨q0, q1, i0, i1, k0, k1, v0, v1, rfl, (((Fq0.out.ext (E5.out.trans (E6.out.trans (E7.out.trans E8.out)))).own kb1 (noU_of _ (by simp)) o1).own kb2 (noU_of _ (by simp)) o2), (((Fq1.out.ext (E5.out.trans (E6.out.trans (E7.out.trans E8.out)))).own kb1 (noU_of _ (by simp)) o1).own kb2 (noU_of _ (by simp)) o2), (((Fi0.out.ext (E4.out.trans (E5.out.trans (E6.out.trans (E7.out.trans E8.out))))).own kb1 (noU_of _ (by simp)) o1).own kb2 (noU_of _ (by simp)) o2), (((Fi1.out.ext (E4.out.trans (E5.out.trans (E6.out.trans (E7.out.trans E8.out))))).own kb1 (noU_of _ (by simp)) o1).own kb2 (noU_of _ (by simp)) o2), (((Fk0.out.ext (E3.out.trans (E4.out.trans (E5.out.trans (E6.out.trans (E7.out.trans E8.out)))))).own kb1 (noU_of _ (by simp)) o1).own kb2 (noU_of _ (by simp)) o2), (((Fk1.out.ext (E3.out.trans (E4.out.trans (E5.out.trans (E6.out.trans (E7.out.trans E8.out)))))).own kb1 (noU_of _ (by simp)) o1).own kb2 (noU_of _ (by simp)) o2), ((Fv0.out.own kb1 (noU_of _ (by simp)) o1).own kb2 (noU_of _ (by simp)) o2), ((Fv1.out.own kb1 (noU_of _ (by simp)) o1).own kb2 (noU_of _ (by simp)) o2)⟩, (o2.ext (o1.ext (E1.out.trans (E2.out.trans (E3.out.trans (E4.out.trans (E5.out.trans (E6.out.trans (E7.out.trans E8.out))))))) gR0) gR1)⟩
      exact results_cell2 rfl rfl rfl (kd1.loadVar rfl rfl rfl) (kc2.loadVar rfl rfl rfl)

theorem divInt13 : Rat.divInt 1 3 = (1 : Rat) / 3 := by decide +kernel
theorem rl13 : Nm.rl ((1 : Rat) / 3) ≤ 1 := by
  have e1 : ((1 : Rat) / 3).num = 1 := by decide +kernel
  have e2 : ((1 : Rat) / 3).den = 3 := by decide +kernel
  unfold Nm.rl
  rw [e1, e2]
  have h1 : Nm.nl (Int.natAbs 1) ≤ 1 := Nm.nl_le (by decide)
  have h2 : Nm.nl 3 ≤ 1 := Nm.nl_le (by decide)
  omega
theorem r03Third (w : World) : Calls Tryz.prog 40 #[.int .i64 1, .int .i64 3] w fun e w' => ∃ c, e = .returned (.tuple #[.agg c, .int .i64 0]) ∧ NIs w' c ((1 : Rat) / 3) ∧ Ext w w' := by
  have h := r3fromInts_any 1 3 w (by omega) (by omega) (by omega) (by omega) (by omega)
  rw [divInt13] at h
  refine h.mono ?_
  intro e w' h
  obtain ⟨a, rfl, k1, k2⟩ := RetRE.v h
  exact ⟨_, rfl, ⟨a, rfl, k1⟩, k2⟩
set_option maxRecDepth 20000 in
set_option maxHeartbeats 8000000 in
theorem relevate_any (L : Nat) (cp : Array Value) (A0 A1 B0 B1 C0 C1 : Rat) (w : World) (hP : Q3In L w cp A0 A1 B0 B1 C0 C1) (h1 : 1 ≤ L) (hL : L ≤ 800) :
    Calls Tryz.prog 21 #[.agg cp] w fun e w' => ∃ c1, e = .returned (.agg c1) ∧ C4Is w' c1 A0 A1 (lerpV B0 A0 ((1 : Rat) / 3)) (lerpV B1 A1 ((1 : Rat) / 3)) (lerpV B0 C0 ((1 : Rat) / 3)) (lerpV B1 C1 ((1 : Rat) / 3)) C0 C1 ∧ Ext w w' := by
  have ZP := hP.size
  have FP := Lib.hid hP
  clear hP
  go_enter Tryz.func21, Tryz.ntmps21
  go_upto_region 1 with fail
  have hbx0 : Blk ((w.alloc (.cells cp 32)).alloc (.cells #[.bool false, .slice none 0 0, .bool false, .slice none 0 0, .bool false, .slice none 0 0, .bool false, .slice none 0 0, .bool false, .slice none 0 0, .bool false, .slice none 0 0, .bool false, .slice none 0 0, .bool false, .slice none 0 0, .bool false, .slice none 0 0, .bool false, .slice none 0 0, .bool false, .slice none 0 0, .bool false, .slice none 0 0, .bool false, .slice none 0 0, .bool false, .slice none 0 0, .bool false, .slice none 0 0, .bool false, .slice none 0 0] 28)) (w.heap.size) 32 cp := Blk.ext (Blk.new_at w _ (by simp) _ _) ((Ext.refl _).alloc _)
  have hR0 : Blk ((w.alloc (.cells cp 32)).alloc (.cells #[.bool false, .slice none 0 0, .bool false, .slice none 0 0, .bool false, .slice none 0 0, .bool false, .slice none 0 0, .bool false, .slice none 0 0, .bool false, .slice none 0 0, .bool false, .slice none 0 0, .bool false, .slice none 0 0, .bool false, .slice none 0 0, .bool false, .slice none 0 0, .bool false, .slice none 0 0, .bool false, .slice none 0 0, .bool false, .slice none 0 0, .bool false, .slice none 0 0, .bool false, .slice none 0 0, .bool false, .slice none 0 0] 28)) (w.heap.size + 1) 28 #[.bool false, .slice none 0 0, .bool false, .slice none 0 0, .bool false, .slice none 0 0, .bool false, .slice none 0 0, .bool false, .slice none 0 0, .bool false, .slice none 0 0, .bool false, .slice none 0 0, .bool false, .slice none 0 0, .bool false, .slice none 0 0, .bool false, .slice none 0 0, .bool false, .slice none 0 0, .bool false, .slice none 0 0, .bool false, .slice none 0 0, .bool false, .slice none 0 0, .bool false, .slice none 0 0, .bool false, .slice none 0 0] := Blk.ext (Blk.new_at (w.alloc (.cells cp 32)) _ (by simp) _ _) (Ext.refl _)
  have hE : Ext w ((w.alloc (.cells cp 32)).alloc (.cells #[.bool false, .slice none 0 0, .bool false, .slice none 0 0, .bool false, .slice none 0 0, .bool false, .slice none 0 0, .bool false, .slice none 0 0, .bool false, .slice none 0 0, .bool false, .slice none 0 0, .bool false, .slice none 0 0, .bool false, .slice none 0 0, .bool false, .slice none 0 0, .bool false, .slice none 0 0, .bool false, .slice none 0 0, .bool false, .slice none 0 0, .bool false, .slice none 0 0, .bool false, .slice none 0 0, .bool false, .slice none 0 0] 28)) := (((Ext.refl _).alloc _).alloc _)
  have gR0 : w.heap.size ≤ w.heap.size + 1 := by omega
  have nbx0_R0 : w.heap.size ≠ w.heap.size + 1 := by omega
  generalize ((w.alloc (.cells cp 32)).alloc (.cells #[.bool false, .slice none 0 0, .bool false, .slice none 0 0, .bool false, .slice none 0 0, .bool false, .slice none 0 0, .bool false, .slice none 0 0, .bool false, .slice none 0 0, .bool false, .slice none 0 0, .bool false, .slice none 0 0, .bool false, .slice none 0 0, .bool false, .slice none 0 0, .bool false, .slice none 0 0, .bool false, .slice none 0 0, .bool false, .slice none 0 0, .bool false, .slice none 0 0, .bool false, .slice none 0 0, .bool false, .slice none 0 0] 28)) = wa at *
  generalize w.heap.size + 1 = R0 at *
  have E1 := Lib.hid (show Ext w wa from hE)
  have Fbx0 := Lib.hid hbx0
  have FR0 := Lib.hid hR0
  clear hE hbx0 hR0
  refine wp_region_lit ?_
  refine mv_call (by rfl) (by go_simp) (r03Third _) ?_
  rintro e w2 ⟨ct, rfl, hc, hx⟩
  have E2 := Lib.hid (show Ext wa w2 from hx)
  have FT := Lib.hid hc
  have ZT := hc.size
  have OT := hc.one
  clear hc
  clear hx
  refine ⟨_, rfl, ?_⟩
  (try simp only [Act.put, List.setIfInBounds_toArray, List.set_cons_zero, List.set_cons_succ])
  refine mv_val (v := ?vm1) (w' := w2) (by rfl) ?hm1 ?rm1
  case hm1 => (go_simp <;> with_reducible rfl)
  (try simp only [Act.put, List.setIfInBounds_toArray, List.set_cons_zero, List.set_cons_succ])
  refine mv_val (v := ?vm2) (w' := w2) (by rfl) ?hm2 ?rm2
  case hm2 => (go_simp <;> with_reducible rfl)
  (try simp only [Act.put, List.setIfInBounds_toArray, List.set_cons_zero, List.set_cons_succ])
  refine mv_val (v := ?vm3) (w' := w2) (by rfl) ?hm3 ?rm3
  case hm3 => (go_simp <;> with_reducible rfl)
  (try simp only [Act.put, List.setIfInBounds_toArray, List.set_cons_zero, List.set_cons_succ])
  refine mv_val (v := .pointer (some ⟨w2.heap.size, 0, none⟩)) (w' := w2.alloc (.cells #[.bool false, .slice none 0 0, .bool false, .slice none 0 0] 26)) (by rfl) (by go_simp) ?_
  (try simp only [Act.put, List.setIfInBounds_toArray, List.set_cons_zero, List.set_cons_succ])
  refine mv_store (by rfl) _ _ _ (by rfl) w2.heap.size 26 #[.bool false, .slice none 0 0, .bool false, .slice none 0 0] ct (by rfl) (by rfl) (Blk.new w2 _ _) (by rw [show (ct : Array Value).size = 4 from ZT]; rfl) (by rw [show (ct : Array Value).size = 4 from ZT]; kernel_rfl) OT ?_
  (try simp only [Act.put, List.setIfInBounds_toArray, List.set_cons_zero, List.set_cons_succ])
  have nV3_R0 : w2.heap.size ≠ R0 := Nat.ne_of_gt (Blk.lt (FR0.out.ext E2.out))
  obtain ⟨xq1, xq2⟩ := new_var w2 26 #[.bool false, .slice none 0 0, .bool false, .slice none 0 0] ct (by rw [show (ct : Array Value).size = 4 from ZT]; rfl)
  generalize (w2.alloc (.cells #[.bool false, .slice none 0 0, .bool false, .slice none 0 0] 26)).setCells w2.heap.size 0 (ct : Array Value).toList = w3 at *
  generalize w2.heap.size = X3 at *
  have E3 := Lib.hid (show Ext w2 w3 from xq1)
  have FV3 := Lib.hid xq2
  clear xq1 xq2
  refine mv_val (v := ?vm4) (w' := w3) (by rfl) ?hm4 ?rm4
  case hm4 => (go_simp <;> with_reducible rfl)
  (try simp only [Act.put, List.setIfInBounds_toArray, List.set_cons_zero, List.set_cons_succ])
  go_upto_region 2 with fail
  refine wp_region_held_drew (S := fun x => Own R0 w3 x) (by kernel_rfl) (Own.of_ext (Ext.refl _).drew) (fun _ => ?_)
  have E4 := Lib.hid (show Ext w3 w3.drew from (Ext.refl _).drew)
  refine md_val (i := 0) (v := ?vm5) (listed' := #[true, false, false, false, false, false, false, false, false, false, false, false, false, false, false, false, false, false, false, false]) (by rfl) (by kernel_rfl) (by kernel_rfl) (by kernel_rfl) (by intro _ _ _ h; exact h) (by rfl) ?hm5 (Own.of_ext E4.out) (by kernel_rfl) ?rm5
  case hm5 => (intro w hSw; (try dsimp only at hSw); go_simp <;> with_reducible rfl)
  (try simp only [Act.put, List.setIfInBounds_toArray, List.set_cons_zero, List.set_cons_succ])
  refine md_part (i := 1) (listed' := #[true, true, false, false, false, false, false, false, false, false, false, false, false, false, false, false, false, false, false, false]) (by rfl) (by kernel_rfl) (by kernel_rfl) (by kernel_rfl) _ _ (by rfl) w.heap.size 0 8 _ cp _ (by intro _ _ _ h; exact h) (by rfl) (by rfl) (fun x hx => ((Fbx0.out.ext (E2.out.trans E3.out))).own hx nbx0_R0) Tryz.underlying27 (by rfl) (by kernel_rfl) (by rw [show (cp : Array Value).size = 24 from ZP]; omega) (Own.of_ext E4.out) (by kernel_rfl) ?_
  (try simp only [Act.put, List.setIfInBounds_toArray, List.set_cons_zero, List.set_cons_succ])
  refine md_val (i := 3) (v := ?vm6) (listed' := #[true, true, false, true, false, false, false, false, false, false, false, false, false, false, false, false, false, false, false, false]) (by rfl) (by kernel_rfl) (by kernel_rfl) (by kernel_rfl) (by intro _ _ _ h; exact h) (by rfl) ?hm6 (Own.of_ext E4.out) (by kernel_rfl) ?rm6
  case hm6 => (intro w hSw; (try dsimp only at hSw); go_simp <;> with_reducible rfl)
  (try simp only [Act.put, List.setIfInBounds_toArray, List.set_cons_zero, List.set_cons_succ])
  refine md_part (i := 4) (listed' := #[true, true, false, true, true, false, false, false, false, false, false, false, false, false, false, false, false, false, false, false]) (by rfl) (by kernel_rfl) (by kernel_rfl) (by kernel_rfl) _ _ (by rfl) w.heap.size 8 8 _ cp _ (by intro _ _ _ h; exact h) (by rfl) (by rfl) (fun x hx => ((Fbx0.out.ext (E2.out.trans E3.out))).own hx nbx0_R0) Tryz.underlying27 (by rfl) (by kernel_rfl) (by rw [show (cp : Array Value).size = 24 from ZP]; omega) (Own.of_ext E4.out) (by kernel_rfl) ?_
  (try simp only [Act.put, List.setIfInBounds_toArray, List.set_cons_zero, List.set_cons_succ])
  refine md_val (i := 5) (v := ?vm7) (listed' := #[true, true, false, true, true, true, false, false, false, false, false, false, false, false, false, false, false, false, false, false]) (by rfl) (by kernel_rfl) (by kernel_rfl) (by kernel_rfl) (by intro _ _ _ h; exact h) (by rfl) ?hm7 (Own.of_ext E4.out) (by kernel_rfl) ?rm7
  case hm7 => (intro w hSw; (try dsimp only at hSw); go_simp <;> with_reducible rfl)
  (try simp only [Act.put, List.setIfInBounds_toArray, List.set_cons_zero, List.set_cons_succ])
  refine md_part (i := 6) (listed' := #[true, true, false, true, true, true, true, false, false, false, false, false, false, false, false, false, false, false, false, false]) (by rfl) (by kernel_rfl) (by kernel_rfl) (by kernel_rfl) _ _ (by rfl) w.heap.size 0 8 _ cp _ (by intro _ _ _ h; exact h) (by rfl) (by rfl) (fun x hx => ((Fbx0.out.ext (E2.out.trans E3.out))).own hx nbx0_R0) Tryz.underlying27 (by rfl) (by kernel_rfl) (by rw [show (cp : Array Value).size = 24 from ZP]; omega) (Own.of_ext E4.out) (by kernel_rfl) ?_
  (try simp only [Act.put, List.setIfInBounds_toArray, List.set_cons_zero, List.set_cons_succ])
  refine md_load (i := 7) (listed' := #[true, true, false, true, true, true, true, true, false, false, false, false, false, false, false, false, false, false, false, false]) (by rfl) (by kernel_rfl) (by kernel_rfl) (by kernel_rfl) _ _ (by rfl) X3 _ ct _ (by intro _ _ _ h; exact h) (by rfl) (by rfl) (fun x hx => (FV3.out).own hx nV3_R0) Tryz.underlying26 (by rfl) (by rw [show (ct : Array Value).size = 4 from ZT]; kernel_rfl) (Own.of_ext E4.out) (by kernel_rfl) ?_
  (try simp only [Act.put, List.setIfInBounds_toArray, List.set_cons_zero, List.set_cons_succ])
  refine md_val (i := 9) (v := ?vm8) (listed' := #[true, true, false, true, true, true, true, true, false, true, false, false, false, false, false, false, false, false, false, false]) (by rfl) (by kernel_rfl) (by kernel_rfl) (by kernel_rfl) (by intro _ _ _ h; exact h) (by rfl) ?hm8 (Own.of_ext E4.out) (by kernel_rfl) ?rm8
  case hm8 => (intro w hSw; (try dsimp only at hSw); go_simp <;> with_reducible rfl)
  (try simp only [Act.put, List.setIfInBounds_toArray, List.set_cons_zero, List.set_cons_succ])
  refine md_part (i := 10) (listed' := #[true, true, false, true, true, true, true, true, false, true, true, false, false, false, false, false, false, false, false, false]) (by rfl) (by kernel_rfl) (by kernel_rfl) (by kernel_rfl) _ _ (by rfl) w.heap.size 8 8 _ cp _ (by intro _ _ _ h; exact h) (by rfl) (by rfl) (fun x hx => ((Fbx0.out.ext (E2.out.trans E3.out))).own hx nbx0_R0) Tryz.underlying27 (by rfl) (by kernel_rfl) (by rw [show (cp : Array Value).size = 24 from ZP]; omega) (Own.of_ext E4.out) (by kernel_rfl) ?_
  (try simp only [Act.put, List.setIfInBounds_toArray, List.set_cons_zero, List.set_cons_succ])
  refine md_val (i := 11) (v := ?vm9) (listed' := #[true, true, false, true, true, true, true, true, false, true, true, true, false, false, false, false, false, false, false, false]) (by rfl) (by kernel_rfl) (by kernel_rfl) (by kernel_rfl) (by intro _ _ _ h; exact h) (by rfl) ?hm9 (Own.of_ext E4.out) (by kernel_rfl) ?rm9
  case hm9 => (intro w hSw; (try dsimp only at hSw); go_simp <;> with_reducible rfl)
  (try simp only [Act.put, List.setIfInBounds_toArray, List.set_cons_zero, List.set_cons_succ])
  refine md_part (i := 12) (listed' := #[true, true, false, true, true, true, true, true, false, true, true, true, true, false, false, false, false, false, false, false]) (by rfl) (by kernel_rfl) (by kernel_rfl) (by kernel_rfl) _ _ (by rfl) w.heap.size 16 8 _ cp _ (by intro _ _ _ h; exact h) (by rfl) (by rfl) (fun x hx => ((Fbx0.out.ext (E2.out.trans E3.out))).own hx nbx0_R0) Tryz.underlying27 (by rfl) (by kernel_rfl) (by rw [show (cp : Array Value).size = 24 from ZP]; omega) (Own.of_ext E4.out) (by kernel_rfl) ?_
  (try simp only [Act.put, List.setIfInBounds_toArray, List.set_cons_zero, List.set_cons_succ])
  refine md_load (i := 13) (listed' := #[true, true, false, true, true, true, true, true, false, true, true, true, true, true, false, false, false, false, false, false]) (by rfl) (by kernel_rfl) (by kernel_rfl) (by kernel_rfl) _ _ (by rfl) X3 _ ct _ (by intro _ _ _ h; exact h) (by rfl) (by rfl) (fun x hx => (FV3.out).own hx nV3_R0) Tryz.underlying26 (by rfl) (by rw [show (ct : Array Value).size = 4 from ZT]; kernel_rfl) (Own.of_ext E4.out) (by kernel_rfl) ?_
  (try simp only [Act.put, List.setIfInBounds_toArray, List.set_cons_zero, List.set_cons_succ])
  refine md_val (i := 15) (v := ?vm10) (listed' := #[true, true, false, true, true, true, true, true, false, true, true, true, true, true, false, true, false, false, false, false]) (by rfl) (by kernel_rfl) (by kernel_rfl) (by kernel_rfl) (by intro _ _ _ h; exact h) (by rfl) ?hm10 (Own.of_ext E4.out) (by kernel_rfl) ?rm10
  case hm10 => (intro w hSw; (try dsimp only at hSw); go_simp <;> with_reducible rfl)
  (try simp only [Act.put, List.setIfInBounds_toArray, List.set_cons_zero, List.set_cons_succ])
  refine md_part (i := 16) (listed' := #[true, true, false, true, true, true, true, true, false, true, true, true, true, true, false, true, true, false, false, false]) (by rfl) (by kernel_rfl) (by kernel_rfl) (by kernel_rfl) _ _ (by rfl) w.heap.size 16 8 _ cp _ (by intro _ _ _ h; exact h) (by rfl) (by rfl) (fun x hx => ((Fbx0.out.ext (E2.out.trans E3.out))).own hx nbx0_R0) Tryz.underlying27 (by rfl) (by kernel_rfl) (by rw [show (cp : Array Value).size = 24 from ZP]; omega) (Own.of_ext E4.out) (by kernel_rfl) ?_
  (try simp only [Act.put, List.setIfInBounds_toArray, List.set_cons_zero, List.set_cons_succ])
  refine md_call (i := 2) (listed' := #[true, true, true, true, true, true, true, true, false, true, true, true, true, true, false, true, true, false, false, false]) (by rfl) (by kernel_rfl) (by rfl) (by go_simp) (rexact_any L _ _ _ _ (FP.out.ext (E1.out.trans (E2.out.trans (E3.out.trans E4.out)))).p0 (by omega)) (by kernel_rfl) ?_
  rintro e w5 ⟨_, rfl, ⟨u0, u1, rfl, hc, hd⟩, hx⟩
  have E5 := Lib.hid (show Ext w3.drew w5 from hx)
  have Fu0 := Lib.hid hc
  have Fu1 := Lib.hid hd
  clear hc hd
  clear hx
  refine ⟨_, rfl, (Own.of_ext (E4.out.trans E5.out)), ?_⟩
  (try simp only [Act.put, List.setIfInBounds_toArray, List.set_cons_zero, List.set_cons_succ])
  refine md_call (i := 8) (listed' := #[true, true, true, true, true, true, true, true, true, true, true, true, true, true, false, true, true, false, false, false]) (by rfl) (by kernel_rfl) (by rfl) (by go_simp) (rbetween_any (L) _ _ _ _ _ _ _ _ _ (FP.out.ext (E1.out.trans (E2.out.trans (E3.out.trans (E4.out.trans E5.out))))).p1 (FP.out.ext (E1.out.trans (E2.out.trans (E3.out.trans (E4.out.trans E5.out))))).p0 ((FT.out.ext (E3.out.trans (E4.out.trans E5.out))).isIn (Nat.le_trans rl13 h1)) (by omega) (by omega)) (by kernel_rfl) ?_
  rintro e w6 ⟨_, rfl, ⟨e0, e1, rfl, hc, hd⟩, hx⟩
  have E6 := Lib.hid (show Ext w5 w6 from hx)
  have Fe0 := Lib.hid hc
  have Fe1 := Lib.hid hd
  clear hc hd
  clear hx
  refine ⟨_, rfl, (Own.of_ext (E4.out.trans (E5.out.trans E6.out))), ?_⟩
  (try simp only [Act.put, List.setIfInBounds_toArray, List.set_cons_zero, List.set_cons_succ])
  refine md_call (i := 14) (listed' := #[true, true, true, true, true, true, true, true, true, true, true, true, true, true, true, true, true, false, false, false]) (by rfl) (by kernel_rfl) (by rfl) (by go_simp) (rbetween_any (L) _ _ _ _ _ _ _ _ _ (FP.out.ext (E1.out.trans (E2.out.trans (E3.out.trans (E4.out.trans (E5.out.trans E6.out)))))).p1 (FP.out.ext (E1.out.trans (E2.out.trans (E3.out.trans (E4.out.trans (E5.out.trans E6.out)))))).p2 ((FT.out.ext (E3.out.trans (E4.out.trans (E5.out.trans E6.out)))).isIn (Nat.le_trans rl13 h1)) (by omega) (by omega)) (by kernel_rfl) ?_
  rintro e w7 ⟨_, rfl, ⟨f0, f1, rfl, hc, hd⟩, hx⟩
  have E7 := Lib.hid (show Ext w6 w7 from hx)
  have Ff0 := Lib.hid hc
  have Ff1 := Lib.hid hd
  clear hc hd
  clear hx
  refine ⟨_, rfl, (Own.of_ext (E4.out.trans (E5.out.trans (E6.out.trans E7.out)))), ?_⟩
  (try simp only [Act.put, List.setIfInBounds_toArray, List.set_cons_zero, List.set_cons_succ])
  refine md_call (i := 17) (listed' := #[true, true, true, true, true, true, true, true, true, true, true, true, true, true, true, true, true, true, false, false]) (by rfl) (by kernel_rfl) (by rfl) (by go_simp) (rexact_any L _ _ _ _ (FP.out.ext (E1.out.trans (E2.out.trans (E3.out.trans (E4.out.trans (E5.out.trans (E6.out.trans E7.out))))))).p2 (by omega)) (by kernel_rfl) ?_
  rintro e w8 ⟨_, rfl, ⟨v0, v1, rfl, hc, hd⟩, hx⟩
  have E8 := Lib.hid (show Ext w7 w8 from hx)
  have Fv0 := Lib.hid hc
  have Fv1 := Lib.hid hd
  clear hc hd
  clear hx
  refine ⟨_, rfl, (Own.of_ext (E4.out.trans (E5.out.trans (E6.out.trans (E7.out.trans E8.out))))), ?_⟩
  (try simp only [Act.put, List.setIfInBounds_toArray, List.set_cons_zero, List.set_cons_succ])
  refine md_val (i := 18) (v := ?vm11) (listed' := #[true, true, true, true, true, true, true, true, true, true, true, true, true, true, true, true, true, true, true, false]) (by rfl) (by kernel_rfl) (by kernel_rfl) (by kernel_rfl) (by intro _ _ _ h; exact h) (by rfl) ?hm11 (Own.of_ext (E4.out.trans (E5.out.trans (E6.out.trans (E7.out.trans E8.out))))) (by kernel_rfl) ?rm11
  case hm11 => (intro w hSw; (try dsimp only at hSw); go_simp <;> with_reducible rfl)
  (try simp only [Act.put, List.setIfInBounds_toArray, List.set_cons_zero, List.set_cons_succ])
  have o1 := Own.setCells w8 R0 #[.bool u0.n, .slice u0.p u0.l u0.c, .bool u0.m, .slice u0.p2 u0.l2 u0.c2, .bool u1.n, .slice u1.p u1.l u1.c, .bool u1.m, .slice u1.p2 u1.l2 u1.c2, .bool e0.n, .slice e0.p e0.l e0.c, .bool e0.m, .slice e0.p2 e0.l2 e0.c2, .bool e1.n, .slice e1.p e1.l e1.c, .bool e1.m, .slice e1.p2 e1.l2 e1.c2, .bool f0.n, .slice f0.p f0.l f0.c, .bool f0.m, .slice f0.p2 f0.l2 f0.c2, .bool f1.n, .slice f1.p f1.l f1.c, .bool f1.m, .slice f1.p2 f1.l2 f1.c2, .bool v0.n, .slice v0.p v0.l v0.c, .bool v0.m, .slice v0.p2 v0.l2 v0.c2, .bool v1.n, .slice v1.p v1.l v1.c, .bool v1.m, .slice v1.p2 v1.l2 v1.c2]
  have kb1 := (FR0.out.ext (E2.out.trans (E3.out.trans (E4.out.trans (E5.out.trans (E6.out.trans (E7.out.trans E8.out)))))))
  have hs1 : Own R0 w3 (w8.setCells R0 0 (#[.bool u0.n, .slice u0.p u0.l u0.c, .bool u0.m, .slice u0.p2 u0.l2 u0.c2, .bool u1.n, .slice u1.p u1.l u1.c, .bool u1.m, .slice u1.p2 u1.l2 u1.c2, .bool e0.n, .slice e0.p e0.l e0.c, .bool e0.m, .slice e0.p2 e0.l2 e0.c2, .bool e1.n, .slice e1.p e1.l e1.c, .bool e1.m, .slice e1.p2 e1.l2 e1.c2, .bool f0.n, .slice f0.p f0.l f0.c, .bool f0.m, .slice f0.p2 f0.l2 f0.c2, .bool f1.n, .slice f1.p f1.l f1.c, .bool f1.m, .slice f1.p2 f1.l2 f1.c2, .bool v0.n, .slice v0.p v0.l v0.c, .bool v0.m, .slice v0.p2 v0.l2 v0.c2, .bool v1.n, .slice v1.p v1.l v1.c, .bool v1.m, .slice v1.p2 v1.l2 v1.c2] : Array Value).toList) := (Own.then_ext' (E4.out.trans (E5.out.trans (E6.out.trans (E7.out.trans E8.out)))) o1)
  refine md_store (i := 19) (listed' := #[true, true, true, true, true, true, true, true, true, true, true, true, true, true, true, true, true, true, true, true]) (by rfl) (by kernel_rfl) (by rfl) _ _ _ (by rfl) R0 _ #[.bool false, .slice none 0 0, .bool false, .slice none 0 0, .bool false, .slice none 0 0, .bool false, .slice none 0 0, .bool false, .slice none 0 0, .bool false, .slice none 0 0, .bool false, .slice none 0 0, .bool false, .slice none 0 0, .bool false, .slice none 0 0, .bool false, .slice none 0 0, .bool false, .slice none 0 0, .bool false, .slice none 0 0, .bool false, .slice none 0 0, .bool false, .slice none 0 0, .bool false, .slice none 0 0, .bool false, .slice none 0 0] #[.bool u0.n, .slice u0.p u0.l u0.c, .bool u0.m, .slice u0.p2 u0.l2 u0.c2, .bool u1.n, .slice u1.p u1.l u1.c, .bool u1.m, .slice u1.p2 u1.l2 u1.c2, .bool e0.n, .slice e0.p e0.l e0.c, .bool e0.m, .slice e0.p2 e0.l2 e0.c2, .bool e1.n, .slice e1.p e1.l e1.c, .bool e1.m, .slice e1.p2 e1.l2 e1.c2, .bool f0.n, .slice f0.p f0.l f0.c, .bool f0.m, .slice f0.p2 f0.l2 f0.c2, .bool f1.n, .slice f1.p f1.l f1.c, .bool f1.m, .slice f1.p2 f1.l2 f1.c2, .bool v0.n, .slice v0.p v0.l v0.c, .bool v0.m, .slice v0.p2 v0.l2 v0.c2, .bool v1.n, .slice v1.p v1.l v1.c, .bool v1.m, .slice v1.p2 v1.l2 v1.c2] (by rfl) (by rfl) kb1 (by rw [show (#[.bool u0.n, .slice u0.p u0.l u0.c, .bool u0.m, .slice u0.p2 u0.l2 u0.c2, .bool u1.n, .slice u1.p u1.l u1.c, .bool u1.m, .slice u1.p2 u1.l2 u1.c2, .bool e0.n, .slice e0.p e0.l e0.c, .bool e0.m, .slice e0.p2 e0.l2 e0.c2, .bool e1.n, .slice e1.p e1.l e1.c, .bool e1.m, .slice e1.p2 e1.l2 e1.c2, .bool f0.n, .slice f0.p f0.l f0.c, .bool f0.m, .slice f0.p2 f0.l2 f0.c2, .bool f1.n, .slice f1.p f1.l f1.c, .bool f1.m, .slice f1.p2 f1.l2 f1.c2, .bool v0.n, .slice v0.p v0.l v0.c, .bool v0.m, .slice v0.p2 v0.l2 v0.c2, .bool v1.n, .slice v1.p v1.l v1.c, .bool v1.m, .slice v1.p2 v1.l2 v1.c2] : Array Value).size = 32 from rfl]; rfl) (by rw [show (#[.bool u0.n, .slice u0.p u0.l u0.c, .bool u0.m, .slice u0.p2 u0.l2 u0.c2, .bool u1.n, .slice u1.p u1.l u1.c, .bool u1.m, .slice u1.p2 u1.l2 u1.c2, .bool e0.n, .slice e0.p e0.l e0.c, .bool e0.m, .slice e0.p2 e0.l2 e0.c2, .bool e1.n, .slice e1.p e1.l e1.c, .bool e1.m, .slice e1.p2 e1.l2 e1.c2, .bool f0.n, .slice f0.p f0.l f0.c, .bool f0.m, .slice f0.p2 f0.l2 f0.c2, .bool f1.n, .slice f1.p f1.l f1.c, .bool f1.m, .slice f1.p2 f1.l2 f1.c2, .bool v0.n, .slice v0.p v0.l v0.c, .bool v0.m, .slice v0.p2 v0.l2 v0.c2, .bool v1.n, .slice v1.p v1.l v1.c, .bool v1.m, .slice v1.p2 v1.l2 v1.c2] : Array Value).size = 32 from rfl]; kernel_rfl) (all_oneCell_toArray (by simp [Value.oneCell'])) hs1 (by kernel_rfl) ?_
  (try simp only [Act.put, List.setIfInBounds_toArray, List.set_cons_zero, List.set_cons_succ])
  have kc1 := kb1.setCells #[.bool u0.n, .slice u0.p u0.l u0.c, .bool u0.m, .slice u0.p2 u0.l2 u0.c2, .bool u1.n, .slice u1.p u1.l u1.c, .bool u1.m, .slice u1.p2 u1.l2 u1.c2, .bool e0.n, .slice e0.p e0.l e0.c, .bool e0.m, .slice e0.p2 e0.l2 e0.c2, .bool e1.n, .slice e1.p e1.l e1.c, .bool e1.m, .slice e1.p2 e1.l2 e1.c2, .bool f0.n, .slice f0.p f0.l f0.c, .bool f0.m, .slice f0.p2 f0.l2 f0.c2, .bool f1.n, .slice f1.p f1.l f1.c, .bool f1.m, .slice f1.p2 f1.l2 f1.c2, .bool v0.n, .slice v0.p v0.l v0.c, .bool v0.m, .slice v0.p2 v0.l2 v0.c2, .bool v1.n, .slice v1.p v1.l v1.c, .bool v1.m, .slice v1.p2 v1.l2 v1.c2] (by rw [show (#[.bool u0.n, .slice u0.p u0.l u0.c, .bool u0.m, .slice u0.p2 u0.l2 u0.c2, .bool u1.n, .slice u1.p u1.l u1.c, .bool u1.m, .slice u1.p2 u1.l2 u1.c2, .bool e0.n, .slice e0.p e0.l e0.c, .bool e0.m, .slice e0.p2 e0.l2 e0.c2, .bool e1.n, .slice e1.p e1.l e1.c, .bool e1.m, .slice e1.p2 e1.l2 e1.c2, .bool f0.n, .slice f0.p f0.l f0.c, .bool f0.m, .slice f0.p2 f0.l2 f0.c2, .bool f1.n, .slice f1.p f1.l f1.c, .bool f1.m, .slice f1.p2 f1.l2 f1.c2, .bool v0.n, .slice v0.p v0.l v0.c, .bool v0.m, .slice v0.p2 v0.l2 v0.c2, .bool v1.n, .slice v1.p v1.l v1.c, .bool v1.m, .slice v1.p2 v1.l2 v1.c2] : Array Value).size = 32 from rfl]; rfl)
  refine wpAnyH_done (by kernel_rfl) ?_ _
  go_wp2_with fail
  refine bodyPost_ret (v := .agg #[.bool u0.n, .slice u0.p u0.l u0.c, .bool u0.m, .slice u0.p2 u0.l2 u0.c2, .bool u1.n, .slice u1.p u1.l u1.c, .bool u1.m, .slice u1.p2 u1.l2 u1.c2, .bool e0.n, .slice e0.p e0.l e0.c, .bool e0.m, .slice e0.p2 e0.l2 e0.c2, .bool e1.n, .slice e1.p e1.l e1.c, .bool e1.m, .slice e1.p2 e1.l2 e1.c2, .bool f0.n, .slice f0.p f0.l f0.c, .bool f0.m, .slice f0.p2 f0.l2 f0.c2, .bool f1.n, .slice f1.p f1.l f1.c, .bool f1.m, .slice f1.p2 f1.l2 f1.c2, .bool v0.n, .slice v0.p v0.l v0.c, .bool v0.m, .slice v0.p2 v0.l2 v0.c2, .bool v1.n, .slice v1.p v1.l v1.c, .bool v1.m, .slice v1.p2 v1.l2 v1.c2]) ?_ rfl ⟨_, rfl, ⟨u0, u1, e0, e1, f0, f1, v0, v1, rfl, ((Fu0.out.ext (E6.out.trans (E7.out.trans E8.out))).own kb1 (noU_of _ (by simp)) o1), ((Fu1.out.ext (E6.out.trans (E7.out.trans E8.out))).own kb1 (noU_of _ (by simp)) o1), ((Fe0.out.ext (E7.out.trans E8.out)).own kb1 (noU_of _ (by simp)) o1), ((Fe1.out.ext (E7.out.trans E8.out)).own kb1 (noU_of _ (by simp)) o1), ((Ff0.out.ext E8.out).own kb1 (noU_of _ (by simp)) o1), ((Ff1.out.ext E8.out).own kb1 (noU_of _ (by simp)) o1), (Fv0.out.own kb1 (noU_of _ (by simp)) o1), (Fv1.out.own kb1 (noU_of _ (by simp)) o1)⟩, (o1.ext (E1.out.trans (E2.out.trans (E3.out.trans (E4.out.trans (E5.out.trans (E6.out.trans (E7.out.trans E8.out))))))) gR0)⟩
  exact results_cell1 rfl rfl (kc1.loadVar rfl rfl (by rfl))

end Go.Proofs.YtllpkoinjompcaaGreat

namespace Go.Proofs.YtllpkoinjompcaaGreat
open Go.RowKit
attribute [local go_sem ↓] Go.wp_at_zero Go.wp_at_succ run_max_ii run_min_ii

set_option maxRecDepth 20000 in
set_option maxHeartbeats 8000000 in
theorem sameQuad_any (L : Nat) (ca cb : Array Value) (A0 A1 B0 B1 C0 C1 : Rat) (w : World) (hA : Q3Is w ca A0 A1 B0 B1 C0 C1) (hB : Q3Is w cb A0 A1 B0 B1 C0 C1) (rA0 : Nm.rl A0 ≤ L) (rA1 : Nm.rl A1 ≤ L) (rB0 : Nm.rl B0 ≤ L) (rB1 : Nm.rl B1 ≤ L) (rC0 : Nm.rl C0 ≤ L) (rC1 : Nm.rl C1 ≤ L) (hL : L ≤ 1000000) :
    Calls Tryz.prog 18 #[.agg ca, .agg cb] w fun e w' => e = .returned (.bool true) ∧ Ext w w' := by
  have ZA := hA.size
  have ZB := hB.size
  have FA := Lib.hid hA
  have FB := Lib.hid hB
  clear hA hB
  go_enter Tryz.func18, Tryz.ntmps18
  go_upto_region 1 with fail
  have hbx0 : Blk ((w.alloc (.cells ca 32)).alloc (.cells cb 32)) (w.heap.size) 32 ca := Blk.ext (Blk.new_at w _ (by simp) _ _) ((Ext.refl _).alloc _)
  have hbx1 : Blk ((w.alloc (.cells ca 32)).alloc (.cells cb 32)) (w.heap.size + 1) 32 cb := Blk.ext (Blk.new_at (w.alloc (.cells ca 32)) _ (by simp) _ _) (Ext.refl _)
  have hE : Ext w ((w.alloc (.cells ca 32)).alloc (.cells cb 32)) := (((Ext.refl _).alloc _).alloc _)
  generalize ((w.alloc (.cells ca 32)).alloc (.cells cb 32)) = wa at *
  generalize w.heap.size + 1 = bx1 at *
  have E1 := Lib.hid (show Ext w wa from hE)
  have Fbx0 := Lib.hid hbx0
  have Fbx1 := Lib.hid hbx1
  clear hE hbx0 hbx1
  refine wp_region_lit ?_
  refine mv_val (v := ?vm1) (w' := wa) (by rfl) ?hm1 ?rm1
  case hm1 => (go_simp <;> with_reducible rfl)
  (try simp only [Act.put, List.setIfInBounds_toArray, List.set_cons_zero, List.set_cons_succ])
  refine mv_part (by rfl) _ _ (by rfl) w.heap.size 0 8 _ ca _ (by rfl) Fbx0.out Tryz.underlying27 (by rfl) (by kernel_rfl) (by rw [show (ca : Array Value).size = 24 from ZA]; omega) ?_
  (try simp only [Act.put, List.setIfInBounds_toArray, List.set_cons_zero, List.set_cons_succ])
  refine mv_val (v := ?vm2) (w' := wa) (by rfl) ?hm2 ?rm2
  case hm2 => (go_simp <;> with_reducible rfl)
  (try simp only [Act.put, List.setIfInBounds_toArray, List.set_cons_zero, List.set_cons_succ])
  refine mv_part (by rfl) _ _ (by rfl) bx1 0 8 _ cb _ (by rfl) Fbx1.out Tryz.underlying27 (by rfl) (by kernel_rfl) (by rw [show (cb : Array Value).size = 24 from ZB]; omega) ?_
  (try simp only [Act.put, List.setIfInBounds_toArray, List.set_cons_zero, List.set_cons_succ])
  refine mv_call (by rfl) (by go_simp) (oSamePoint (L := L) (FA.out.ext E1.out).p0 (FB.out.ext E1.out).p0 rA0 rA1 hL) ?_
  rintro e w2 ⟨rfl, hx⟩
  have E2 := Lib.hid (show Ext wa w2 from hx)
  clear hx
  refine ⟨_, rfl, ?_⟩
  (try simp only [Act.put, List.setIfInBounds_toArray, List.set_cons_zero, List.set_cons_succ])
  refine mv_val (v := ?vm3) (w' := w2) (by rfl) ?hm3 ?rm3
  case hm3 => (go_simp <;> with_reducible rfl)
  (try simp only [Act.put, List.setIfInBounds_toArray, List.set_cons_zero, List.set_cons_succ])
  refine mv_val (v := ?vm4) (w' := w2) (by rfl) ?hm4 ?rm4
  case hm4 => (go_simp <;> with_reducible rfl)
  (try simp only [Act.put, List.setIfInBounds_toArray, List.set_cons_zero, List.set_cons_succ])
  refine mv_part (by rfl) _ _ (by rfl) w.heap.size 8 8 _ ca _ (by rfl) (Fbx0.out.ext E2.out) Tryz.underlying27 (by rfl) (by kernel_rfl) (by rw [show (ca : Array Value).size = 24 from ZA]; omega) ?_
  (try simp only [Act.put, List.setIfInBounds_toArray, List.set_cons_zero, List.set_cons_succ])
  refine mv_val (v := ?vm5) (w' := w2) (by rfl) ?hm5 ?rm5
  case hm5 => (go_simp <;> with_reducible rfl)
  (try simp only [Act.put, List.setIfInBounds_toArray, List.set_cons_zero, List.set_cons_succ])
  refine mv_part (by rfl) _ _ (by rfl) bx1 8 8 _ cb _ (by rfl) (Fbx1.out.ext E2.out) Tryz.underlying27 (by rfl) (by kernel_rfl) (by rw [show (cb : Array Value).size = 24 from ZB]; omega) ?_
  (try simp only [Act.put, List.setIfInBounds_toArray, List.set_cons_zero, List.set_cons_succ])
  refine mv_call (by rfl) (by go_simp) (oSamePoint (L := L) (FA.out.ext (E1.out.trans E2.out)).p1 (FB.out.ext (E1.out.trans E2.out)).p1 rB0 rB1 hL) ?_
  rintro e w3 ⟨rfl, hx⟩
  have E3 := Lib.hid (show Ext w2 w3 from hx)
  clear hx
  refine ⟨_, rfl, ?_⟩
  (try simp only [Act.put, List.setIfInBounds_toArray, List.set_cons_zero, List.set_cons_succ])
  refine mv_val (v := ?vm6) (w' := w3) (by rfl) ?hm6 ?rm6
  case hm6 => (go_simp <;> with_reducible rfl)
  (try simp only [Act.put, List.setIfInBounds_toArray, List.set_cons_zero, List.set_cons_succ])
  refine mv_val (v := ?vm7) (w' := w3) (by rfl) ?hm7 ?rm7
  case hm7 => (go_simp <;> with_reducible rfl)
  (try simp only [Act.put, List.setIfInBounds_toArray, List.set_cons_zero, List.set_cons_succ])
  refine mv_val (v := ?vm8) (w' := w3) (by rfl) ?hm8 ?rm8
  case hm8 => (go_simp <;> with_reducible rfl)
  (try simp only [Act.put, List.setIfInBounds_toArray, List.set_cons_zero, List.set_cons_succ])
  refine mv_part (by rfl) _ _ (by rfl) w.heap.size 16 8 _ ca _ (by rfl) (Fbx0.out.ext (E2.out.trans E3.out)) Tryz.underlying27 (by rfl) (by kernel_rfl) (by rw [show (ca : Array Value).size = 24 from ZA]; omega) ?_
  (try simp only [Act.put, List.setIfInBounds_toArray, List.set_cons_zero, List.set_cons_succ])
  refine mv_val (v := ?vm9) (w' := w3) (by rfl) ?hm9 ?rm9
  case hm9 => (go_simp <;> with_reducible rfl)
  (try simp only [Act.put, List.setIfInBounds_toArray, List.set_cons_zero, List.set_cons_succ])
  refine mv_part (by rfl) _ _ (by rfl) bx1 16 8 _ cb _ (by rfl) (Fbx1.out.ext (E2.out.trans E3.out)) Tryz.underlying27 (by rfl) (by kernel_rfl) (by rw [show (cb : Array Value).size = 24 from ZB]; omega) ?_
  (try simp only [Act.put, List.setIfInBounds_toArray, List.set_cons_zero, List.set_cons_succ])
  refine mv_call (by rfl) (by go_simp) (oSamePoint (L := L) (FA.out.ext (E1.out.trans (E2.out.trans E3.out))).p2 (FB.out.ext (E1.out.trans (E2.out.trans E3.out))).p2 rC0 rC1 hL) ?_
  rintro e w4 ⟨rfl, hx⟩
  have E4 := Lib.hid (show Ext w3 w4 from hx)
  clear hx
  refine ⟨_, rfl, ?_⟩
  (try simp only [Act.put, List.setIfInBounds_toArray, List.set_cons_zero, List.set_cons_succ])
  refine mv_val (v := ?vm10) (w' := w4) (by rfl) ?hm10 ?rm10
  case hm10 => (go_simp <;> with_reducible rfl)
  (try simp only [Act.put, List.setIfInBounds_toArray, List.set_cons_zero, List.set_cons_succ])
  refine mv_val (v := ?vm11) (w' := w4) (by rfl) ?hm11 ?rm11
  case hm11 => (go_simp <;> with_reducible rfl)
  (try simp only [Act.put, List.setIfInBounds_toArray, List.set_cons_zero, List.set_cons_succ])
  go_wp2_with fail
  go_ret
  exact ⟨rfl, (E1.out.trans (E2.out.trans (E3.out.trans E4.out)))⟩

set_option maxRecDepth 20000 in
set_option maxHeartbeats 8000000 in
theorem sameCubic_any (L : Nat) (ca cb : Array Value) (A0 A1 B0 B1 C0 C1 D0 D1 : Rat) (w : World) (hA : C4Is w ca A0 A1 B0 B1 C0 C1 D0 D1) (hB : C4Is w cb A0 A1 B0 B1 C0 C1 D0 D1) (rA0 : Nm.rl A0 ≤ L) (rA1 : Nm.rl A1 ≤ L) (rB0 : Nm.rl B0 ≤ L) (rB1 : Nm.rl B1 ≤ L) (rC0 : Nm.rl C0 ≤ L) (rC1 : Nm.rl C1 ≤ L) (rD0 : Nm.rl D0 ≤ L) (rD1 : Nm.rl D1 ≤ L) (hL : L ≤ 1000000) :
    Calls Tryz.prog 19 #[.agg ca, .agg cb] w fun e w' => e = .returned (.bool true) ∧ Ext w w' := by
  have ZA := hA.size
  have ZB := hB.size
  have FA := Lib.hid hA
  have FB := Lib.hid hB
  clear hA hB
  go_enter Tryz.func19, Tryz.ntmps19
  go_upto_region 1 with fail
  have hbx0 : Blk ((w.alloc (.cells ca 28)).alloc (.cells cb 28)) (w.heap.size) 28 ca := Blk.ext (Blk.new_at w _ (by simp) _ _) ((Ext.refl _).alloc _)
  have hbx1 : Blk ((w.alloc (.cells ca 28)).alloc (.cells cb 28)) (w.heap.size + 1) 28 cb := Blk.ext (Blk.new_at (w.alloc (.cells ca 28)) _ (by simp) _ _) (Ext.refl _)
  have hE : Ext w ((w.alloc (.cells ca 28)).alloc (.cells cb 28)) := (((Ext.refl _).alloc _).alloc _)
  generalize ((w.alloc (.cells ca 28)).alloc (.cells cb 28)) = wa at *
  generalize w.heap.size + 1 = bx1 at *
  have E1 := Lib.hid (show Ext w wa from hE)
  have Fbx0 := Lib.hid hbx0
  have Fbx1 := Lib.hid hbx1
  clear hE hbx0 hbx1
  refine wp_region_lit ?_
  refine mv_val (v := ?vm1) (w' := wa) (by rfl) ?hm1 ?rm1
  case hm1 => (go_simp <;> with_reducible rfl)
  (try simp only [Act.put, List.setIfInBounds_toArray, List.set_cons_zero, List.set_cons_succ])
  refine mv_part (by rfl) _ _ (by rfl) w.heap.size 0 8 _ ca _ (by rfl) Fbx0.out Tryz.underlying27 (by rfl) (by kernel_rfl) (by rw [show (ca : Array Value).size = 32 from ZA]; omega) ?_
  (try simp only [Act.put, List.setIfInBounds_toArray, List.set_cons_zero, List.set_cons_succ])
  refine mv_val (v := ?vm2) (w' := wa) (by rfl) ?hm2 ?rm2
  case hm2 => (go_simp <;> with_reducible rfl)
  (try simp only [Act.put, List.setIfInBounds_toArray, List.set_cons_zero, List.set_cons_succ])
  refine mv_part (by rfl) _ _ (by rfl) bx1 0 8 _ cb _ (by rfl) Fbx1.out Tryz.underlying27 (by rfl) (by kernel_rfl) (by rw [show (cb : Array Value).size = 32 from ZB]; omega) ?_
  (try simp only [Act.put, List.setIfInBounds_toArray, List.set_cons_zero, List.set_cons_succ])
  refine mv_call (by rfl) (by go_simp) (oSamePoint (L := L) (FA.out.ext E1.out).p0 (FB.out.ext E1.out).p0 rA0 rA1 hL) ?_
  rintro e w2 ⟨rfl, hx⟩
  have E2 := Lib.hid (show Ext wa w2 from hx)
  clear hx
  refine ⟨_, rfl, ?_⟩
  (try simp only [Act.put, List.setIfInBounds_toArray, List.set_cons_zero, List.set_cons_succ])
  refine mv_val (v := ?vm3) (w' := w2) (by rfl) ?hm3 ?rm3
  case hm3 => (go_simp <;> with_reducible rfl)
  (try simp only [Act.put, List.setIfInBounds_toArray, List.set_cons_zero, List.set_cons_succ])
  refine mv_val (v := ?vm4) (w' := w2) (by rfl) ?hm4 ?rm4
  case hm4 => (go_simp <;> with_reducible rfl)
  (try simp only [Act.put, List.setIfInBounds_toArray, List.set_cons_zero, List.set_cons_succ])
  refine mv_part (by rfl) _ _ (by rfl) w.heap.size 8 8 _ ca _ (by rfl) (Fbx0.out.ext E2.out) Tryz.underlying27 (by rfl) (by kernel_rfl) (by rw [show (ca : Array Value).size = 32 from ZA]; omega) ?_
  (try simp only [Act.put, List.setIfInBounds_toArray, List.set_cons_zero, List.set_cons_succ])
  refine mv_val (v := ?vm5) (w' := w2) (by rfl) ?hm5 ?rm5
  case hm5 => (go_simp <;> with_reducible rfl)
  (try simp only [Act.put, List.setIfInBounds_toArray, List.set_cons_zero, List.set_cons_succ])
  refine mv_part (by rfl) _ _ (by rfl) bx1 8 8 _ cb _ (by rfl) (Fbx1.out.ext E2.out) Tryz.underlying27 (by rfl) (by kernel_rfl) (by rw [show (cb : Array Value).size = 32 from ZB]; omega) ?_
  (try simp only [Act.put, List.setIfInBounds_toArray, List.set_cons_zero, List.set_cons_succ])
  refine mv_call (by rfl) (by go_simp) (oSamePoint (L := L) (FA.out.ext (E1.out.trans E2.out)).p1 (FB.out.ext (E1.out.trans E2.out)).p1 rB0 rB1 hL) ?_
  rintro e w3 ⟨rfl, hx⟩
  have E3 := Lib.hid (show Ext w2 w3 from hx)
  clear hx
  refine ⟨_, rfl, ?_⟩
  (try simp only [Act.put, List.setIfInBounds_toArray, List.set_cons_zero, List.set_cons_succ])
  refine mv_val (v := ?vm6) (w' := w3) (by rfl) ?hm6 ?rm6
  case hm6 => (go_simp <;> with_reducible rfl)
  (try simp only [Act.put, List.setIfInBounds_toArray, List.set_cons_zero, List.set_cons_succ])
  refine mv_val (v := ?vm7) (w' := w3) (by rfl) ?hm7 ?rm7
  case hm7 => (go_simp <;> with_reducible rfl)
  (try simp only [Act.put, List.setIfInBounds_toArray, List.set_cons_zero, List.set_cons_succ])
  refine mv_val (v := ?vm8) (w' := w3) (by rfl) ?hm8 ?rm8
  case hm8 => (go_simp <;> with_reducible rfl)
  (try simp only [Act.put, List.setIfInBounds_toArray, List.set_cons_zero, List.set_cons_succ])
  refine mv_part (by rfl) _ _ (by rfl) w.heap.size 16 8 _ ca _ (by rfl) (Fbx0.out.ext (E2.out.trans E3.out)) Tryz.underlying27 (by rfl) (by kernel_rfl) (by rw [show (ca : Array Value).size = 32 from ZA]; omega) ?_
  (try simp only [Act.put, List.setIfInBounds_toArray, List.set_cons_zero, List.set_cons_succ])
  refine mv_val (v := ?vm9) (w' := w3) (by rfl) ?hm9 ?rm9
  case hm9 => (go_simp <;> with_reducible rfl)
  (try simp only [Act.put, List.setIfInBounds_toArray, List.set_cons_zero, List.set_cons_succ])
  refine mv_part (by rfl) _ _ (by rfl) bx1 16 8 _ cb _ (by rfl) (Fbx1.out.ext (E2.out.trans E3.out)) Tryz.underlying27 (by rfl) (by kernel_rfl) (by rw [show (cb : Array Value).size = 32 from ZB]; omega) ?_
  (try simp only [Act.put, List.setIfInBounds_toArray, List.set_cons_zero, List.set_cons_succ])
  refine mv_call (by rfl) (by go_simp) (oSamePoint (L := L) (FA.out.ext (E1.out.trans (E2.out.trans E3.out))).p2 (FB.out.ext (E1.out.trans (E2.out.trans E3.out))).p2 rC0 rC1 hL) ?_
  rintro e w4 ⟨rfl, hx⟩
  have E4 := Lib.hid (show Ext w3 w4 from hx)
  clear hx
  refine ⟨_, rfl, ?_⟩
  (try simp only [Act.put, List.setIfInBounds_toArray, List.set_cons_zero, List.set_cons_succ])
  refine mv_val (v := ?vm10) (w' := w4) (by rfl) ?hm10 ?rm10
  case hm10 => (go_simp <;> with_reducible rfl)
  (try simp only [Act.put, List.setIfInBounds_toArray, List.set_cons_zero, List.set_cons_succ])
  refine mv_val (v := ?vm11) (w' := w4) (by rfl) ?hm11 ?rm11
  case hm11 => (go_simp <;> with_reducible rfl)
  (try simp only [Act.put, List.setIfInBounds_toArray, List.set_cons_zero, List.set_cons_succ])
  refine mv_val (v := ?vm12) (w' := w4) (by rfl) ?hm12 ?rm12
  case hm12 => (go_simp <;> with_reducible rfl)
  (try simp only [Act.put, List.setIfInBounds_toArray, List.set_cons_zero, List.set_cons_succ])
  refine mv_part (by rfl) _ _ (by rfl) w.heap.size 24 8 _ ca _ (by rfl) (Fbx0.out.ext (E2.out.trans (E3.out.trans E4.out))) Tryz.underlying27 (by rfl) (by kernel_rfl) (by rw [show (ca : Array Value).size = 32 from ZA]; omega) ?_
  (try simp only [Act.put, List.setIfInBounds_toArray, List.set_cons_zero, List.set_cons_succ])
  refine mv_val (v := ?vm13) (w' := w4) (by rfl) ?hm13 ?rm13
  case hm13 => (go_simp <;> with_reducible rfl)
  (try simp only [Act.put, List.setIfInBounds_toArray, List.set_cons_zero, List.set_cons_succ])
  refine mv_part (by rfl) _ _ (by rfl) bx1 24 8 _ cb _ (by rfl) (Fbx1.out.ext (E2.out.trans (E3.out.trans E4.out))) Tryz.underlying27 (by rfl) (by kernel_rfl) (by rw [show (cb : Array Value).size = 32 from ZB]; omega) ?_
  (try simp only [Act.put, List.setIfInBounds_toArray, List.set_cons_zero, List.set_cons_succ])
  refine mv_call (by rfl) (by go_simp) (oSamePoint (L := L) (FA.out.ext (E1.out.trans (E2.out.trans (E3.out.trans E4.out)))).p3 (FB.out.ext (E1.out.trans (E2.out.trans (E3.out.trans E4.out)))).p3 rD0 rD1 hL) ?_
  rintro e w5 ⟨rfl, hx⟩
  have E5 := Lib.hid (show Ext w4 w5 from hx)
  clear hx
  refine ⟨_, rfl, ?_⟩
  (try simp only [Act.put, List.setIfInBounds_toArray, List.set_cons_zero, List.set_cons_succ])
  refine mv_val (v := ?vm14) (w' := w5) (by rfl) ?hm14 ?rm14
  case hm14 => (go_simp <;> with_reducible rfl)
  (try simp only [Act.put, List.setIfInBounds_toArray, List.set_cons_zero, List.set_cons_succ])
  refine mv_val (v := ?vm15) (w' := w5) (by rfl) ?hm15 ?rm15
  case hm15 => (go_simp <;> with_reducible rfl)
  (try simp only [Act.put, List.setIfInBounds_toArray, List.set_cons_zero, List.set_cons_succ])
  go_wp2_with fail
  go_ret
  exact ⟨rfl, (E1.out.trans (E2.out.trans (E3.out.trans (E4.out.trans E5.out))))⟩

end Go.Proofs.YtllpkoinjompcaaGreat

namespace Go.Proofs.YtllpkoinjompcaaGreat
open Go.RowKit

/-- No cell is a digit. -/
def NoUL (l : List Value) : Prop := ∀ x ∈ l, ∀ k : Int, x ≠ .int .u32 k
theorem NoUL.app {a b : List Value} (h : NoUL a) (k : NoUL b) : NoUL (a ++ b) := fun x hx => by
  rcases List.mem_append.1 hx with hx | hx
  · exact h x hx
  · exact k x hx
theorem NoUL.left {a b : List Value} (h : NoUL (a ++ b)) : NoUL a := fun x hx => h x (List.mem_append_left _ hx)
theorem NoUL.right {a b : List Value} (h : NoUL (a ++ b)) : NoUL b := fun x hx => h x (List.mem_append_right _ hx)
theorem NoUL.drop {a : List Value} (h : NoUL a) (n : Nat) : NoUL (a.drop n) := fun x hx => h x (List.mem_of_mem_drop hx)
theorem NoUL.arr {a : List Value} (h : NoUL a) : NoU a.toArray := noU_of _ h
theorem noUL_zero (z : Array Value) (n : Nat) (hs : 0 < z.size) (h : NoUL z.toList) : NoUL (Builtin.zeroCells z n).toList := by
  intro x hx k
  unfold Builtin.zeroCells at hx
  simp only [Array.toList_map, List.mem_map] at hx
  obtain ⟨i, _, rfl⟩ := hx
  have hlt : i % z.size < z.size := Nat.mod_lt _ hs
  rw [getElem!_pos z _ hlt]
  exact h _ (by simp) k

/-- v is a slice that the function made: n elements, the cells xs, in a block from base on, none of whose cells is a digit. -/
def RowN (w : World) (base : Nat) (e : TypeId) (size : Nat) (v : Value) (n : Nat) (xs : List Value) : Prop :=
  xs.length = n * size ∧ (v = .slice none 0 0 ∧ n = 0 ∨
    ∃ g cap rest, v = .slice (some ⟨g, 0, none⟩) n cap ∧ base ≤ g ∧ Blk w g e (xs ++ rest).toArray ∧ n ≤ cap ∧ cap ≤ maxLen ∧ xs.length + rest.length = cap * size ∧ NoUL (xs ++ rest))

theorem RowN.nil (w : World) (base : Nat) (e : TypeId) (size : Nat) : RowN w base e size (.slice none 0 0) 0 [] := ⟨by simp, .inl ⟨rfl, rfl⟩⟩
theorem RowN.empty (w : World) (base : Nat) (e : TypeId) (size : Nat) (hb : base ≤ w.heap.size) : RowN (w.alloc (.cells #[] e)) base e size (.slice (some ⟨w.heap.size, 0, none⟩) 0 0) 0 [] :=
  ⟨by simp, .inr ⟨w.heap.size, 0, [], rfl, hb, Blk.new w e #[], Nat.le_refl _, Nat.zero_le _, by simp, by intro x hx; simp at hx⟩⟩
theorem RowN.ext {w w' : World} {base : Nat} {e : TypeId} {size : Nat} {v : Value} {n : Nat} {xs : List Value} (h : RowN w base e size v n xs) (x : Ext w w') : RowN w' base e size v n xs := by
  obtain ⟨h1, h2 | ⟨g, cap, rest, a, b, c, d⟩⟩ := h
  · exact ⟨h1, .inl h2⟩
  · exact ⟨h1, .inr ⟨g, cap, rest, a, b, c.ext x, d⟩⟩
theorem RowN.alloc' {w : World} {base : Nat} {e : TypeId} {size : Nat} {v : Value} {n : Nat} {xs : List Value} (h : RowN w base e size v n xs) (o : Obj) : RowN (w.alloc o) base e size v n xs := h.ext ((Ext.refl w).alloc o)
theorem RowN.block {w : World} {base : Nat} {e : TypeId} {size : Nat} {v : Value} {n : Nat} {xs : List Value} (h : RowN w base e size v n xs) : ∀ k, v.ownBlock = some k → base ≤ k := by
  intro k hk
  obtain ⟨h1, ⟨rfl, _⟩ | ⟨g, cap, rest, rfl, b, _⟩⟩ := h
  · simp [Value.ownBlock] at hk
  · simp [Value.ownBlock] at hk; omega
/-- Another block is stored into: the row stands. -/
theorem RowN.own {w w' : World} {base : Nat} {e : TypeId} {size : Nat} {v : Value} {n : Nat} {xs : List Value} (h : RowN w base e size v n xs) {X : Nat} (o : Own X w w') (hne : ∀ k, v.ownBlock = some k → k ≠ X) : RowN w' base e size v n xs := by
  obtain ⟨h1, h2 | ⟨g, cap, rest, rfl, b, c, d⟩⟩ := h
  · exact ⟨h1, .inl h2⟩
  · exact ⟨h1, .inr ⟨g, cap, rest, rfl, b, c.own o (hne g (by simp [Value.ownBlock])), d⟩⟩

theorem own_setRow (w : World) (g : Nat) (cs : Array Value) : Own g w (w.setRow g cs) :=
  ⟨rfl, rfl, rfl, by simp, fun k _ hk => setRow_other w g k _ (fun e => hk (by rw [e]))⟩

/-- append to such a slice. -/
theorem run_append_rowN {P : Program} (w : World) (base : Nat) (t ty e : TypeId) (i : TypeInfo) (z : Value) (size bytes : Nat) (ht : P.underlying t = some (.slice e)) (hi : P.info? e = some i) (hz : i.zero = some z)
    (hsize : i.size = size) (hby : i.bytes = bytes) (hzs : z.cells.size = size) (hsz : 0 < size) (hzu : NoUL z.cells.toList)
    (v : Value) (n : Nat) (xs : List Value) (hown : RowN w base e size v n xs)
    (a : Addr) (m c : Nat) (news : List Value) (hl : news.length = m * size) (hnews : ∀ j u, news[j]? = some u → w.cell? (a.add j) = some u) (h1 : ∀ u ∈ news, u.oneCell' = true) (hnu : NoUL news)
    (hm : 0 < m) (h63 : n + m ≤ maxLen) (hbytes : (n + m) * bytes ≤ 140737488355328) (hbase : base ≤ w.heap.size) :
    ∃ v' w', (Builtin.append_ #[t, t] ty #[v, .slice (some a) m c]).run P w = .ok v' w' ∧ RowN w' base e size v' (n + m) (xs ++ news) ∧ w.grownBy w' v.ownBlock ∧
      (∀ (r : RV) (q : Rat), r.Is w q → r.Is w' q) ∧ ∃ g cap, v' = .slice (some ⟨g, 0, none⟩) (n + m) cap := by
  subst hsize
  subst hby
  have hsmall : n + m ≤ 9223372036854775807 := by simp only [maxLen] at h63; omega
  have hlen : (xs ++ news).length = (n + m) * i.size := by rw [List.length_append, hown.1, hl, Nat.add_mul]
  have hzc : ∀ k, NoUL (Builtin.zeroCells z.cells k).toList := fun k => noUL_zero _ _ (by omega) hzu
  have grown : ∀ (old : Nat), old < n + m → NoUL xs → ∀ (row : Option Nat),
      RowN (w.drew.alloc (.cells (xs.toArray ++ news.toArray ++ Builtin.zeroCells z.cells (grownCap w (n + m) old e - (n + m))) e)) base e i.size
        (.slice (some ⟨w.heap.size, 0, none⟩) (n + m) (grownCap w (n + m) old e)) (n + m) (xs ++ news) ∧
      w.grownBy (w.drew.alloc (.cells (xs.toArray ++ news.toArray ++ Builtin.zeroCells z.cells (grownCap w (n + m) old e - (n + m))) e)) row ∧
      Ext w (w.drew.alloc (.cells (xs.toArray ++ news.toArray ++ Builtin.zeroCells z.cells (grownCap w (n + m) old e - (n + m))) e)) := by
    intro old ho hxu row
    have hge := grownCap_ge w (n + m) old e
    have hcm : grownCap w (n + m) old e ≤ maxLen := grownCap_le_maxLen w (n + m) old e h63
    refine ⟨⟨hlen, .inr ⟨w.heap.size, _, (Builtin.zeroCells z.cells (grownCap w (n + m) old e - (n + m))).toList, rfl, hbase, ?_, hge, hcm, ?_, (hxu.app hnu).app (hzc _)⟩⟩, ⟨rfl, rfl, rfl, by simp, fun k hk _ => Below.heap_alloc w.drew _ k hk⟩, ((Ext.refl w).drew).alloc _⟩
    · have h := Blk.new w.drew e (xs.toArray ++ news.toArray ++ Builtin.zeroCells z.cells (grownCap w (n + m) old e - (n + m)))
      have e2 : (xs ++ news ++ (Builtin.zeroCells z.cells (grownCap w (n + m) old e - (n + m))).toList).toArray = xs.toArray ++ news.toArray ++ Builtin.zeroCells z.cells (grownCap w (n + m) old e - (n + m)) := by
        apply Array.ext'; simp
      rw [e2]
      exact h
    · rw [hlen, Array.length_toList, size_zeroCells, hzs, ← Nat.add_mul]
      congr 1
      omega
  rcases hown.2 with ⟨rfl, rfl⟩ | ⟨g, cap, rest, rfl, hbg, hg, hnc, hcm, hcs, hnr⟩
  · have hx : xs = [] := List.eq_nil_of_length_eq_zero (by simpa using hown.1)
    subst hx
    have hr := run_append_nil (P := P) w t ty e i z ht hi hz a m c news hl hnews (by omega) (by omega) (by have hb := hbytes; simp only [Nat.zero_add] at hb; omega)
    have hgr := grown 0 (by omega) (by intro x hx; simp at hx) (Value.ownBlock (.slice none 0 0))
    simp only [Nat.zero_add, List.nil_append, Array.empty_append] at hgr ⊢
    exact ⟨_, _, hr, hgr.1, hgr.2.1, fun r q h => h.ext hgr.2.2, _, _, rfl⟩
  · by_cases hroom : n + m ≤ cap
    · have hcur : (xs ++ rest).toArray.size = cap * i.size := by simp [hcs]
      have hfit : n * i.size + news.length ≤ (xs ++ rest).toArray.size := by rw [hl, hcur, ← Nat.add_mul]; exact Nat.mul_le_mul_right _ hroom
      have hr := run_append_room (P := P) w t ty e i ht hi g n cap _ hg a m c news hl hnews h1 hroom hfit
      have ho := own_setRow w g ((xs ++ rest).toArray.toList.take (n * i.size) ++ news ++ (xs ++ rest).toArray.toList.drop (n * i.size + news.length)).toArray
      have e1 : (xs ++ rest).toArray.toList.take (n * i.size) = xs := by rw [List.toList_toArray, ← hown.1]; exact List.take_left
      have e2 : (xs ++ rest).toArray.toList.drop (n * i.size + news.length) = rest.drop news.length := by
        rw [List.toList_toArray, ← hown.1, List.drop_append, List.drop_of_length_le (by omega), List.nil_append]
        congr 1
        omega
      rw [e1, e2] at hr ho
      refine ⟨_, _, hr, ⟨hlen, .inr ⟨g, cap, rest.drop news.length, rfl, hbg, setRow_heap w g _ _ e _ hg, hroom, hcm, ?_, (hnr.left.app hnu).app (hnr.right.drop _)⟩⟩, ?_, fun r q h => h.own hg hnr.arr ho, _, _, rfl⟩
      · rw [List.length_append, List.length_drop]
        have h5 : (xs ++ rest).toArray.size = xs.length + rest.length := by simp
        have h6 := hown.1
        omega
      · exact ho
    · have holds : ∀ j u, xs[j]? = some u → w.cell? ((⟨g, 0, none⟩ : Addr).add j) = some u := by
        intro j u hj
        have e3 : (⟨g, 0, none⟩ : Addr).add j = ⟨g, j, none⟩ := by unfold Addr.add; split <;> simp_all
        rw [e3, hg.cell j, List.getElem?_toArray, List.getElem?_append_left (List.getElem?_eq_some_iff.1 hj).1]
        exact hj
      have hr := run_append_grow (P := P) w t ty e i z ht hi hz ⟨g, 0, none⟩ n cap xs hown.1 holds a m c news hl hnews (by omega) (by omega) (growslice_fits (by omega) hbytes)
      have hgr := grown cap (by omega) hnr.left (Value.ownBlock (.slice (some ⟨g, 0, none⟩) n cap))
      exact ⟨_, _, hr, hgr.1, hgr.2.1, fun r q h => h.ext hgr.2.2, _, _, rfl⟩

theorem wp_append_rowN {P : Program} {w : World} {o : Oper} {a : Act} {K : Act → World → Prop} {Q : Exit → Act → World → Prop} (s x : Operand) (t : TypeId)
    (ho : o.op = .call { callee := .builtin .append, args := #[s, x], argTypes := #[t, t] })
    (base : Nat) (e : TypeId) (i : TypeInfo) (z : Value) (size bytes : Nat) (ht : P.underlying t = some (.slice e)) (hi : P.info? e = some i) (hz : i.zero = some z)
    (hsize : i.size = size) (hby : i.bytes = bytes) (hzs : z.cells.size = size) (hsz : 0 < size) (hzu : NoUL z.cells.toList)
    (v : Value) (n : Nat) (xs : List Value) (hs : a.eval s = v) (hown : RowN w base e size v n xs)
    (ad : Addr) (m c : Nat) (news : List Value) (hx : a.eval x = .slice (some ad) m c) (hl : news.length = m * size) (hnews : ∀ j u, news[j]? = some u → w.cell? (ad.add j) = some u) (h1 : ∀ u ∈ news, u.oneCell' = true) (hnu : NoUL news)
    (hm : 0 < m) (h63 : n + m ≤ maxLen) (hbytes : (n + m) * bytes ≤ 140737488355328) (hbase : base ≤ w.heap.size)
    (h : ∀ g cap w', RowN w' base e size (.slice (some ⟨g, 0, none⟩) (n + m) cap) (n + m) (xs ++ news) → w.grownBy w' v.ownBlock → (∀ (r : RV) (q : Rat), r.Is w q → r.Is w' q) → K (a.put o.dst (.slice (some ⟨g, 0, none⟩) (n + m) cap)) w') : o.wp P a w K Q := by
  obtain ⟨v', w', hr, h2, h3, h4, g, cap, rfl⟩ := run_append_rowN (P := P) w base t o.type e i z size bytes ht hi hz hsize hby hzs hsz hzu v n xs hown ad m c news hl hnews h1 hnu hm h63 hbytes hbase
  unfold Oper.wp execOp
  simp only [ho, resolve, invoke, builtin, Sem.run_bind, Sem.run_pure, Result.andThen_ok, List.map_toArray, List.map_cons, List.map_nil, hs, hx, hr]
  exact h g cap w' h2 h3 h4
/-- A part of a row is read: taken first. -/
theorem md_range {P : Program} {l : List Oper} {Q : Exit → Act → World → Prop} {md : Region.Mode} {S : World → Prop} {i : Nat} {oi : Oper} {fuel : Nat} {listed listed' : Array Bool} {a : Act} {w : World}
    (hi : l[i]? = some oi) (hs : Region.noSelect l.toArray = true) (hf : Region.free md l.toArray listed i = true) (hr : (Region.ready md l.toArray listed).contains i = true)
    (ty : TypeId) (x : Operand) (ho : oi.op = .load ty x) (g o : Nat) (cs : List Value) (d : TypeDesc)
    (hQ : ∀ c a w, Q (.panic c) (a.put oi.dst (.agg cs.toArray)) w → Q (.panic c) a w) (hw : Region.wanted oi (yielded l.toArray a.tmps) = true) (hx : a.eval x = .pointer (some ⟨g, o, none⟩)) (hb : ∀ w, S w → w.rangeAt g o cs)
    (hu : P.underlying ty = some d) (hd : d.isRow = true) (hz : (P.info? ty).map (·.size) = some cs.length) (hS : S w)
    (hl : listed.setIfInBounds i true = listed') (h : wpAnyH P md l.toArray Q S fuel listed' (a.put oi.dst (.agg cs.toArray)) w) : wpAnyH P md l.toArray Q S (fuel + 1) listed a w :=
  wpAnyH_take_l (v := .agg cs.toArray) hi hs hf hr hQ (yieldsIf_load_mid (P := P) (ops := l.toArray) (S := S) hw ty x ho g o hx cs d hb hu hd hz) hS (by rw [hl]; exact h)

/-- append, the one operation that may come up in a region that draws its order. -/
theorem md_append {P : Program} {l : List Oper} {Q : Exit → Act → World → Prop} {md : Region.Mode} {S : World → Prop} {j : Nat} {oi : Oper} {fuel : Nat} {listed listed' : Array Bool} {a : Act} {w : World}
    (hj : l[j]? = some oi) (hr : Region.ready md l.toArray listed = [j]) (hw : Region.wanted oi (yielded l.toArray a.tmps) = true) (s x : Operand) (t : TypeId)
    (ho : oi.op = .call { callee := .builtin .append, args := #[s, x], argTypes := #[t, t] })
    (base : Nat) (e : TypeId) (i : TypeInfo) (z : Value) (size bytes : Nat) (ht : P.underlying t = some (.slice e)) (hi : P.info? e = some i) (hz : i.zero = some z)
    (hsize : i.size = size) (hby : i.bytes = bytes) (hzs : z.cells.size = size) (hsz : 0 < size) (hzu : NoUL z.cells.toList)
    (v : Value) (n : Nat) (xs : List Value) (hs : a.eval s = v) (hown : RowN w base e size v n xs)
    (ad : Addr) (m c : Nat) (news : List Value) (hx : a.eval x = .slice (some ad) m c) (hl : news.length = m * size) (hnews : ∀ j u, news[j]? = some u → w.cell? (ad.add j) = some u) (h1 : ∀ u ∈ news, u.oneCell' = true) (hnu : NoUL news)
    (hm : 0 < m) (h63 : n + m ≤ maxLen) (hbytes : (n + m) * bytes ≤ 140737488355328) (hbase : base ≤ w.heap.size) (hl' : listed.setIfInBounds j true = listed')
    (h : ∀ g cap w', RowN w' base e size (.slice (some ⟨g, 0, none⟩) (n + m) cap) (n + m) (xs ++ news) → w.grownBy w' v.ownBlock → (∀ (r : RV) (q : Rat), r.Is w q → r.Is w' q) →
      S w' ∧ wpAnyH P md l.toArray Q S fuel listed' (a.put oi.dst (.slice (some ⟨g, 0, none⟩) (n + m) cap)) w') : wpAnyH P md l.toArray Q S (fuel + 1) listed a w :=
  wpAnyH_one_l hj hr (fun K hK => by
    rw [if_pos hw]
    refine wp_append_rowN s x t ho base e i z size bytes ht hi hz hsize hby hzs hsz hzu v n xs hs hown ad m c news hx hl hnews h1 hnu hm h63 hbytes hbase fun g cap w' h2 h3 h4 => ?_
    obtain ⟨k1, k2⟩ := h g cap w' h2 h3 h4
    exact hK.out _ _ k1 (fun _ => by rw [hl']; exact k2))
theorem Blk.grown {w w' : World} {b : Nat} {t : TypeId} {cs : Array Value} {row : Option Nat} (h : Blk w b t cs) (hg : w.grownBy w' row) (hne : row ≠ some b) : Blk w' b t cs := by
  unfold Blk
  rw [hg.block b h.lt (Ne.symm hne)]
  exact h
end Go.Proofs.YtllpkoinjompcaaGreat

namespace Go.Proofs.YtllpkoinjompcaaGreat
open Go.RowKit
attribute [local go_sem ↓] Go.wp_at_zero Go.wp_at_succ run_max_ii run_min_ii

/-- The cells of rational numbers, one behind the other. -/
def rvCells (rs : List RV) : List Value := rs.flatMap fun a => [.bool a.n, .slice a.p a.l a.c, .bool a.m, .slice a.p2 a.l2 a.c2]
theorem rvCells_snoc (rs : List RV) (a : RV) : rvCells (rs ++ [a]) = rvCells rs ++ [.bool a.n, .slice a.p a.l a.c, .bool a.m, .slice a.p2 a.l2 a.c2] := by simp [rvCells]
theorem rvCells_length (rs : List RV) : (rvCells rs).length = rs.length * 4 := by
  induction rs with
  | nil => rfl
  | cons x xs ih => simp only [rvCells, List.flatMap_cons, List.length_append, List.length_cons, List.length_nil] at ih ⊢; omega
theorem rvCells_get (rs : List RV) : ∀ (i j : Nat), i < rs.length → j < 4 → (rvCells rs)[i * 4 + j]? = [.bool (rs.getD i RV.zero).n, .slice (rs.getD i RV.zero).p (rs.getD i RV.zero).l (rs.getD i RV.zero).c, .bool (rs.getD i RV.zero).m, .slice (rs.getD i RV.zero).p2 (rs.getD i RV.zero).l2 (rs.getD i RV.zero).c2][j]? := by
  induction rs with
  | nil => intro i j hi; simp at hi
  | cons x xs ih =>
    intro i j hi hj
    have e : rvCells (x :: xs) = [.bool x.n, .slice x.p x.l x.c, .bool x.m, .slice x.p2 x.l2 x.c2] ++ rvCells xs := by simp [rvCells]
    rw [e]
    cases i with
    | zero => rw [List.getElem?_append_left (by simp; omega), Nat.zero_mul, Nat.zero_add]; rfl
    | succ i =>
      rw [List.getElem?_append_right (by simp; omega)]
      have := ih i j (by simpa using hi) hj
      simp only [List.length_cons, List.length_nil]
      rw [show (i + 1) * 4 + j - (0 + 1 + 1 + 1 + 1) = i * 4 + j by omega, this]
      rfl
theorem one_rv (a : RV) : ∀ u ∈ ([.bool a.n, .slice a.p a.l a.c, .bool a.m, .slice a.p2 a.l2 a.c2] : List Value), u.oneCell' = true := by simp [Value.oneCell']
theorem noUL_one (a : RV) : NoUL [.bool a.n, .slice a.p a.l a.c, .bool a.m, .slice a.p2 a.l2 a.c2] := by intro x hx k; simp at hx; rcases hx with rfl | rfl | rfl | rfl <;> simp

/-- v is a slice that reads as the numbers qs, of at most L digits each. -/
def RatsV (L : Nat) (w : World) (v : Value) (qs : List Rat) : Prop :=
  ∃ (A : Option Addr) (cap : Nat) (rs : List RV), v = .slice A qs.length cap ∧ rs.length = qs.length ∧ (∀ i, i < qs.length → (rs.getD i RV.zero).In L w (qs.getD i 0)) ∧
    (0 < qs.length → ∃ g off, A = some ⟨g, off, none⟩ ∧ ∀ i, i < qs.length → w.rangeAt g (off + i * 4) [.bool (rs.getD i RV.zero).n, .slice (rs.getD i RV.zero).p (rs.getD i RV.zero).l (rs.getD i RV.zero).c, .bool (rs.getD i RV.zero).m, .slice (rs.getD i RV.zero).p2 (rs.getD i RV.zero).l2 (rs.getD i RV.zero).c2])
theorem range_ext {w w' : World} {g o : Nat} {cs : List Value} (h : w.rangeAt g o cs) (x : Ext w w') : w'.rangeAt g o cs := fun j v hv => x.get (h j v hv)
theorem RatsV.ext {L : Nat} {w w' : World} {v : Value} {qs : List Rat} (h : RatsV L w v qs) (x : Ext w w') : RatsV L w' v qs := by
  obtain ⟨A, cap, rs, h1, h2, h3, h4⟩ := h
  refine ⟨A, cap, rs, h1, h2, fun i hi => (h3 i hi).ext x, fun h0 => ?_⟩
  obtain ⟨g, off, h5, h6⟩ := h4 h0
  exact ⟨g, off, h5, fun i hi => range_ext (h6 i hi) x⟩
theorem RatsV.of_row {L : Nat} {w : World} {base : Nat} {e : TypeId} {v : Value} {rs : List RV} {qs : List Rat} (h : RowN w base e 4 v rs.length (rvCells rs)) (hl : rs.length = qs.length) (hq : ∀ i, i < qs.length → (rs.getD i RV.zero).In L w (qs.getD i 0)) : RatsV L w v qs := by
  obtain ⟨h1, ⟨rfl, h2⟩ | ⟨g, cap, rest, rfl, _, hg, _⟩⟩ := h
  · exact ⟨none, 0, rs, by rw [← hl, h2], hl, hq, fun h0 => by omega⟩
  · refine ⟨_, cap, rs, by rw [hl], hl, hq, fun h0 => ⟨g, 0, rfl, fun i hi j u hu => ?_⟩⟩
    have hj : j < 4 := (List.getElem?_eq_some_iff.1 hu).1
    rw [Nat.zero_add, hg.cell, List.getElem?_toArray, List.getElem?_append_left (by rw [rvCells_length]; omega), rvCells_get rs i j (by omega) hj]
    exact hu

theorem RatsV.of_blk {L : Nat} {w : World} {X : Nat} {e : TypeId} {rs : List RV} {qs : List Rat} (h : Blk w X e (rvCells rs).toArray) (hl : rs.length = qs.length) (hq : ∀ i, i < qs.length → (rs.getD i RV.zero).In L w (qs.getD i 0)) : RatsV L w (.slice (some ⟨X, 0, none⟩) qs.length qs.length) qs := by
  refine ⟨_, _, rs, rfl, hl, hq, fun h0 => ⟨X, 0, rfl, fun i hi j u hu => ?_⟩⟩
  have hj : j < 4 := (List.getElem?_eq_some_iff.1 hu).1
  rw [Nat.zero_add, h.cell, List.getElem?_toArray, rvCells_get rs i j (by omega) hj]
  exact hu
theorem in3 {L : Nat} {w : World} {a b c : RV} {p q r : Rat} (h0 : a.In L w p) (h1 : b.In L w q) (h2 : c.In L w r) : ∀ i, i < [p, q, r].length → ([a, b, c].getD i RV.zero).In L w ([p, q, r].getD i 0) := by
  intro i hi
  match i, hi with
  | 0, _ => exact h0
  | 1, _ => exact h1
  | 2, _ => exact h2
theorem in4 {L : Nat} {w : World} {a b c d : RV} {p q r s : Rat} (h0 : a.In L w p) (h1 : b.In L w q) (h2 : c.In L w r) (h3 : d.In L w s) : ∀ i, i < [p, q, r, s].length → ([a, b, c, d].getD i RV.zero).In L w ([p, q, r, s].getD i 0) := by
  intro i hi
  match i, hi with
  | 0, _ => exact h0
  | 1, _ => exact h1
  | 2, _ => exact h2
  | 3, _ => exact h3

/-- The sum of the first k numbers. -/
def sumTo (qs : List Rat) : Nat → Rat
  | 0 => ((0 : Int) : Rat)
  | k + 1 => sumTo qs k + qs.getD k 0
theorem rl0 : Nm.rl ((0 : Int) : Rat) ≤ 1 := by
  have e1 : (((0 : Int) : Rat)).num = 0 := by decide +kernel
  have e2 : (((0 : Int) : Rat)).den = 1 := by decide +kernel
  unfold Nm.rl
  rw [e1, e2]
  have h1 : Nm.nl (Int.natAbs 0) ≤ 1 := Nm.nl_le (by decide)
  have h2 : Nm.nl 1 ≤ 1 := Nm.nl_le (by decide)
  omega
theorem rl_sumTo {qs : List Rat} {L : Nat} (h : ∀ i, i < qs.length → Nm.rl (qs.getD i 0) ≤ L) : ∀ k, k ≤ qs.length → Nm.rl (sumTo qs k) ≤ 1 + k * (L + 1)
  | 0, _ => by rw [Nat.zero_mul]; exact rl0
  | k + 1, hk => by
    have h1 := rl_sumTo h k (by omega)
    have h2 := Nm.rl_add (sumTo qs k) (qs.getD k 0)
    have h3 := h k (by omega)
    rw [Nat.add_mul]
    show Nm.rl (sumTo qs k + qs.getD k 0) ≤ _
    omega

theorem x3add {L : Nat} {w : World} {a b : RV} {q r : Rat} (h : a.In L w q) (h' : b.In L w r) (hL : L ≤ 70000) : Calls Tryz.prog 63 #[.agg #[.bool a.n, .slice a.p a.l a.c, .bool a.m, .slice a.p2 a.l2 a.c2], .agg #[.bool b.n, .slice b.p b.l b.c, .bool b.m, .slice b.p2 b.l2 b.c2]] w (RetV (q + r) w) := (r3add_any _ _ _ _ _ _ _ _ L q r w h h' hL).mono fun _ _ h => RetR.v h
theorem x3mul {L : Nat} {w : World} {a b : RV} {q r : Rat} (h : a.In L w q) (h' : b.In L w r) (hL : L ≤ 70000) : Calls Tryz.prog 37 #[.agg #[.bool a.n, .slice a.p a.l a.c, .bool a.m, .slice a.p2 a.l2 a.c2], .agg #[.bool b.n, .slice b.p b.l b.c, .bool b.m, .slice b.p2 b.l2 b.c2]] w (RetV (q * r) w) := (r3mul_any _ _ _ _ _ _ _ _ L q r w h h' hL).mono fun _ _ h => RetR.v h

set_option maxRecDepth 20000 in
set_option maxHeartbeats 2000000 in
theorem rsum_any (L : Nat) (v : Value) (qs : List Rat) (w : World) (h : RatsV L w v qs) (hn : qs.length ≤ 50) (h1 : 1 ≤ L) (hL : L ≤ 400) :
    Calls Tryz.prog 68 #[v] w (RetV (sumTo qs qs.length) w) := by
  obtain ⟨A, cap, rs, rfl, hrl, hin, hcell⟩ := h
  have hbd := rl_sumTo (qs := qs) (L := L) (fun i hi => by have := (hin i hi).rl; omega)
  have HB := Lib.hid hbd
  have HIN := Lib.hid hin
  have HC := Lib.hid hcell
  clear hbd hin hcell
  have HF := Lib.hid (fun W => r3fromInt_any 0 W (by omega) (by omega))
  go_enter Tryz.func68, Tryz.ntmps68
  go_wp2_with fail
  refine (HF.out _).mono ?_
  intro e w1 hret
  obtain ⟨c, rfl, hc, he⟩ := RetR.v hret
  have bR := (Blk.new w 26 #[.bool false, .slice none 0 0, .bool false, .slice none 0 0]).ext he
  have hEw : Ext w w1 := ((Ext.refl _).alloc _).trans he
  have hsz := he.size
  simp only [World.size_alloc] at hsz
  clear hret he
  go_wp2_with fail
  have bX : Blk (w1.alloc (.cells #[.bool c.n, .slice c.p c.l c.c, .bool c.m, .slice c.p2 c.l2 c.c2] 26)) w1.heap.size 26 #[.bool c.n, .slice c.p c.l c.c, .bool c.m, .slice c.p2 c.l2 c.c2] := Blk.new _ _ _
  have bR1 := bR.alloc (.cells #[.bool c.n, .slice c.p c.l c.c, .bool c.m, .slice c.p2 c.l2 c.c2] 26)
  have hc1 : c.Is (w1.alloc (.cells #[.bool c.n, .slice c.p c.l c.c, .bool c.m, .slice c.p2 c.l2 c.c2] 26)) (sumTo qs 0) := hc.ext ((Ext.refl _).alloc _)
  have hE1 : Ext w (w1.alloc (.cells #[.bool c.n, .slice c.p c.l c.c, .bool c.m, .slice c.p2 c.l2 c.c2] 26)) := hEw.alloc _
  generalize (w1.alloc (.cells #[.bool c.n, .slice c.p c.l c.c, .bool c.m, .slice c.p2 c.l2 c.c2] 26)) = wa at *
  generalize w1.heap.size = X at *
  have hRX : w.heap.size ≠ X := by omega
  have hXw : w.heap.size ≤ X := by omega
  clear hsz hEw hc bR
  go_loopw [4] (fun i wr => ∃ k : Nat, k ≤ qs.length ∧ i = .int .i64 k ∧ ∃ c : RV, c.Is wr (sumTo qs k) ∧ Blk wr X 26 #[.bool c.n, .slice c.p c.l c.c, .bool c.m, .slice c.p2 c.l2 c.c2] ∧ Blk wr w.heap.size 26 #[.bool false, .slice none 0 0, .bool false, .slice none 0 0] ∧ Ext w wr) (fun i _ => qs.length - (intOf i).toNat)
  case atStart => exact ⟨0, Nat.zero_le _, rfl, c, hc1, bX, bR1, hE1⟩
  case round =>
    obtain ⟨k, hk, rfl, c, hc, bX, bR, hE⟩ := hrel
    clear hc1 hE1 bR1
    have HCS := Lib.hid hc
    have HBX := Lib.hid bX
    have HBR := Lib.hid bR
    have HE := Lib.hid hE
    clear hc bX bR hE
    by_cases hlt : k < qs.length
    · obtain ⟨g, off, rfl, hr⟩ := HC.out (by omega)
      have hrk := range_ext (hr k hlt) HE.out
      have HA := Lib.hid (fun W (x : Ext _ W) => x3add (L := 60 * (L + 1)) ((HCS.out.ext x).isIn (Nat.le_trans (HB.out k hk) (by have : k * (L + 1) ≤ 50 * (L + 1) := Nat.mul_le_mul_right _ (by omega); omega))) (((HIN.out k hlt).ext (HE.out.trans x)).mono (by omega)) (by omega))
      generalize hg : rs.getD k RV.zero = b at *
      generalize hq : qs.getD k 0 = qk at *
      have HS := Lib.hid (show sumTo qs k + qk = sumTo qs (k + 1) by rw [← hq]; rfl)
      rw [HS.out] at HA
      clear hr hq hg
      have r0 := hrk 0 _ rfl
      have r1 := hrk 1 _ rfl
      have r2 := hrk 2 _ rfl
      have r3 := hrk 3 _ rfl
      have x0 := HBX.out.cell 0
      have x1 := HBX.out.cell 1
      have x2 := HBX.out.cell 2
      have x3 := HBX.out.cell 3
      simp at x0 x1 x2 x3
      simp only [Nat.add_zero] at r0
      clear hrk
      go_upto_region 5 with fail
      go_region_with (go_at_call 63; ((with_reducible refine (HA.out _ (Ext.drew (Ext.refl _))).mono ?_)); rintro e w2 ⟨c', rfl, hc', he⟩; have he2 := (Ext.drew (Ext.refl _)).trans he; have bX := HBX.out.ext he2; have y0 := bX.cell 0; have y1 := bX.cell 1; have y2 := bX.cell 2; have y3 := bX.cell 3; simp at y0 y1 y2 y3; have z0 := bX.frozen 0; have z1 := bX.frozen 1; have z2 := bX.frozen 2; have z3 := bX.frozen 3; have o := ((((Own.refl X w2).set_at 0 none (.bool c'.n)).set_at 1 none (.slice c'.p c'.l c'.c)).set_at 2 none (.bool c'.m)).set_at 3 none (.slice c'.p2 c'.l2 c'.c2); have bb := (((Blk.set_ bX 0 (.bool c'.n)).set_ 1 (.slice c'.p c'.l c'.c)).set_ 2 (.bool c'.m)).set_ 3 (.slice c'.p2 c'.l2 c'.c2); have HM := Lib.hid (And.intro (hc'.own bX (noU4 _ _ _ _ _ _ _ _) o) (And.intro bb (And.intro ((HBR.out.ext he2).own o hRX) (o.ext (HE.out.trans he2) hXw)))); clear o bb bX he hc' he2)
      all_goals
        go_wp2_with fail
        go_roundw
        case rel => exact ⟨k + 1, hlt, by go_num, c', HM.out.1, HM.out.2.1, HM.out.2.2.1, HM.out.2.2.2⟩
        case measure => simp [intOf]; omega
    · obtain rfl : k = qs.length := by omega
      have x0 := HBX.out.cell 0
      have x1 := HBX.out.cell 1
      have x2 := HBX.out.cell 2
      have x3 := HBX.out.cell 3
      have y0 := HBR.out.cell 0
      have y1 := HBR.out.cell 1
      have y2 := HBR.out.cell 2
      have y3 := HBR.out.cell 3
      simp at x0 x1 x2 x3 y0 y1 y2 y3
      have z0 := HBR.out.frozen 0
      have z1 := HBR.out.frozen 1
      have z2 := HBR.out.frozen 2
      have z3 := HBR.out.frozen 3
      have o := ((((Own.refl w.heap.size wr).set_at 0 none (.bool c.n)).set_at 1 none (.slice c.p c.l c.c)).set_at 2 none (.bool c.m)).set_at 3 none (.slice c.p2 c.l2 c.c2)
      have HM := Lib.hid (And.intro (HCS.out.own HBR.out (noU4 _ _ _ _ _ _ _ _) o) (o.ext HE.out (Nat.le_refl _)))
      clear o
      go_wp2_with fail
      refine bodyPost_ret (v := .agg #[.bool c.n, .slice c.p c.l c.c, .bool c.m, .slice c.p2 c.l2 c.c2]) ?_ rfl ⟨c, rfl, HM.out.1, HM.out.2⟩
      simp [results, Tryz.results68, go_sem, *]
end Go.Proofs.YtllpkoinjompcaaGreat

namespace Go.Proofs.YtllpkoinjompcaaGreat
open Go.RowKit
attribute [local go_sem ↓] Go.wp_at_zero Go.wp_at_succ run_max_ii run_min_ii

theorem infoRat : (Tryz.prog.info? 26).map (fun i => (i.zero, i.size, i.bytes)) = some (some (.agg #[.bool false, .slice none 0 0, .bool false, .slice none 0 0]), 4, 64) := by kernel_rfl
theorem noUL_z : NoUL (Value.agg #[.bool false, .slice none 0 0, .bool false, .slice none 0 0]).cells.toList := by intro x hx k; simp [Value.cells] at hx; rcases hx with rfl | rfl | rfl | rfl <;> simp
/-- The products. -/
def prods (ws xs : List Rat) : List Rat := (List.range ws.length).map fun i => ws.getD i 0 * xs.getD i 0
theorem prods_length (ws xs : List Rat) : (prods ws xs).length = ws.length := by simp [prods]
theorem prods_get (ws xs : List Rat) (i : Nat) (h : i < ws.length) : (prods ws xs).getD i 0 = ws.getD i 0 * xs.getD i 0 := by
  simp [prods, List.getD, h]
theorem getD_snoc_lt (rs : List RV) (a : RV) (j : Nat) (h : j < rs.length) : (rs ++ [a]).getD j RV.zero = rs.getD j RV.zero := by simp [List.getD, List.getElem?_append_left h]
theorem getD_snoc_eq (rs : List RV) (a : RV) : (rs ++ [a]).getD rs.length RV.zero = a := by simp [List.getD]
theorem four_new (w : World) (a b c d : Value) (t : TypeId) : ∀ (j : Nat) (u : Value), [a, b, c, d][j]? = some u → (w.alloc (.cells #[a, b, c, d] t)).cell? ((⟨w.heap.size, 0, none⟩ : Addr).add j) = some u := by
  intro j u hj
  match j, hj with
  | 0, hj => simp at hj; subst hj; simp [Addr.add]
  | 1, hj => simp at hj; subst hj; simp [Addr.add]
  | 2, hj => simp at hj; subst hj; simp [Addr.add]
  | 3, hj => simp at hj; subst hj; simp [Addr.add]

set_option maxRecDepth 20000 in
set_option maxHeartbeats 4000000 in
theorem rweighted_any (L : Nat) (u v : Value) (ws xs : List Rat) (w : World) (hu : RatsV L w u ws) (hv : RatsV L w v xs) (hlen : ws.length = xs.length) (hn : ws.length ≤ 20) (h1 : 1 ≤ L) (hL : L ≤ 150) :
    Calls Tryz.prog 38 #[u, v] w (RetV (sumTo (prods ws xs) ws.length) w) := by
  obtain ⟨A, ca, ps, rfl, hpl, hpin, hpc⟩ := hu
  obtain ⟨B, cb, qs, rfl, hql, hqin, hqc⟩ := hv
  have HP := Lib.hid (And.intro hpin hpc)
  have HQ := Lib.hid (And.intro hqin hqc)
  have HPL := Lib.hid hpl
  have HQL := Lib.hid hql
  clear hpin hpc hqin hqc hpl hql
  obtain ⟨i0, hi, hz0, hz1, hz2⟩ := info_parts infoRat
  have HI := Lib.hid (And.intro hi (And.intro hz0 (And.intro hz1 hz2)))
  clear hi hz0 hz1 hz2
  go_enter Tryz.func38, Tryz.ntmps38
  go_wp2_with fail
  have hrow : RowN ((w.alloc (.cells #[.bool false, .slice none 0 0, .bool false, .slice none 0 0] 26)).alloc (.cells #[] 26)) (w.heap.size + 1) 26 4 (.slice (some ⟨w.heap.size + 1, 0, none⟩) 0 0) 0 (rvCells []) := by
    have h := RowN.empty (w.alloc (.cells #[.bool false, .slice none 0 0, .bool false, .slice none 0 0] 26)) (w.heap.size + 1) 26 4 (by simp)
    simpa [rvCells] using h
  have hR : Blk ((w.alloc (.cells #[.bool false, .slice none 0 0, .bool false, .slice none 0 0] 26)).alloc (.cells #[] 26)) w.heap.size 26 #[.bool false, .slice none 0 0, .bool false, .slice none 0 0] := (Blk.new _ _ _).alloc _
  have hE0 : Ext w ((w.alloc (.cells #[.bool false, .slice none 0 0, .bool false, .slice none 0 0] 26)).alloc (.cells #[] 26)) := ((Ext.refl _).alloc _).alloc _
  go_loopw [5, 6] (fun v i wr => ∃ k : Nat, k ≤ ws.length ∧ i = .int .i64 k ∧ ∃ rs : List RV, rs.length = k ∧ RowN wr (w.heap.size + 1) 26 4 v k (rvCells rs) ∧ (∀ j, j < k → (rs.getD j RV.zero).Is wr (ws.getD j 0 * xs.getD j 0)) ∧ Blk wr w.heap.size 26 #[.bool false, .slice none 0 0, .bool false, .slice none 0 0] ∧ Ext w wr ∧ w.heap.size + 1 ≤ wr.heap.size) (fun _ i _ => ws.length - (intOf i).toNat)
  case atStart => exact ⟨0, Nat.zero_le _, rfl, [], rfl, hrow, fun j hj => by omega, hR, hE0, by simp⟩
  case round =>
    clear hrow hR hE0
    obtain ⟨k, hk, rfl, rs, hrs, hrow, his, hR, hE, hsz⟩ := hrel
    have HROW := Lib.hid hrow
    have HIS := Lib.hid his
    have HR := Lib.hid hR
    have HE := Lib.hid hE
    have HSZ := Lib.hid hsz
    clear hrow his hR hE hsz
    by_cases hlt : k < ws.length
    · obtain ⟨g1, o1, rfl, hp⟩ := HP.out.2 (by omega)
      obtain ⟨g2, o2, rfl, hq⟩ := HQ.out.2 (by omega)
      have hlt2 : k < xs.length := by omega
      have HRA := Lib.hid (hp k hlt)
      have HRB := Lib.hid (hq k hlt2)
      have HMUL := Lib.hid (fun W (x : Ext w W) => x3mul (L := L) ((HP.out.1 k hlt).ext x) ((HQ.out.1 k hlt2).ext x) (by omega))
      generalize hga : ps.getD k RV.zero = ra at *
      generalize hgb : qs.getD k RV.zero = rb at *
      clear hp hq hga hgb
      go_upto_region 5 with fail
      have b0 : (0 : Int) ≤ (k : Int) := by omega
      have b1 : (k : Int) < (ws.length : Int) := by omega
      have b2 : (k : Int) < (xs.length : Int) := by omega
      refine wp_region_held_drew (S := fun x => Ext w x) (by kernel_rfl) HE.out.drew (fun hH => ?_)
      have HS0 := Lib.hid (show Ext w wr.drew from HE.out.drew)
      refine md_val (i := 0) (v := ?v0) (listed' := #[true, false, false, false, false, false, false, false, false, false, false, false, false]) (by rfl) (by kernel_rfl) (by kernel_rfl) (by kernel_rfl) (by intro _ _ _ h; exact h) (by rfl) ?h0 HS0.out (by kernel_rfl) ?r0
      case h0 => (intro w hSw; (try dsimp only at hSw); go_simp <;> with_reducible rfl)
      (try simp only [Act.put, List.setIfInBounds_toArray, List.set_cons_zero, List.set_cons_succ])
      refine md_val (i := 1) (v := ?v1) (listed' := #[true, true, false, false, false, false, false, false, false, false, false, false, false]) (by rfl) (by kernel_rfl) (by kernel_rfl) (by kernel_rfl) (by intro _ _ _ h; exact h) (by rfl) ?h1 HS0.out (by kernel_rfl) ?r1
      case h1 => (intro w hSw; (try dsimp only at hSw); go_simp <;> with_reducible rfl)
      (try simp only [Act.put, List.setIfInBounds_toArray, List.set_cons_zero, List.set_cons_succ])
      refine md_val (i := 2) (v := ?v2) (listed' := #[true, true, true, false, false, false, false, false, false, false, false, false, false]) (by rfl) (by kernel_rfl) (by kernel_rfl) (by kernel_rfl) (by intro _ _ _ h; exact h) (by rfl) ?h2 HS0.out (by kernel_rfl) ?r2
      case h2 => (intro w hSw; (try dsimp only at hSw); go_simp <;> with_reducible rfl)
      (try simp only [Act.put, List.setIfInBounds_toArray, List.set_cons_zero, List.set_cons_succ])
      refine md_val (i := 3) (v := ?v3) (listed' := #[true, true, true, true, false, false, false, false, false, false, false, false, false]) (by rfl) (by kernel_rfl) (by kernel_rfl) (by kernel_rfl) (by intro _ _ _ h; exact h) (by rfl) ?h3 HS0.out (by kernel_rfl) ?r3
      case h3 => (intro w hSw; (try dsimp only at hSw); go_simp <;> with_reducible rfl)
      (try simp only [Act.put, List.setIfInBounds_toArray, List.set_cons_zero, List.set_cons_succ])
      refine md_range (i := 4) (listed' := #[true, true, true, true, true, false, false, false, false, false, false, false, false]) (by rfl) (by kernel_rfl) (by kernel_rfl) (by kernel_rfl) _ _ (by rfl) g1 (o1 + k * 4) [.bool ra.n, .slice ra.p ra.l ra.c, .bool ra.m, .slice ra.p2 ra.l2 ra.c2] _ (by intro _ _ _ h; exact h) (by rfl) (by rfl) (fun x hx => range_ext HRA.out hx) Tryz.underlying26 (by rfl) (by kernel_rfl) HS0.out (by kernel_rfl) ?_
      (try simp only [Act.put, List.setIfInBounds_toArray, List.set_cons_zero, List.set_cons_succ])
      refine md_val (i := 5) (v := ?v5) (listed' := #[true, true, true, true, true, true, false, false, false, false, false, false, false]) (by rfl) (by kernel_rfl) (by kernel_rfl) (by kernel_rfl) (by intro _ _ _ h; exact h) (by rfl) ?h5 HS0.out (by kernel_rfl) ?r5
      case h5 => (intro w hSw; (try dsimp only at hSw); go_simp <;> with_reducible rfl)
      (try simp only [Act.put, List.setIfInBounds_toArray, List.set_cons_zero, List.set_cons_succ])
      refine md_val (i := 6) (v := ?v6) (listed' := #[true, true, true, true, true, true, true, false, false, false, false, false, false]) (by rfl) (by kernel_rfl) (by kernel_rfl) (by kernel_rfl) (by intro _ _ _ h; exact h) (by rfl) ?h6 HS0.out (by kernel_rfl) ?r6
      case h6 => (intro w hSw; (try dsimp only at hSw); go_simp <;> with_reducible rfl)
      (try simp only [Act.put, List.setIfInBounds_toArray, List.set_cons_zero, List.set_cons_succ])
      refine md_val (i := 7) (v := ?v7) (listed' := #[true, true, true, true, true, true, true, true, false, false, false, false, false]) (by rfl) (by kernel_rfl) (by kernel_rfl) (by kernel_rfl) (by intro _ _ _ h; exact h) (by rfl) ?h7 HS0.out (by kernel_rfl) ?r7
      case h7 => (intro w hSw; (try dsimp only at hSw); go_simp <;> with_reducible rfl)
      (try simp only [Act.put, List.setIfInBounds_toArray, List.set_cons_zero, List.set_cons_succ])
      refine md_range (i := 8) (listed' := #[true, true, true, true, true, true, true, true, true, false, false, false, false]) (by rfl) (by kernel_rfl) (by kernel_rfl) (by kernel_rfl) _ _ (by rfl) g2 (o2 + k * 4) [.bool rb.n, .slice rb.p rb.l rb.c, .bool rb.m, .slice rb.p2 rb.l2 rb.c2] _ (by intro _ _ _ h; exact h) (by rfl) (by rfl) (fun x hx => range_ext HRB.out hx) Tryz.underlying26 (by rfl) (by kernel_rfl) HS0.out (by kernel_rfl) ?_
      (try simp only [Act.put, List.setIfInBounds_toArray, List.set_cons_zero, List.set_cons_succ])
      refine md_call (i := 9) (listed' := #[true, true, true, true, true, true, true, true, true, true, false, false, false]) (by rfl) (by kernel_rfl) (by rfl) (by go_simp) (HMUL.out _ HS0.out) (by kernel_rfl) ?_
      rintro e w2 ⟨c, rfl, hc, he⟩
      have he2 : Ext wr w2 := (Ext.drew (Ext.refl _)).trans he
      have HS2 := Lib.hid (HE.out.trans he2)
      refine ⟨_, rfl, HS2.out, ?_⟩
      (try simp only [Act.put, List.setIfInBounds_toArray, List.set_cons_zero, List.set_cons_succ])
      refine md_one (i := 10) (v := .slice (some ⟨w2.heap.size, 0, none⟩) 1 1) (w' := w2.alloc (.cells #[.bool c.n, .slice c.p c.l c.c, .bool c.m, .slice c.p2 c.l2 c.c2] 26)) (listed' := #[true, true, true, true, true, true, true, true, true, true, true, false, false]) (by rfl) (by kernel_rfl) (by rfl) (by go_simp) (HS2.out.alloc _) (by kernel_rfl) ?_
      (try simp only [Act.put, List.setIfInBounds_toArray, List.set_cons_zero, List.set_cons_succ])
      have hrow2 := (HROW.out.ext he2).alloc' (.cells #[.bool c.n, .slice c.p c.l c.c, .bool c.m, .slice c.p2 c.l2 c.c2] 26)
      have hsz2 := he2.size
      have hsz3 := HSZ.out
      refine md_append (j := 11) (listed' := #[true, true, true, true, true, true, true, true, true, true, true, true, false]) (by rfl) (by kernel_rfl) (by rfl) _ _ 64 (by rfl) (w.heap.size + 1) 26 i0 _ 4 64 Tryz.underlying64 HI.out.1 HI.out.2.1 HI.out.2.2.1 HI.out.2.2.2 rfl (by decide) noUL_z _ k (rvCells rs) (by rfl) hrow2 ⟨w2.heap.size, 0, none⟩ 1 1 [.bool c.n, .slice c.p c.l c.c, .bool c.m, .slice c.p2 c.l2 c.c2] (by rfl) rfl (four_new _ _ _ _ _ _) (one_rv c) (noUL_one c) (by decide) (by unfold maxLen; omega) (by omega) (by simp; omega) (by kernel_rfl) ?_
      intro g cap w3 h2 h3 h4
      have hE3 : Ext w w3 := (HS2.out.alloc _).grown h3 (fun j hj => Nat.le_trans (Nat.le_succ _) (hrow2.block j hj))
      have HM := Lib.hid (And.intro h2 (And.intro (show ∀ j, j < k + 1 → ((rs ++ [c]).getD j RV.zero).Is w3 (ws.getD j 0 * xs.getD j 0) from fun j hj => by
        rcases Nat.lt_or_ge j k with hjk | hjk
        · rw [getD_snoc_lt _ _ _ (by omega)]
          exact h4 _ _ (((HIS.out j hjk).ext he2).ext ((Ext.refl _).alloc _))
        · obtain rfl : j = k := by omega
          rw [← hrs, getD_snoc_eq, hrs]
          exact h4 _ _ (hc.ext ((Ext.refl _).alloc _))) (And.intro (((HR.out.ext he2).alloc _).grown h3 (fun e => by have := hrow2.block _ e; omega)) (And.intro hE3 (show w.heap.size + 1 ≤ w3.heap.size by have := h3.size; simp at this; omega)))))
      refine ⟨hE3, ?_⟩
      (try simp only [Act.put, List.setIfInBounds_toArray, List.set_cons_zero, List.set_cons_succ])
      clear h2 h3 h4 hrow2
      refine md_one (i := 12) (v := .slice (some ⟨g, 0, none⟩) (k + 1) cap) (w' := w3) (listed' := #[true, true, true, true, true, true, true, true, true, true, true, true, true]) (by rfl) (by kernel_rfl) (by rfl) (by go_simp) hE3 (by kernel_rfl) ?_
      (try simp only [Act.put, List.setIfInBounds_toArray, List.set_cons_zero, List.set_cons_succ])
      refine wpAnyH_done (by kernel_rfl) ?_ _
      clear hE3 he he2 hc hH
      go_wp2_with fail
      go_roundw
      case rel => exact ⟨k + 1, hlt, by go_num, rs ++ [c], by simp [hrs], by rw [rvCells_snoc]; exact HM.out.1, HM.out.2.1, HM.out.2.2.1, HM.out.2.2.2.1, HM.out.2.2.2.2⟩
      case measure => simp [intOf]; omega
    · obtain rfl : k = ws.length := by omega
      have HV := Lib.hid (RatsV.of_row (L := 2 * L) (qs := prods ws xs) (rs := rs) (by rw [hrs]; exact HROW.out) (by rw [prods_length, hrs]) (fun j hj => by
        rw [prods_length] at hj
        rw [prods_get _ _ _ hj]
        refine (HIS.out j hj).isIn ?_
        have h1 := Nm.rl_mul (ws.getD j 0) (xs.getD j 0)
        have h2 := (HP.out.1 j hj).rl
        have h3 := (HQ.out.1 j (by omega)).rl
        omega))
      go_wp2_with fail
      refine (rsum_any (2 * L) _ _ _ HV.out (by rw [prods_length]; omega) (by omega) (by omega)).mono ?_
      rw [prods_length]
      rintro e w2 ⟨c, rfl, hc, he⟩
      have bR := HR.out.ext he
      have y0 := bR.cell 0
      have y1 := bR.cell 1
      have y2 := bR.cell 2
      have y3 := bR.cell 3
      simp at y0 y1 y2 y3
      have z0 := bR.frozen 0
      have z1 := bR.frozen 1
      have z2 := bR.frozen 2
      have z3 := bR.frozen 3
      have o := ((((Own.refl w.heap.size w2).set_at 0 none (.bool c.n)).set_at 1 none (.slice c.p c.l c.c)).set_at 2 none (.bool c.m)).set_at 3 none (.slice c.p2 c.l2 c.c2)
      have HM := Lib.hid (And.intro (hc.own bR (noU4 _ _ _ _ _ _ _ _) o) (o.ext (HE.out.trans he) (Nat.le_refl _)))
      clear o bR hc he
      go_wp2_with fail
      refine bodyPost_ret (v := .agg #[.bool c.n, .slice c.p c.l c.c, .bool c.m, .slice c.p2 c.l2 c.c2]) ?_ rfl ⟨c, rfl, HM.out.1, HM.out.2⟩
      simp [results, Tryz.results38, go_sem, *]
end Go.Proofs.YtllpkoinjompcaaGreat
