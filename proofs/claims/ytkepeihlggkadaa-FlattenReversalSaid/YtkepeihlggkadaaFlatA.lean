/- Small functions of vec and intmath, and of the references 11 and 15. -/
import Derived.Test.YtkepeihlggkadaaBase
namespace Go.Proofs.Ytkepeihlggkadaa
open Go.RowKit
attribute [local go_sem ↓] Go.wp_at_zero Go.wp_at_succ run_eql_point run_neq_point

def clampI (n lo hi : Int) : Int := if n < lo then lo else if hi < n then hi else n

theorem clamp_any (n lo hi : Int) (w : World) :
    Calls Try.prog 150 #[.int .i64 n, .int .i64 lo, .int .i64 hi] w fun e w' => e = .returned (.int .i64 (clampI n lo hi)) ∧ w = w' := by
  go_enter Try.func150, Try.ntmps150
  go_wp2_with fail
  all_goals go_ret
  all_goals refine ⟨ret_int ?_, rfl⟩
  all_goals unfold clampI
  · rw [if_pos ‹_›]
  · rw [if_neg (by omega), if_pos ‹_›]
  · rw [if_neg (by omega), if_neg (by omega)]

theorem held_any (n : Int) (w : World) :
    Calls Try.prog 132 #[.int .i64 n] w fun e w' => e = .returned (.int .i64 (clampI n (-1048576) 1048576)) ∧ w = w' := by
  go_enter Try.func132, Try.ntmps132
  go_wp2_with (go_at_call 150; refine (clamp_any _ _ _ _).mono ?_; rintro e w' ⟨rfl, rfl⟩)
  go_ret
  exact ⟨rfl, rfl⟩

theorem hold_any (x y : Int) (w : World) :
    Calls Try.prog 114 #[.agg #[.int .i64 x, .int .i64 y]] w fun e w' => e = .returned (.agg #[.int .i64 (clampI x (-1048576) 1048576), .int .i64 (clampI y (-1048576) 1048576)]) ∧ Ext w w' := by
  go_enter Try.func114, Try.ntmps114
  go_wp2_with fail
  go_region_held3 (fun w' => w'.cell? ⟨w.heap.size, 0, none⟩ = some (.int .i64 x) ∧ w'.cell? ⟨w.heap.size, 1, none⟩ = some (.int .i64 y)) (go_keep)
    (first | (go_at_call 132; refine (held_any _ _).mono ?_; rintro e w' ⟨rfl, rfl⟩))
  go_wp2_with fail
  refine bodyPost_ret (v := .agg #[.int .i64 (clampI x (-1048576) 1048576), .int .i64 (clampI y (-1048576) 1048576)]) (by simp [results, Try.results114, go_sem]) rfl ⟨rfl, ?_⟩
  exact ((((Ext.refl _).alloc _).alloc _).drew)

theorem eq_clamp (x : Int) : (clampI x (-1048576) 1048576 == x) = decide (-1048576 ≤ x ∧ x ≤ 1048576) := by
  rw [Bool.eq_iff_iff]
  unfold clampI
  simp only [beq_iff_eq, decide_eq_true_eq]
  split
  · omega
  · split <;> omega

def okPt (x y : Int) : Bool := decide (-1048576 ≤ x ∧ x ≤ 1048576) && decide (-1048576 ≤ y ∧ y ≤ 1048576)

theorem valid_any (x y : Int) (w : World) :
    Calls Try.prog 86 #[.agg #[.int .i64 x, .int .i64 y]] w fun e w' => e = .returned (.bool (okPt x y)) ∧ Ext w w' := by
  have h0 : ∀ w', Ext (w.alloc (.cells #[.int .i64 x, .int .i64 y] 23)) w' → w'.cell? ⟨w.heap.size, 0, none⟩ = some (.int .i64 x) := fun w' h => h.get (by simp)
  have h1 : ∀ w', Ext (w.alloc (.cells #[.int .i64 x, .int .i64 y] 23)) w' → w'.cell? ⟨w.heap.size, 1, none⟩ = some (.int .i64 y) := fun w' h => h.get (by simp)
  go_enter Try.func86, Try.ntmps86
  go_wp2_with fail
  go_region_held3 (fun w' => Ext (w.alloc (.cells #[.int .i64 x, .int .i64 y] 23)) w') (first | assumption | exact Ext.drew (Ext.refl _) | (apply Ext.via; assumption; assumption))
    (first | (go_at_call 114; refine (hold_any _ _ _).mono ?_; rintro e w' ⟨rfl, hb⟩))
  go_wp2_with fail
  go_ret
  refine ⟨?_, ((Ext.refl _).alloc _).trans ‹_›⟩
  rw [eq_clamp, eq_clamp]; rfl

theorem rvalid_any (x y : Int) (w : World) :
    Calls Try.prog 88 #[.agg #[.int .i64 x, .int .i64 y]] w fun e w' => e = .returned (.bool (okPt x y)) ∧ Ext w w' := by
  have hp : ∀ b, okPt x y = b → (fun (e : Ending) (w' : World) => e = .returned (.bool b) ∧ Ext w w') = (fun (e : Ending) (w' : World) => e = .returned (.bool (okPt x y)) ∧ Ext w w') := fun b h => by rw [h]
  by_cases hx : -1048576 ≤ x
  · by_cases hx2 : x ≤ 1048576
    · by_cases hy : -1048576 ≤ y
      · rw [← hp (decide (y ≤ 1048576)) (by simp [okPt, hx, hx2, hy])]
        clear hp
        go_enter Try.func88, Try.ntmps88
        go_wp2_with fail
        go_ret
        exact ⟨rfl, (Ext.refl _).alloc _⟩
      · rw [← hp false (by simp [okPt, hy])]
        clear hp
        go_enter Try.func88, Try.ntmps88
        go_wp2_with fail
        go_ret
        exact ⟨rfl, (Ext.refl _).alloc _⟩
    · rw [← hp false (by simp [okPt, hx2])]
      clear hp
      go_enter Try.func88, Try.ntmps88
      go_wp2_with fail
      go_ret
      exact ⟨rfl, (Ext.refl _).alloc _⟩
  · rw [← hp false (by simp [okPt, hx])]
    clear hp
    go_enter Try.func88, Try.ntmps88
    go_wp2_with fail
    go_ret
    exact ⟨rfl, (Ext.refl _).alloc _⟩

end Go.Proofs.Ytkepeihlggkadaa
