/- The closures of Quad and Cubic: one point of the curve. -/
import Derived.Test.YtkepeihlggkadaaFlatI
namespace Go.Proofs.Ytkepeihlggkadaa
open Go.RowKit
attribute [local go_sem ↓] Go.wp_at_zero Go.wp_at_succ run_eql_point run_neq_point run_max_ii run_min_ii

theorem quad1_any (a b c : Int × Int) (i n : Int) (bp bn : Nat) (w : World) (h0 : w.cell? ⟨bp, 0, none⟩ = some (.int .i64 a.1)) (h1 : w.cell? ⟨bp, 1, none⟩ = some (.int .i64 a.2)) (h2 : w.cell? ⟨bp, 2, none⟩ = some (.int .i64 b.1))
    (h3 : w.cell? ⟨bp, 3, none⟩ = some (.int .i64 b.2)) (h4 : w.cell? ⟨bp, 4, none⟩ = some (.int .i64 c.1)) (h5 : w.cell? ⟨bp, 5, none⟩ = some (.int .i64 c.2)) (hn : w.cell? ⟨bn, 0, none⟩ = some (.int .i64 n)) :
    Calls Try.prog 60 #[.int .i64 i, .pointer (some ⟨bp, 0, none⟩), .pointer (some ⟨bn, 0, none⟩)] w fun e w' =>
      e = .returned (.agg #[.int .i64 (quadAtV a b c i n).1, .int .i64 (quadAtV a b c i n).2]) ∧ Ext w w' := by
  have g : ∀ w', Ext (w.alloc (.cells #[.int .i64 0, .int .i64 0] 23)) w' → w'.cell? ⟨w.heap.size, 0, none⟩ = some (.int .i64 0) ∧ w'.cell? ⟨w.heap.size, 1, none⟩ = some (.int .i64 0) ∧ w'.frozen? ⟨w.heap.size, 0, none⟩ = false ∧ w'.frozen? ⟨w.heap.size, 1, none⟩ = false := fun w' h =>
    ⟨h.get (by simp), h.get (by simp), (h.frozen (by simp)).trans (World.frozen?_alloc_at _ _ _ _ (by simp)), (h.frozen (by simp)).trans (World.frozen?_alloc_at _ _ _ _ (by simp))⟩
  have HG := Lib.hid g
  have q : ∀ p v, w.cell? p = some v → (w.alloc (.cells #[.int .i64 0, .int .i64 0] 23)).cell? p = some v := fun p v h => ((Ext.refl w).alloc _).get h
  have q0 := q _ _ h0
  have q1 := q _ _ h1
  have q2 := q _ _ h2
  have q3 := q _ _ h3
  have q4 := q _ _ h4
  have q5 := q _ _ h5
  have q6 := q _ _ hn
  clear g q
  go_enter Try.func60, Try.ntmps60
  go_wp2_with (first | (go_at_call 17; refine (quadAt_any a b c _ _ _).mono ?_; rintro e w' ⟨rfl, hb⟩; have gk := HG.out _ hb))
  refine bodyPost_ret (v := .agg #[.int .i64 (quadAtV a b c i n).1, .int .i64 (quadAtV a b c i n).2]) ?_ rfl ⟨rfl, ?_⟩
  · simp [results, Try.results60, go_sem, *]
  · exact Ext.setCell (Ext.setCell (((Ext.refl _).alloc _).trans (by assumption)) (by simp) _) (by simp) _
theorem cubic1_any (a b c d : Int × Int) (i n : Int) (bp bn : Nat) (w : World) (h0 : w.cell? ⟨bp, 0, none⟩ = some (.int .i64 a.1)) (h1 : w.cell? ⟨bp, 1, none⟩ = some (.int .i64 a.2)) (h2 : w.cell? ⟨bp, 2, none⟩ = some (.int .i64 b.1))
    (h3 : w.cell? ⟨bp, 3, none⟩ = some (.int .i64 b.2)) (h4 : w.cell? ⟨bp, 4, none⟩ = some (.int .i64 c.1)) (h5 : w.cell? ⟨bp, 5, none⟩ = some (.int .i64 c.2)) (h6 : w.cell? ⟨bp, 6, none⟩ = some (.int .i64 d.1)) (h7 : w.cell? ⟨bp, 7, none⟩ = some (.int .i64 d.2)) (hn : w.cell? ⟨bn, 0, none⟩ = some (.int .i64 n)) :
    Calls Try.prog 61 #[.int .i64 i, .pointer (some ⟨bp, 0, none⟩), .pointer (some ⟨bn, 0, none⟩)] w fun e w' =>
      e = .returned (.agg #[.int .i64 (cubicAtV a b c d i n).1, .int .i64 (cubicAtV a b c d i n).2]) ∧ Ext w w' := by
  have g : ∀ w', Ext (w.alloc (.cells #[.int .i64 0, .int .i64 0] 23)) w' → w'.cell? ⟨w.heap.size, 0, none⟩ = some (.int .i64 0) ∧ w'.cell? ⟨w.heap.size, 1, none⟩ = some (.int .i64 0) ∧ w'.frozen? ⟨w.heap.size, 0, none⟩ = false ∧ w'.frozen? ⟨w.heap.size, 1, none⟩ = false := fun w' h =>
    ⟨h.get (by simp), h.get (by simp), (h.frozen (by simp)).trans (World.frozen?_alloc_at _ _ _ _ (by simp)), (h.frozen (by simp)).trans (World.frozen?_alloc_at _ _ _ _ (by simp))⟩
  have HG := Lib.hid g
  have q : ∀ p v, w.cell? p = some v → (w.alloc (.cells #[.int .i64 0, .int .i64 0] 23)).cell? p = some v := fun p v h => ((Ext.refl w).alloc _).get h
  have q0 := q _ _ h0
  have q1 := q _ _ h1
  have q2 := q _ _ h2
  have q3 := q _ _ h3
  have q4 := q _ _ h4
  have q5 := q _ _ h5
  have q6 := q _ _ hn
  have q7 := q _ _ h6
  have q8 := q _ _ h7
  clear g q
  go_enter Try.func61, Try.ntmps61
  go_wp2_with (first | (go_at_call 19; refine (cubicAt_any a b c d _ _ _).mono ?_; rintro e w' ⟨rfl, hb⟩; have gk := HG.out _ hb))
  refine bodyPost_ret (v := .agg #[.int .i64 (cubicAtV a b c d i n).1, .int .i64 (cubicAtV a b c d i n).2]) ?_ rfl ⟨rfl, ?_⟩
  · simp [results, Try.results61, go_sem, *]
  · exact Ext.setCell (Ext.setCell (((Ext.refl _).alloc _).trans (by assumption)) (by simp) _) (by simp) _
end Go.Proofs.Ytkepeihlggkadaa
