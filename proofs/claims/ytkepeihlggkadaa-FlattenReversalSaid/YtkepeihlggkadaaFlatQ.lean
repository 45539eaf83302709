/- Quad and Cubic of the reference. -/
import Derived.Test.YtkepeihlggkadaaFlatP
namespace Go.Proofs.Ytkepeihlggkadaa
open Go.RowKit
attribute [local go_sem ↓] Go.wp_at_zero Go.wp_at_succ run_eql_point run_neq_point run_max_ii run_min_ii

theorem ownsRow_ext {w w' : World} {base : Nat} {e : TypeId} {size : Nat} {v : Value} {n : Nat} {xs : List Value} (h : w.ownsRow base e size v n xs) (x : Ext w w') : w'.ownsRow base e size v n xs := by
  obtain ⟨h1, h2⟩ := h
  refine ⟨h1, ?_⟩
  rcases h2 with h2 | ⟨g, cap, cur, hv, hg, hh, r⟩
  · exact Or.inl h2
  · exact Or.inr ⟨g, cap, cur, hv, hg, (Below.block x g (Array.getElem?_eq_some_iff.1 hh).1).trans hh, r⟩

theorem owns_block {w : World} {base : Nat} {e : TypeId} {size : Nat} {v : Value} {n : Nat} {xs : List Value} (h : w.ownsRow base e size v n xs) : ∀ k, v.ownBlock = some k → base ≤ k := by
  intro k hk
  rcases h.2 with ⟨rfl, _⟩ | ⟨g, cap, cur, rfl, hg, _⟩
  · simp [Value.ownBlock] at hk
  · simp [Value.ownBlock] at hk; omega

/-- An empty slice that is not nil owns nothing. -/
theorem owns_empty (w : World) (t : TypeId) (size : Nat) : (w.alloc (.cells #[] t)).ownsRow w.heap.size t size (.slice (some ⟨w.heap.size, 0, none⟩) 0 0) 0 [] :=
  ⟨by simp, .inr ⟨w.heap.size, 0, #[], rfl, Nat.le_refl _, heap_alloc_new w _, Nat.le_refl _, Nat.zero_le _, by simp, by simp⟩⟩

theorem upTo_zero (f : Int → Int × Int) : upTo f 0 = [] := rfl

set_option maxRecDepth 20000 in
set_option maxHeartbeats 1000000 in
theorem rquad_any (a b c : Int × Int) (tol : Int) (w : World) :
    Calls Try.prog 23 #[.agg #[.int .i64 a.1, .int .i64 a.2, .int .i64 b.1, .int .i64 b.2, .int .i64 c.1, .int .i64 c.2], .int .i64 tol] w (CurveSays (quadPts a b c tol) (quadSegV a b c tol).2 w) := by
  have HG := Lib.hid (show ∀ x, Ext (w.alloc (.cells #[.int .i64 a.1, .int .i64 a.2, .int .i64 b.1, .int .i64 b.2, .int .i64 c.1, .int .i64 c.2] 28)) x → x.cell? ⟨w.heap.size, 0, none⟩ = some (.int .i64 a.1) ∧ x.cell? ⟨w.heap.size, 1, none⟩ = some (.int .i64 a.2) ∧ x.cell? ⟨w.heap.size, 2, none⟩ = some (.int .i64 b.1) ∧ x.cell? ⟨w.heap.size, 3, none⟩ = some (.int .i64 b.2) ∧ x.cell? ⟨w.heap.size, 4, none⟩ = some (.int .i64 c.1) ∧ x.cell? ⟨w.heap.size, 5, none⟩ = some (.int .i64 c.2) from fun x h => ⟨h.get (by simp), h.get (by simp), h.get (by simp), h.get (by simp), h.get (by simp), h.get (by simp)⟩)
  by_cases he : (quadSegV a b c tol).2 = 0
  · obtain ⟨n, hn, hn1, hn2⟩ := piecesV_range (sqD a b c) tol [a, b, c] he
    have hp : quadPts a b c tol = upTo (fun i => quadAtV a b c i n) n := by
      unfold quadPts
      rw [if_pos he, show (quadSegV a b c tol).1 = (n : Int) from hn, Int.toNat_natCast]
    rw [hp]
    have HN := Lib.hid (show quadSegV a b c tol = ((n : Int), 0) from Prod.ext hn he)
    clear hn hp he
    rw [HN.out]
    obtain ⟨i0, hi, hz0, hz1, hz2⟩ := info_parts infoPt
    go_enter Try.func23, Try.ntmps23
    go_wp2_with (go_at_call 13; refine (rquadSeg_any a b c _ _).mono ?_; rw [HN.out]; rintro e w1 ⟨rfl, hb⟩)
    have hsz := hb.size
    simp only [World.size_alloc] at hsz
    go_loopw [8, 9] (fun v i wr => ∃ k : Nat, k ≤ n ∧ i = .int .i64 ((k : Int) + 1) ∧ wr.ownsRow (w.heap.size + 1) 23 2 v k (ptCells (upTo (fun i => quadAtV a b c i n) k)) ∧ Ext (w.alloc (.cells #[.int .i64 a.1, .int .i64 a.2, .int .i64 b.1, .int .i64 b.2, .int .i64 c.1, .int .i64 c.2] 28)) wr) (fun _ i _ => n + 1 - (intOf i).toNat)
    case atStart => exact ⟨0, Nat.zero_le _, rfl, (by have := owns_empty w1 23 2; exact ⟨this.1, this.2.imp id (fun ⟨g, cap, cur, h1, h2, h3⟩ => ⟨g, cap, cur, h1, by omega, h3⟩)⟩), hb.alloc _⟩
    case round =>
      obtain ⟨k, hk, rfl, hown, hx⟩ := hrel
      have g1 := HG.out _ hx
      by_cases hlt : k < n
      · have HL := Lib.hid (ptCells_length (upTo (fun i => quadAtV a b c i n) k))
        have HS := Lib.hid (upTo_succ (fun i => quadAtV a b c i n) k)
        go_wp2_with (first | (go_at_call 18; refine (rquadAt_any a b c _ _ _).mono ?_; rintro e w2 ⟨rfl, hc⟩; have hs2 := Ext.size hc) | (at_builtin; refine wpList_append_own _ rfl _ _ 37 rfl (w.heap.size + 1) 23 i0 (.agg #[.int .i64 0, .int .i64 0]) 2 16 Try.underlying37 hi hz0 hz1 hz2 rfl (by decide) _ _ _ rfl (ownsRow_ext hown (Ext.alloc (by assumption) _)) ⟨w2.heap.size, 0, none⟩ 1 1 [_, _] rfl rfl (two_new _ _ _ _) (by simp [Value.oneCell']) (by unfold maxLen; omega) (by omega) (by have := hx.size; simp at this ⊢; omega) ?_; intro v' w3 hown' hgrow _))
        go_roundw
        case rel => exact ⟨k + 1, hlt, by go_num, by rw [HS.out, ptCells_snoc]; exact hown', ((hx.trans (by assumption)).alloc _).grown hgrow (fun j hj => by have := owns_block hown j hj; simp; omega)⟩
        case measure => simp [intOf]; omega
      · go_wp2_with fail
        go_ret2
        obtain rfl : k = n := by omega
        refine ⟨_, rfl, ⟨⟨?_, ?_⟩, fun h => ?_⟩, ((Ext.refl _).alloc _).trans hx⟩
        · rw [upTo_length]; exact hown.1
        · rw [upTo_length]; exact hown.2.imp id (fun ⟨g, cap, cur, h1, h2, h3⟩ => ⟨g, cap, cur, h1, by omega, h3⟩)
        · have := congrArg List.length h
          rw [upTo_length, List.length_nil] at this
          omega
  · have hp : quadPts a b c tol = [] := by unfold quadPts; rw [if_neg he]
    rw [hp]
    have hne : ((quadSegV a b c tol).2 != 0) = true := by simpa using he
    have hne2 : ((quadSegV a b c tol).2 == 0) = false := by simpa using he
    clear he hp
    go_enter Try.func23, Try.ntmps23
    go_wp2_with (go_at_call 13; refine (rquadSeg_any a b c _ _).mono ?_; rintro e w' ⟨rfl, hb⟩)
    go_ret2
    exact ⟨_, rfl, ⟨World.ownsRow_nil _ _ _ _, fun _ => rfl⟩, ((Ext.refl _).alloc _).trans ‹_›⟩

set_option maxRecDepth 20000 in
set_option maxHeartbeats 1000000 in
theorem rcubic_any (a b c d : Int × Int) (tol : Int) (w : World) :
    Calls Try.prog 25 #[.agg #[.int .i64 a.1, .int .i64 a.2, .int .i64 b.1, .int .i64 b.2, .int .i64 c.1, .int .i64 c.2, .int .i64 d.1, .int .i64 d.2], .int .i64 tol] w (CurveSays (cubicPts a b c d tol) (cubicSegV a b c d tol).2 w) := by
  have HG := Lib.hid (show ∀ x, Ext (w.alloc (.cells #[.int .i64 a.1, .int .i64 a.2, .int .i64 b.1, .int .i64 b.2, .int .i64 c.1, .int .i64 c.2, .int .i64 d.1, .int .i64 d.2] 24)) x → x.cell? ⟨w.heap.size, 0, none⟩ = some (.int .i64 a.1) ∧ x.cell? ⟨w.heap.size, 1, none⟩ = some (.int .i64 a.2) ∧ x.cell? ⟨w.heap.size, 2, none⟩ = some (.int .i64 b.1) ∧ x.cell? ⟨w.heap.size, 3, none⟩ = some (.int .i64 b.2) ∧ x.cell? ⟨w.heap.size, 4, none⟩ = some (.int .i64 c.1) ∧ x.cell? ⟨w.heap.size, 5, none⟩ = some (.int .i64 c.2) ∧ x.cell? ⟨w.heap.size, 6, none⟩ = some (.int .i64 d.1) ∧ x.cell? ⟨w.heap.size, 7, none⟩ = some (.int .i64 d.2) from fun x h => ⟨h.get (by simp), h.get (by simp), h.get (by simp), h.get (by simp), h.get (by simp), h.get (by simp), h.get (by simp), h.get (by simp)⟩)
  by_cases he : (cubicSegV a b c d tol).2 = 0
  · obtain ⟨n, hn, hn1, hn2⟩ := piecesV_range (9 * max (sqD a b c) (sqD b c d)) tol [a, b, c, d] he
    have hp : cubicPts a b c d tol = upTo (fun i => cubicAtV a b c d i n) n := by
      unfold cubicPts
      rw [if_pos he, show (cubicSegV a b c d tol).1 = (n : Int) from hn, Int.toNat_natCast]
    rw [hp]
    have HN := Lib.hid (show cubicSegV a b c d tol = ((n : Int), 0) from Prod.ext hn he)
    clear hn hp he
    rw [HN.out]
    obtain ⟨i0, hi, hz0, hz1, hz2⟩ := info_parts infoPt
    go_enter Try.func25, Try.ntmps25
    go_wp2_with (go_at_call 15; refine (rcubicSeg_any a b c d _ _).mono ?_; rw [HN.out]; rintro e w1 ⟨rfl, hb⟩)
    have hsz := hb.size
    simp only [World.size_alloc] at hsz
    go_loopw [8, 9] (fun v i wr => ∃ k : Nat, k ≤ n ∧ i = .int .i64 ((k : Int) + 1) ∧ wr.ownsRow (w.heap.size + 1) 23 2 v k (ptCells (upTo (fun i => cubicAtV a b c d i n) k)) ∧ Ext (w.alloc (.cells #[.int .i64 a.1, .int .i64 a.2, .int .i64 b.1, .int .i64 b.2, .int .i64 c.1, .int .i64 c.2, .int .i64 d.1, .int .i64 d.2] 24)) wr) (fun _ i _ => n + 1 - (intOf i).toNat)
    case atStart => exact ⟨0, Nat.zero_le _, rfl, (by have := owns_empty w1 23 2; exact ⟨this.1, this.2.imp id (fun ⟨g, cap, cur, h1, h2, h3⟩ => ⟨g, cap, cur, h1, by omega, h3⟩)⟩), hb.alloc _⟩
    case round =>
      obtain ⟨k, hk, rfl, hown, hx⟩ := hrel
      have g1 := HG.out _ hx
      by_cases hlt : k < n
      · have HL := Lib.hid (ptCells_length (upTo (fun i => cubicAtV a b c d i n) k))
        have HS := Lib.hid (upTo_succ (fun i => cubicAtV a b c d i n) k)
        go_wp2_with (first | (go_at_call 20; refine (rcubicAt_any a b c d _ _ _).mono ?_; rintro e w2 ⟨rfl, hc⟩; have hs2 := Ext.size hc) | (at_builtin; refine wpList_append_own _ rfl _ _ 37 rfl (w.heap.size + 1) 23 i0 (.agg #[.int .i64 0, .int .i64 0]) 2 16 Try.underlying37 hi hz0 hz1 hz2 rfl (by decide) _ _ _ rfl (ownsRow_ext hown (Ext.alloc (by assumption) _)) ⟨w2.heap.size, 0, none⟩ 1 1 [_, _] rfl rfl (two_new _ _ _ _) (by simp [Value.oneCell']) (by unfold maxLen; omega) (by omega) (by have := hx.size; simp at this ⊢; omega) ?_; intro v' w3 hown' hgrow _))
        go_roundw
        case rel => exact ⟨k + 1, hlt, by go_num, by rw [HS.out, ptCells_snoc]; exact hown', ((hx.trans (by assumption)).alloc _).grown hgrow (fun j hj => by have := owns_block hown j hj; simp; omega)⟩
        case measure => simp [intOf]; omega
      · go_wp2_with fail
        go_ret2
        obtain rfl : k = n := by omega
        refine ⟨_, rfl, ⟨⟨?_, ?_⟩, fun h => ?_⟩, ((Ext.refl _).alloc _).trans hx⟩
        · rw [upTo_length]; exact hown.1
        · rw [upTo_length]; exact hown.2.imp id (fun ⟨g, cap, cur, h1, h2, h3⟩ => ⟨g, cap, cur, h1, by omega, h3⟩)
        · have := congrArg List.length h
          rw [upTo_length, List.length_nil] at this
          omega
  · have hp : cubicPts a b c d tol = [] := by unfold cubicPts; rw [if_neg he]
    rw [hp]
    have hne : ((cubicSegV a b c d tol).2 != 0) = true := by simpa using he
    have hne2 : ((cubicSegV a b c d tol).2 == 0) = false := by simpa using he
    clear he hp
    go_enter Try.func25, Try.ntmps25
    go_wp2_with (go_at_call 15; refine (rcubicSeg_any a b c d _ _).mono ?_; rintro e w' ⟨rfl, hb⟩)
    go_ret2
    exact ⟨_, rfl, ⟨World.ownsRow_nil _ _ _ _, fun _ => rfl⟩, ((Ext.refl _).alloc _).trans ‹_›⟩

end Go.Proofs.Ytkepeihlggkadaa
