/- Quad of the program. -/
import Derived.Test.YtkepeihlggkadaaFlatL
namespace Go.Proofs.Ytkepeihlggkadaa
open Go.RowKit Go.Shelf
attribute [local go_sem ↓] Go.wp_at_zero Go.wp_at_succ run_eql_point run_neq_point run_max_ii run_min_ii

theorem steps_any (n : Int) (fn : Fn) (first cap : Array Value) (w : World) :
    Calls Try.prog 59 #[.int .i64 n, .func fn first cap] w fun e w' =>
      e = .returned (.func (.func 89) #[] #[.pointer (some ⟨w.heap.size, 0, none⟩), .pointer (some ⟨w.heap.size + 1, 0, none⟩)]) ∧
      (w.alloc (.cells #[.int .i64 n] 3)).alloc (.cells #[.func fn first cap] 94) = w' := by
  go_enter Try.func59, Try.ntmps59
  go_wp2_with fail
  go_ret
  exact ⟨rfl, rfl⟩

/-- The number of segments that the search gives is from 1 to 64. -/
theorem least_range (need tol : Int) (k f j : Nat) (h : least need tol k f = some j) : k ≤ j ∧ j < k + f := by
  induction f generalizing k with
  | zero => cases h
  | succ f ih =>
    rw [least] at h
    split at h
    · injection h with h; omega
    · have := ih (k + 1) h; omega

theorem piecesV_range (need tol : Int) (ps : List (Int × Int)) (h : (piecesV need tol ps).2 = 0) : ∃ k : Nat, (piecesV need tol ps).1 = (k : Int) ∧ 1 ≤ k ∧ k ≤ 64 := by
  unfold piecesV at h ⊢
  split at h
  · cases h
  · split at h
    · cases h
    · rename_i h1 h2
      rw [if_neg h1, if_neg h2]
      split at h
      · rename_i k hk
        have := least_range _ _ _ _ _ hk
        exact ⟨k, rfl, by omega, by omega⟩
      · cases h

/-- The points of a flattened quadratic curve: none if there is an error. -/
def quadPts (a b c : Int × Int) (tol : Int) : List (Int × Int) :=
  if (quadSegV a b c tol).2 = 0 then upTo (fun i => quadAtV a b c i (quadSegV a b c tol).1) (quadSegV a b c tol).1.toNat else []

def OwnsPts (w w' : World) (v : Value) (ps : List (Int × Int)) : Prop := w'.ownsRow w.heap.size 23 2 v ps.length (ptCells ps) ∧ (ps = [] → v = .slice none 0 0)

def CurveSays (pts : List (Int × Int)) (er : Int) (w : World) (e : Ending) (w' : World) : Prop :=
  ∃ v, e = .returned (.tuple #[v, .int .i64 er]) ∧ OwnsPts w w' v pts ∧ Ext w w'

/-- Six cells of a box. -/
def Box6 (w : World) (g : Nat) (a b c : Int × Int) : Prop :=
  w.cell? ⟨g, 0, none⟩ = some (.int .i64 a.1) ∧ w.cell? ⟨g, 1, none⟩ = some (.int .i64 a.2) ∧ w.cell? ⟨g, 2, none⟩ = some (.int .i64 b.1) ∧
  w.cell? ⟨g, 3, none⟩ = some (.int .i64 b.2) ∧ w.cell? ⟨g, 4, none⟩ = some (.int .i64 c.1) ∧ w.cell? ⟨g, 5, none⟩ = some (.int .i64 c.2)
theorem Box6.ext {w w' : World} {g : Nat} {a b c : Int × Int} (h : Box6 w g a b c) (e : Ext w w') : Box6 w' g a b c :=
  ⟨e.get h.1, e.get h.2.1, e.get h.2.2.1, e.get h.2.2.2.1, e.get h.2.2.2.2.1, e.get h.2.2.2.2.2⟩

theorem collectQ (a b c : Int × Int) (n : Nat) (hn2 : n ≤ 64) (bp bq bn ba : Nat) (w : World) (hp : Box6 w bp a b c) (hq : w.cell? ⟨bq, 0, none⟩ = some (.int .i64 n)) (cn : w.cell? ⟨bn, 0, none⟩ = some (.int .i64 n))
    (ca : w.cell? ⟨ba, 0, none⟩ = some (.func (.func 60) #[] #[.pointer (some ⟨bp, 0, none⟩), .pointer (some ⟨bq, 0, none⟩)])) :
    Calls Try.prog 58 #[.func (.func 89) #[] #[.pointer (some ⟨bn, 0, none⟩), .pointer (some ⟨ba, 0, none⟩)]] w fun e w' =>
      ∃ v, e = .returned v ∧ OwnsPts w w' v (upTo (fun i => quadAtV a b c i n) n) ∧ Ext w w' := by
  refine (callsIn_wide (n := 3)).1 ((all_in Fence.wide 3 trivial trivial rfl (by omega) _ (upTo (fun i => quadAtV a b c i n) n) (by rw [upTo_length]; exact hn2) w ?_).mono ?_)
  · intro W hW l J Jx W1 hW1 hJ _ hY h0
    have e1 : Ext w W1 := hW.trans hW1
    refine stepsQ_in Fence.wide 2 trivial trivial rfl (by omega) n hn2 (fun i => quadAtV a b c i n) bn ba w.heap.size ⟨bp, 0, none⟩ ⟨bq, 0, none⟩ l J Jx W1
      (World.block_lt_of_cell? w _ cn) (World.block_lt_of_cell? w _ ca) (e1.get cn) (e1.get ca) ?_ (fun s A B hj he => hJ s A B none hj (grown_of_ext he) (fun r e => by cases e)) e1.size ?_ h0
    · intro i W2 hb
      have e2 : Ext w W2 := (e1.below).trans hb
      obtain ⟨p0, p1, p2, p3, p4, p5⟩ := hp.ext e2
      exact callsIn_wide.2 (quad1_any a b c i n bp bq W2 p0 p1 p2 p3 p4 p5 (e2.get hq))
    · intro pre x W2 hj hlt
      exact hY pre x W2 hj (by rw [upTo_length]; exact hlt)
  · rintro e W' ⟨v, rfl, ho, hnil, hx⟩
    exact ⟨v, rfl, ⟨ho, hnil.2⟩, hx⟩

theorem OwnsPts.more {w w0 w' : World} {v : Value} {ps : List (Int × Int)} (h : OwnsPts w w' v ps) (hs : w0.heap.size ≤ w.heap.size) : OwnsPts w0 w' v ps := by
  refine ⟨?_, h.2⟩
  obtain ⟨h1, h2⟩ := h.1
  refine ⟨h1, ?_⟩
  rcases h2 with h2 | ⟨g, cap, cur, hv, hg, r⟩
  · exact Or.inl h2
  · exact Or.inr ⟨g, cap, cur, hv, by omega, r⟩

set_option maxHeartbeats 800000 in
theorem quad_any (a b c : Int × Int) (tol : Int) (w : World) :
    Calls Try.prog 22 #[.agg #[.int .i64 a.1, .int .i64 a.2, .int .i64 b.1, .int .i64 b.2, .int .i64 c.1, .int .i64 c.2], .int .i64 tol] w (CurveSays (quadPts a b c tol) (quadSegV a b c tol).2 w) := by
  have g : ∀ w', Ext (w.alloc (.cells #[.int .i64 a.1, .int .i64 a.2, .int .i64 b.1, .int .i64 b.2, .int .i64 c.1, .int .i64 c.2] 28)) w' →
      w'.cell? ⟨w.heap.size, 0, none⟩ = some (.int .i64 a.1) ∧ w'.cell? ⟨w.heap.size, 1, none⟩ = some (.int .i64 a.2) ∧ w'.cell? ⟨w.heap.size, 2, none⟩ = some (.int .i64 b.1) ∧
      w'.cell? ⟨w.heap.size, 3, none⟩ = some (.int .i64 b.2) ∧ w'.cell? ⟨w.heap.size, 4, none⟩ = some (.int .i64 c.1) ∧ w'.cell? ⟨w.heap.size, 5, none⟩ = some (.int .i64 c.2) := fun w' h =>
    ⟨h.get (by simp), h.get (by simp), h.get (by simp), h.get (by simp), h.get (by simp), h.get (by simp)⟩
  have HG := Lib.hid g
  clear g
  by_cases he : (quadSegV a b c tol).2 = 0
  · obtain ⟨n, hn, hn1, hn2⟩ := piecesV_range (sqD a b c) tol [a, b, c] he
    have hp : quadPts a b c tol = upTo (fun i => quadAtV a b c i n) n := by
      unfold quadPts
      rw [if_pos he, show (quadSegV a b c tol).1 = (n : Int) from hn, Int.toNat_natCast]
    rw [hp]
    have HN := Lib.hid (show quadSegV a b c tol = ((n : Int), 0) from Prod.ext hn he)
    clear hn hp he
    rw [HN.out]
    go_enter Try.func22, Try.ntmps22
    go_wp2_with (first | (go_at_call 11; refine (quadSeg_any a b c _ _).mono ?_; rw [HN.out]; rintro e w' ⟨rfl, hb⟩) | (go_at_call 59; refine (steps_any _ _ _ _ _).mono ?_; rintro e w1 ⟨rfl, rfl⟩))
    refine (collectQ a b c n hn2 w.heap.size w'.heap.size (w'.heap.size + 1) (w'.heap.size + 1 + 1) _ (Box6.ext (HG.out w' hb) ((((Ext.refl w').alloc _).alloc _).alloc _))
      ((((Ext.refl (w'.alloc _)).alloc _).alloc _).get (by simp)) (((Ext.refl ((w'.alloc _).alloc _)).alloc _).get (by simp)) ((cell_last _ _ _ _ _ (by simp)).trans rfl)).mono ?_
    rintro e w2 ⟨v, rfl, ho, hx⟩
    have hs := hb.size
    go_wp2_with fail
    go_ret2
    exact ⟨v, rfl, ho.more (by simp at hs ⊢; omega), ((((((Ext.refl w).alloc _).trans hb).alloc _).alloc _).alloc _).trans hx⟩
  · have hp : quadPts a b c tol = [] := by unfold quadPts; rw [if_neg he]
    rw [hp]
    have hne : ((quadSegV a b c tol).2 != 0) = true := by simpa using he
    have hne2 : ((quadSegV a b c tol).2 == 0) = false := by simpa using he
    clear he hp
    go_enter Try.func22, Try.ntmps22
    go_wp2_with (first | (go_at_call 11; refine (quadSeg_any a b c _ _).mono ?_; rintro e w' ⟨rfl, hb⟩))
    go_ret2
    exact ⟨_, rfl, ⟨World.ownsRow_nil _ _ _ _, fun _ => rfl⟩, (((Ext.refl _).alloc _).trans ‹_›).alloc _⟩
end Go.Proofs.Ytkepeihlggkadaa
