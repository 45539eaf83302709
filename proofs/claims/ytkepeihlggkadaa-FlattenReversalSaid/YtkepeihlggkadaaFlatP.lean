/- Cubic of the program. -/
import Derived.Test.YtkepeihlggkadaaFlatO
import Derived.RangeFuncNested
import Derived.RangeFuncBound
import Derived.RangeFuncCalls
import Derived.RangeFuncLeaves
import Derived.Shelf.Abstract
import Derived.Shelf.RegionOpen
import Derived.OwnWalkIn
import Derived.TacticsInMore
import Derived.LoopNIn
import Derived.LoopIn
import Derived.Maps.AppendAt
namespace Go.Proofs.Ytkepeihlggkadaa
open Go.RowKit Go.Shelf
attribute [local go_sem] Oper.semAt_some

set_option maxRecDepth 100000 in
set_option maxHeartbeats 1000000 in
theorem stepsC_in (F : Fence) (m : Nat) (hF : F.fn 89) (hF2 : F.fn 61) (hro : F.round = none) (hm : 1 ≤ m) (n : Nat) (hn : n ≤ 64) (f : Int → Int × Int) (bn ba n₀ : Nat) (p q : Addr) (l : Nat) (J Jx : List (Int × Int) → World → Prop) (w : World) (hbn : bn < n₀) (hba : ba < n₀)
    (cn : w.cell? ⟨bn, 0, none⟩ = some (.int .i64 n)) (ca : w.cell? ⟨ba, 0, none⟩ = some (.func (.func 61) #[] #[.pointer (some p), .pointer (some q)]))
    (hat : ∀ (i : Int) (W : World), Below n₀ w W → CallsIn F (m - 1) Try.prog 61 #[.int .i64 i, .pointer (some p), .pointer (some q)] W (fun e W' => e = .returned (ptVal (f i)) ∧ Ext W W'))
    (hJ : ∀ s A B, J s A → Ext A B → J s B) (hn₀ : n₀ ≤ w.heap.size)
    (hY : ∀ pre x W, J pre W → pre.length < n → YieldAt F (m - 1) Try.prog l #[ptVal x] W fun e W' =>
      (e = .returned (.bool true) ∧ J (pre ++ [x]) W' ∧ Below n₀ W W') ∨ (e = .returned (.bool false) ∧ Jx (pre ++ [x]) W')) (h0 : J [] w) :
    CallsIn F m Try.prog 89 #[.func (.yield l) #[] #[], .pointer (some ⟨bn, 0, none⟩), .pointer (some ⟨ba, 0, none⟩)] w fun e W' => (∃ v, e = .returned v) ∧
      ((∃ ys, ys = upTo f n ∧ J ys W') ∨ (∃ pre, pre <+: upTo f n ∧ Jx pre W')) := by
  refine callsIn_of_wp Try.func89 rfl hF ?_ hro
  simp only [Try.ntmps89, List.size_toArray, List.length_cons, List.length_nil, Nat.reduceAdd, Nat.reduceSub, Array.replicate_succ, Array.replicate_zero, List.push_toArray, List.append_toArray, List.nil_append, List.cons_append]
  gi_wp2
  gi_loopw [4] (fun i wr => ∃ k : Nat, k ≤ n ∧ i = .int .i64 ((k : Int) + 1) ∧ Below n₀ w wr ∧ J (upTo f k) wr) (fun i _ => n + 1 - (intOf i).toNat)
  case atStart => exact ⟨0, Nat.zero_le _, rfl, Below.refl _ _, h0⟩
  case round =>
    obtain ⟨k, hk, rfl, hb, hj⟩ := hrel
    have c1 := (hb.cell (p := ⟨bn, 0, none⟩) hbn).trans cn
    have c2 := (hb.cell (p := ⟨ba, 0, none⟩) hba).trans ca
    by_cases hlt : k < n
    · gi_wp2_with (gi_at_call 61; refine (hat _ _ hb).mono ?_; rintro e W1 ⟨rfl, hx⟩; obtain ⟨fn, tmps, assign, body, hy, hR⟩ := hY _ (f ((k : Int) + 1)) W1 (hJ _ _ _ hj hx) (by rw [upTo_length]; exact hlt))
      gi_wp2
      refine hR.mono ?_
      rintro e W3 (⟨rfl, hJ3, hk3⟩ | ⟨rfl, hJx3⟩)
      · gi_wp2
        go_roundw
        case rel => exact ⟨k + 1, hlt, by go_num, ((hb.trans (hx.below.mono (Nat.le_trans hn₀ hb.size))).trans hk3), by rw [upTo_succ]; exact hJ3⟩
        case measure => simp [intOf]; omega
      · gi_wp2
        refine bodyPost_ret (results_none rfl _ _ _) rfl ?_
        exact ⟨⟨_, rfl⟩, .inr ⟨_, by rw [← upTo_succ]; exact upTo_prefix f _ _ hlt, hJx3⟩⟩
    · gi_wp2
      go_end0
      have e : k = n := by omega
      subst e
      exact ⟨⟨_, rfl⟩, .inl ⟨_, rfl, hj⟩⟩

/-- The points of a flattened cubic curve: none if there is an error. -/
def cubicPts (a b c d : Int × Int) (tol : Int) : List (Int × Int) :=
  if (cubicSegV a b c d tol).2 = 0 then upTo (fun i => cubicAtV a b c d i (cubicSegV a b c d tol).1) (cubicSegV a b c d tol).1.toNat else []

/-- Eight cells of a box. -/
def Box8 (w : World) (g : Nat) (a b c d : Int × Int) : Prop :=
  w.cell? ⟨g, 0, none⟩ = some (.int .i64 a.1) ∧ w.cell? ⟨g, 1, none⟩ = some (.int .i64 a.2) ∧ w.cell? ⟨g, 2, none⟩ = some (.int .i64 b.1) ∧
  w.cell? ⟨g, 3, none⟩ = some (.int .i64 b.2) ∧ w.cell? ⟨g, 4, none⟩ = some (.int .i64 c.1) ∧ w.cell? ⟨g, 5, none⟩ = some (.int .i64 c.2) ∧ w.cell? ⟨g, 6, none⟩ = some (.int .i64 d.1) ∧ w.cell? ⟨g, 7, none⟩ = some (.int .i64 d.2)
theorem Box8.ext {w w' : World} {g : Nat} {a b c d : Int × Int} (h : Box8 w g a b c d) (e : Ext w w') : Box8 w' g a b c d :=
  ⟨e.get h.1, e.get h.2.1, e.get h.2.2.1, e.get h.2.2.2.1, e.get h.2.2.2.2.1, e.get h.2.2.2.2.2.1, e.get h.2.2.2.2.2.2.1, e.get h.2.2.2.2.2.2.2⟩

theorem collectC (a b c d : Int × Int) (n : Nat) (hn2 : n ≤ 64) (bp bq bn ba : Nat) (w : World) (hp : Box8 w bp a b c d) (hq : w.cell? ⟨bq, 0, none⟩ = some (.int .i64 n)) (cn : w.cell? ⟨bn, 0, none⟩ = some (.int .i64 n))
    (ca : w.cell? ⟨ba, 0, none⟩ = some (.func (.func 61) #[] #[.pointer (some ⟨bp, 0, none⟩), .pointer (some ⟨bq, 0, none⟩)])) :
    Calls Try.prog 58 #[.func (.func 89) #[] #[.pointer (some ⟨bn, 0, none⟩), .pointer (some ⟨ba, 0, none⟩)]] w fun e w' =>
      ∃ v, e = .returned v ∧ OwnsPts w w' v (upTo (fun i => cubicAtV a b c d i n) n) ∧ Ext w w' := by
  refine (callsIn_wide (n := 3)).1 ((all_in Fence.wide 3 trivial trivial rfl (by omega) _ (upTo (fun i => cubicAtV a b c d i n) n) (by rw [upTo_length]; exact hn2) w ?_).mono ?_)
  · intro W hW l J Jx W1 hW1 hJ _ hY h0
    have e1 : Ext w W1 := hW.trans hW1
    refine stepsC_in Fence.wide 2 trivial trivial rfl (by omega) n hn2 (fun i => cubicAtV a b c d i n) bn ba w.heap.size ⟨bp, 0, none⟩ ⟨bq, 0, none⟩ l J Jx W1
      (World.block_lt_of_cell? w _ cn) (World.block_lt_of_cell? w _ ca) (e1.get cn) (e1.get ca) ?_ (fun s A B hj he => hJ s A B none hj (grown_of_ext he) (fun r e => by cases e)) e1.size ?_ h0
    · intro i W2 hb
      have e2 : Ext w W2 := (e1.below).trans hb
      obtain ⟨p0, p1, p2, p3, p4, p5, p6, p7⟩ := hp.ext e2
      exact callsIn_wide.2 (cubic1_any a b c d i n bp bq W2 p0 p1 p2 p3 p4 p5 p6 p7 (e2.get hq))
    · intro pre x W2 hj hlt
      exact hY pre x W2 hj (by rw [upTo_length]; exact hlt)
  · rintro e W' ⟨v, rfl, ho, hnil, hx⟩
    exact ⟨v, rfl, ⟨ho, hnil.2⟩, hx⟩

attribute [local go_sem ↓] Go.wp_at_zero Go.wp_at_succ run_eql_point run_neq_point run_max_ii run_min_ii

set_option maxHeartbeats 800000 in
theorem cubic_any (a b c d : Int × Int) (tol : Int) (w : World) :
    Calls Try.prog 24 #[.agg #[.int .i64 a.1, .int .i64 a.2, .int .i64 b.1, .int .i64 b.2, .int .i64 c.1, .int .i64 c.2, .int .i64 d.1, .int .i64 d.2], .int .i64 tol] w (CurveSays (cubicPts a b c d tol) (cubicSegV a b c d tol).2 w) := by
  have g : ∀ w', Ext (w.alloc (.cells #[.int .i64 a.1, .int .i64 a.2, .int .i64 b.1, .int .i64 b.2, .int .i64 c.1, .int .i64 c.2, .int .i64 d.1, .int .i64 d.2] 24)) w' →
      w'.cell? ⟨w.heap.size, 0, none⟩ = some (.int .i64 a.1) ∧ w'.cell? ⟨w.heap.size, 1, none⟩ = some (.int .i64 a.2) ∧ w'.cell? ⟨w.heap.size, 2, none⟩ = some (.int .i64 b.1) ∧
      w'.cell? ⟨w.heap.size, 3, none⟩ = some (.int .i64 b.2) ∧ w'.cell? ⟨w.heap.size, 4, none⟩ = some (.int .i64 c.1) ∧ w'.cell? ⟨w.heap.size, 5, none⟩ = some (.int .i64 c.2) ∧ w'.cell? ⟨w.heap.size, 6, none⟩ = some (.int .i64 d.1) ∧ w'.cell? ⟨w.heap.size, 7, none⟩ = some (.int .i64 d.2) := fun w' h =>
    ⟨h.get (by simp), h.get (by simp), h.get (by simp), h.get (by simp), h.get (by simp), h.get (by simp), h.get (by simp), h.get (by simp)⟩
  have HG := Lib.hid g
  clear g
  by_cases he : (cubicSegV a b c d tol).2 = 0
  · obtain ⟨n, hn, hn1, hn2⟩ := piecesV_range (9 * max (sqD a b c) (sqD b c d)) tol [a, b, c, d] he
    have hp : cubicPts a b c d tol = upTo (fun i => cubicAtV a b c d i n) n := by
      unfold cubicPts
      rw [if_pos he, show (cubicSegV a b c d tol).1 = (n : Int) from hn, Int.toNat_natCast]
    rw [hp]
    have HN := Lib.hid (show cubicSegV a b c d tol = ((n : Int), 0) from Prod.ext hn he)
    clear hn hp he
    rw [HN.out]
    go_enter Try.func24, Try.ntmps24
    go_wp2_with (first | (go_at_call 14; refine (cubicSeg_any a b c d _ _).mono ?_; rw [HN.out]; rintro e w' ⟨rfl, hb⟩) | (go_at_call 59; refine (steps_any _ _ _ _ _).mono ?_; rintro e w1 ⟨rfl, rfl⟩))
    refine (collectC a b c d n hn2 w.heap.size w'.heap.size (w'.heap.size + 1) (w'.heap.size + 1 + 1) _ (Box8.ext (HG.out w' hb) ((((Ext.refl w').alloc _).alloc _).alloc _))
      ((((Ext.refl (w'.alloc _)).alloc _).alloc _).get (by simp)) (((Ext.refl ((w'.alloc _).alloc _)).alloc _).get (by simp)) ((cell_last _ _ _ _ _ (by simp)).trans rfl)).mono ?_
    rintro e w2 ⟨v, rfl, ho, hx⟩
    have hs := hb.size
    go_wp2_with fail
    go_ret2
    exact ⟨v, rfl, ho.more (by simp at hs ⊢; omega), ((((((Ext.refl w).alloc _).trans hb).alloc _).alloc _).alloc _).trans hx⟩
  · have hp : cubicPts a b c d tol = [] := by unfold cubicPts; rw [if_neg he]
    rw [hp]
    have hne : ((cubicSegV a b c d tol).2 != 0) = true := by simpa using he
    have hne2 : ((cubicSegV a b c d tol).2 == 0) = false := by simpa using he
    clear he hp
    go_enter Try.func24, Try.ntmps24
    go_wp2_with (first | (go_at_call 14; refine (cubicSeg_any a b c d _ _).mono ?_; rintro e w' ⟨rfl, hb⟩))
    go_ret2
    exact ⟨_, rfl, ⟨World.ownsRow_nil _ _ _ _, fun _ => rfl⟩, (((Ext.refl _).alloc _).trans ‹_›).alloc _⟩
end Go.Proofs.Ytkepeihlggkadaa
