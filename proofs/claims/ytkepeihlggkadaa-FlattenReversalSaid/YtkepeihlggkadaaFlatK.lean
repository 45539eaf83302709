/- The iterator of the points, and what collects them. -/
import Derived.Test.YtkepeihlggkadaaFlatJ
import Derived.RangeFuncNested
import Derived.RangeFuncBound
import Derived.RangeFuncCalls
import Derived.RangeFuncLeaves
import Derived.Shelf.Abstract
import Derived.Shelf.RegionOpen
import Derived.OwnWalkIn
import Derived.TacticsInMore
import Derived.LoopNIn
import Derived.LoopIn
import Derived.Maps.AppendAt
namespace Go.Proofs.Ytkepeihlggkadaa
open Go.RowKit Go.Shelf
attribute [local go_sem] Oper.semAt_some

/-- A point as a value. -/
def ptVal (x : Int × Int) : Value := .agg #[.int .i64 x.1, .int .i64 x.2]

/-- The points that come: f 1 .. f n. -/
def upTo (f : Int → Int × Int) (n : Nat) : List (Int × Int) := (List.range n).map fun k : Nat => f ((k : Int) + 1)
theorem upTo_length (f : Int → Int × Int) (n : Nat) : (upTo f n).length = n := by simp [upTo]
theorem upTo_succ (f : Int → Int × Int) (n : Nat) : upTo f (n + 1) = upTo f n ++ [f ((n : Int) + 1)] := by simp [upTo, List.range_succ]
theorem upTo_prefix (f : Int → Int × Int) (k n : Nat) (h : k ≤ n) : upTo f k <+: upTo f n := by
  unfold upTo
  obtain ⟨d, rfl⟩ := Nat.exists_eq_add_of_le h
  rw [List.range_add, List.map_append]
  exact List.prefix_append _ _

theorem grown_of_ext {A B : World} (h : Ext A B) : A.grownBy B none := ⟨h.os, h.tape, h.output, h.size, fun i hi _ => h.block i hi⟩

set_option maxRecDepth 100000 in
set_option maxHeartbeats 1000000 in
theorem stepsQ_in (F : Fence) (m : Nat) (hF : F.fn 89) (hF2 : F.fn 60) (hro : F.round = none) (hm : 1 ≤ m) (n : Nat) (hn : n ≤ 64) (f : Int → Int × Int) (bn ba n₀ : Nat) (p q : Addr) (l : Nat) (J Jx : List (Int × Int) → World → Prop) (w : World) (hbn : bn < n₀) (hba : ba < n₀)
    (cn : w.cell? ⟨bn, 0, none⟩ = some (.int .i64 n)) (ca : w.cell? ⟨ba, 0, none⟩ = some (.func (.func 60) #[] #[.pointer (some p), .pointer (some q)]))
    (hat : ∀ (i : Int) (W : World), Below n₀ w W → CallsIn F (m - 1) Try.prog 60 #[.int .i64 i, .pointer (some p), .pointer (some q)] W (fun e W' => e = .returned (ptVal (f i)) ∧ Ext W W'))
    (hJ : ∀ s A B, J s A → Ext A B → J s B) (hn₀ : n₀ ≤ w.heap.size)
    (hY : ∀ pre x W, J pre W → pre.length < n → YieldAt F (m - 1) Try.prog l #[ptVal x] W fun e W' =>
      (e = .returned (.bool true) ∧ J (pre ++ [x]) W' ∧ Below n₀ W W') ∨ (e = .returned (.bool false) ∧ Jx (pre ++ [x]) W')) (h0 : J [] w) :
    CallsIn F m Try.prog 89 #[.func (.yield l) #[] #[], .pointer (some ⟨bn, 0, none⟩), .pointer (some ⟨ba, 0, none⟩)] w fun e W' => (∃ v, e = .returned v) ∧
      ((∃ ys, ys = upTo f n ∧ J ys W') ∨ (∃ pre, pre <+: upTo f n ∧ Jx pre W')) := by
  refine callsIn_of_wp Try.func89 rfl hF ?_ hro
  simp only [Try.ntmps89, List.size_toArray, List.length_cons, List.length_nil, Nat.reduceAdd, Nat.reduceSub, Array.replicate_succ, Array.replicate_zero, List.push_toArray, List.append_toArray, List.nil_append, List.cons_append]
  gi_wp2
  gi_loopw [4] (fun i wr => ∃ k : Nat, k ≤ n ∧ i = .int .i64 ((k : Int) + 1) ∧ Below n₀ w wr ∧ J (upTo f k) wr) (fun i _ => n + 1 - (intOf i).toNat)
  case atStart => exact ⟨0, Nat.zero_le _, rfl, Below.refl _ _, h0⟩
  case round =>
    obtain ⟨k, hk, rfl, hb, hj⟩ := hrel
    have c1 := (hb.cell (p := ⟨bn, 0, none⟩) hbn).trans cn
    have c2 := (hb.cell (p := ⟨ba, 0, none⟩) hba).trans ca
    by_cases hlt : k < n
    · gi_wp2_with (gi_at_call 60; refine (hat _ _ hb).mono ?_; rintro e W1 ⟨rfl, hx⟩; obtain ⟨fn, tmps, assign, body, hy, hR⟩ := hY _ (f ((k : Int) + 1)) W1 (hJ _ _ _ hj hx) (by rw [upTo_length]; exact hlt))
      gi_wp2
      refine hR.mono ?_
      rintro e W3 (⟨rfl, hJ3, hk3⟩ | ⟨rfl, hJx3⟩)
      · gi_wp2
        go_roundw
        case rel => exact ⟨k + 1, hlt, by go_num, ((hb.trans (hx.below.mono (Nat.le_trans hn₀ hb.size))).trans hk3), by rw [upTo_succ]; exact hJ3⟩
        case measure => simp [intOf]; omega
      · gi_wp2
        refine bodyPost_ret (results_none rfl _ _ _) rfl ?_
        exact ⟨⟨_, rfl⟩, .inr ⟨_, by rw [← upTo_succ]; exact upTo_prefix f _ _ hlt, hJx3⟩⟩
    · gi_wp2
      go_end0
      have e : k = n := by omega
      subst e
      exact ⟨⟨_, rfl⟩, .inl ⟨_, rfl, hj⟩⟩

end Go.Proofs.Ytkepeihlggkadaa
