/- Contracts that the claim stands on: XFlatK to XFrameP. -/
import Derived.RangeFuncNested
import Derived.RangeFuncBound
import Derived.RangeFuncCalls
import Derived.RangeFuncLeaves
import Derived.Shelf.Abstract
import Derived.Shelf.RegionOpen
import Derived.OwnWalkIn
import Derived.TacticsInMore
import Derived.LoopNIn
import Derived.LoopIn
import Derived.Maps.AppendAt
import Derived.Deep.AppendLies
import Derived.Test.YtllpkoinjompcaaGreatRows
import Derived.ProofKit
import Derived.OpenShut
import Derived.Below
import Derived.ChangeSlices
import Derived.Test.YtllpkoinjompcaaGreatM8
namespace Go.Proofs.YtllpkoinjompcaaGreat
open Go.RowKit Go.Shelf
attribute [local go_sem] Oper.semAt_some

def ptVal (x : Int × Int) : Value := .agg #[.int .i64 x.1, .int .i64 x.2]

def upTo (f : Int → Int × Int) (n : Nat) : List (Int × Int) := (List.range n).map fun k : Nat => f ((k : Int) + 1)
theorem upTo_length (f : Int → Int × Int) (n : Nat) : (upTo f n).length = n := by simp [upTo]
theorem upTo_succ (f : Int → Int × Int) (n : Nat) : upTo f (n + 1) = upTo f n ++ [f ((n : Int) + 1)] := by simp [upTo, List.range_succ]
theorem upTo_prefix (f : Int → Int × Int) (k n : Nat) (h : k ≤ n) : upTo f k <+: upTo f n := by
  unfold upTo
  obtain ⟨d, rfl⟩ := Nat.exists_eq_add_of_le h
  rw [List.range_add, List.map_append]
  exact List.prefix_append _ _

theorem grown_of_ext {A B : World} (h : Ext A B) : A.grownBy B none := ⟨h.os, h.tape, h.output, h.size, fun i hi _ => h.block i hi⟩

set_option maxRecDepth 100000 in
set_option maxHeartbeats 1000000 in
theorem stepsQ_in (F : Fence) (m : Nat) (hF : F.fn 81) (hF2 : F.fn 54) (hro : F.round = none) (hm : 1 ≤ m) (n : Nat) (hn : n ≤ 64) (f : Int → Int × Int) (bn ba n₀ : Nat) (p q : Addr) (l : Nat) (J Jx : List (Int × Int) → World → Prop) (w : World) (hbn : bn < n₀) (hba : ba < n₀)
    (cn : w.cell? ⟨bn, 0, none⟩ = some (.int .i64 n)) (ca : w.cell? ⟨ba, 0, none⟩ = some (.func (.func 54) #[] #[.pointer (some p), .pointer (some q)]))
    (hat : ∀ (i : Int) (W : World), Below n₀ w W → CallsIn F (m - 1) Tryz.prog 54 #[.int .i64 i, .pointer (some p), .pointer (some q)] W (fun e W' => e = .returned (ptVal (f i)) ∧ Ext W W'))
    (hJ : ∀ s A B, J s A → Ext A B → J s B) (hn₀ : n₀ ≤ w.heap.size)
    (hY : ∀ pre x W, J pre W → pre.length < n → YieldAt F (m - 1) Tryz.prog l #[ptVal x] W fun e W' =>
      (e = .returned (.bool true) ∧ J (pre ++ [x]) W' ∧ Below n₀ W W') ∨ (e = .returned (.bool false) ∧ Jx (pre ++ [x]) W')) (h0 : J [] w) :
    CallsIn F m Tryz.prog 81 #[.func (.yield l) #[] #[], .pointer (some ⟨bn, 0, none⟩), .pointer (some ⟨ba, 0, none⟩)] w fun e W' => (∃ v, e = .returned v) ∧
      ((∃ ys, ys = upTo f n ∧ J ys W') ∨ (∃ pre, pre <+: upTo f n ∧ Jx pre W')) := by
  refine callsIn_of_wp Tryz.func81 rfl hF ?_ hro
  simp only [Tryz.ntmps81, List.size_toArray, List.length_cons, List.length_nil, Nat.reduceAdd, Nat.reduceSub, Array.replicate_succ, Array.replicate_zero, List.push_toArray, List.append_toArray, List.nil_append, List.cons_append]
  gi_wp2
  gi_loopw [4] (fun i wr => ∃ k : Nat, k ≤ n ∧ i = .int .i64 ((k : Int) + 1) ∧ Below n₀ w wr ∧ J (upTo f k) wr) (fun i _ => n + 1 - (intOf i).toNat)
  case atStart => exact ⟨0, Nat.zero_le _, rfl, Below.refl _ _, h0⟩
  case round =>
    obtain ⟨k, hk, rfl, hb, hj⟩ := hrel
    have c1 := (hb.cell (p := ⟨bn, 0, none⟩) hbn).trans cn
    have c2 := (hb.cell (p := ⟨ba, 0, none⟩) hba).trans ca
    by_cases hlt : k < n
    · gi_wp2_with (gi_at_call 54; refine (hat _ _ hb).mono ?_; rintro e W1 ⟨rfl, hx⟩; obtain ⟨fn, tmps, assign, body, hy, hR⟩ := hY _ (f ((k : Int) + 1)) W1 (hJ _ _ _ hj hx) (by rw [upTo_length]; exact hlt))
      gi_wp2
      refine hR.mono ?_
      rintro e W3 (⟨rfl, hJ3, hk3⟩ | ⟨rfl, hJx3⟩)
      · gi_wp2
        go_roundw
        case rel => exact ⟨k + 1, hlt, by go_num, ((hb.trans (hx.below.mono (Nat.le_trans hn₀ hb.size))).trans hk3), by rw [upTo_succ]; exact hJ3⟩
        case measure => simp [intOf]; omega
      · gi_wp2
        refine bodyPost_ret (results_none rfl _ _ _) rfl ?_
        exact ⟨⟨_, rfl⟩, .inr ⟨_, by rw [← upTo_succ]; exact upTo_prefix f _ _ hlt, hJx3⟩⟩
    · gi_wp2
      go_end0
      have e : k = n := by omega
      subst e
      exact ⟨⟨_, rfl⟩, .inl ⟨_, rfl, hj⟩⟩

end Go.Proofs.YtllpkoinjompcaaGreat

namespace Go.Proofs.YtllpkoinjompcaaGreat
open Go.RowKit Go.Shelf
attribute [local go_sem] Oper.semAt_some

theorem infoPt : (Tryz.prog.info? 49).map (fun i => (i.zero, i.size, i.bytes)) = some (some (.agg #[.int .i64 0, .int .i64 0]), 2, 16) := by kernel_rfl

def ptCells (xs : List (Int × Int)) : List Value := xs.flatMap fun x => [Value.int .i64 x.1, Value.int .i64 x.2]
theorem ptCells_snoc (xs : List (Int × Int)) (x : Int × Int) : ptCells (xs ++ [x]) = ptCells xs ++ [Value.int .i64 x.1, Value.int .i64 x.2] := by simp [ptCells]
theorem ptCells_length (xs : List (Int × Int)) : (ptCells xs).length = xs.length * 2 := by
  induction xs with
  | nil => rfl
  | cons x xs ih => simp only [ptCells, List.flatMap_cons, List.length_append, List.length_cons, List.length_nil] at ih ⊢; omega

theorem two_new (w : World) (a b : Value) (t : TypeId) : ∀ (j : Nat) (u : Value), [a, b][j]? = some u → (w.alloc (.cells #[a, b] t)).cell? ((⟨w.heap.size, 0, none⟩ : Addr).add j) = some u := by
  intro j u hj
  match j, hj with
  | 0, hj => simp at hj; subst hj; simp [Addr.add]
  | 1, hj => simp at hj; subst hj; simp [Addr.add]

set_option maxRecDepth 100000 in
set_option maxHeartbeats 2000000 in
theorem all_in (F : Fence) (m : Nat) (hF : F.fn 52) (hF2 : F.fn 81) (hro : F.round = none) (hm : 3 ≤ m) (lb : Array Value) (xs : List (Int × Int)) (hlen : xs.length ≤ 64) (w : World)
    (hseq : ∀ W, Ext w W → SeqStopsK F (m - 1) Tryz.prog 81 lb (fun x : Int × Int => #[ptVal x]) (Below w.heap.size) (fun ys => ys = xs) (fun pre => pre <+: xs) xs.length W) :
    CallsIn F m Tryz.prog 52 #[.func (.func 81) #[] lb] w fun e W' => ∃ v, e = .returned v ∧ W'.ownsRow w.heap.size 49 2 v xs.length (ptCells xs) ∧ (v = .slice none 0 0 ↔ xs = []) ∧ Ext w W' := by
  have h1 : 1 ≤ m := by omega
  obtain ⟨i0, hi, hz0, hz1, hz2⟩ := info_parts infoPt
  refine callsIn_of_wp_marks Tryz.func52 rfl hF ?_ hro
  simp only [Tryz.ntmps52, List.size_toArray, List.length_cons, List.length_nil, Nat.reduceAdd, Nat.reduceSub, Array.replicate_succ, Array.replicate_zero, List.push_toArray, List.append_toArray, List.nil_append, List.cons_append]
  gi_wp2
  have bO := Boxed.new w 54 (.slice none 0 0)
  have hB0 : Below w.heap.size w (w.alloc (.cells #[.slice none 0 0] 54)) := (Below.refl _ w).alloc (Nat.le_refl _) _
  have hq := hseq _ hB0
  refine wpIn_rangeFunc_ownH hro h1 (gf := 81) (lb := lb) rfl hF2 (enters_of Tryz.func81 (by kernel_rfl) rfl)
    hq belowK_t (belowK_b (by simp)) (Below.refl _ _) (fun _ => rfl)
    (fun pre W => (∃ v, Boxed W w.heap.size 54 v ∧ W.ownsRow w.heap.size 49 2 v pre.length (ptCells pre) ∧ (v = .slice none 0 0 ↔ pre = [])) ∧ Below w.heap.size w W)
    (fun _ _ _ => False)
    (OwnFrom.and (Own.from (holdsRow_own w.heap.size w.heap.size 54 49 2 (fun pre => pre.length) (fun pre => ptCells pre) (fun pre v => v = .slice none 0 0 ↔ pre = [])) _) (ownFrom_below (Nat.le_refl _) (by simp)))
    (fun _ _ _ _ _ hs _ _ => hs)
    ⟨⟨_, bO, World.ownsRow_nil _ _ _ _, by simp⟩, hB0⟩
    (fun x a' W => ∃ Bx, w.heap.size < Bx ∧ W.heap[Bx]? = some (.cells #[.int .i64 x.1, .int .i64 x.2] 49 (0, 0)) ∧ a' = { tmps := #[.func (.func 81) #[] lb, undef, .slice none 0 0, .pointer (some ⟨w.heap.size, 0, none⟩), .pointer (some ⟨Bx, 0, none⟩), .func (.func 81) #[] lb, ptVal x, undef, undef, undef, undef, undef], defers := [] })
    (fun x a' _ X Y row hs hg hr => by
      obtain ⟨Bx, h1, h2, h3⟩ := hs
      refine ⟨Bx, h1, ?_, h3⟩
      exact (hg.block Bx (Array.getElem?_eq_some_iff.1 h2).1 (fun e => by obtain ⟨_, o, ho, hc⟩ := hr Bx e.symm; rw [h2] at ho; cases ho; cases hc)).trans h2)
    ?assign ?body ?done ?stop
  case assign =>
    rintro l pre x W K ⟨⟨v, hv, hrow, hnil⟩, hB⟩ hK
    unfold ptVal at hK ⊢
    gi_wp2
    exact hK _ _ ((KeepsOthers.alloc _ _).from _) ((Below.refl _ W).alloc hB.size _) ⟨⟨v, hv.alloc _, hrow.alloc _, hnil⟩, hB.alloc hB.size _⟩ ⟨W.heap.size, hv.lt, Blk.new W _ _, rfl⟩
  case body =>
    rintro l pre x a' W hl _ ⟨⟨v, hv, hrow, hnil⟩, hB⟩ ⟨Bx, hBx, hX, rfl⟩ hlt
    have hc := hv.cell
    have x0 : W.cell? ⟨Bx, 0, none⟩ = some (.int .i64 x.1) := cell_of_row W Bx 0 _ _ (0, 0) hX
    have x1 : W.cell? ⟨Bx, 1, none⟩ = some (.int .i64 x.2) := cell_of_row W Bx 1 _ _ (0, 0) hX
    have hln := ptCells_length pre
    have HL := zH hln
    clear hln
    gi_wp2_with (gi_at_builtin; refine wpListIn_append_own _ rfl _ _ 54 rfl w.heap.size 49 i0 (.agg #[.int .i64 0, .int .i64 0]) 2 16 Tryz.underlying54 hi hz0 hz1 hz2 rfl (by decide) _ _ _ rfl (hrow.alloc _) ⟨W.heap.size, 0, none⟩ 1 1 [.int .i64 x.1, .int .i64 x.2] rfl rfl (two_new _ _ _ _) (by simp [Value.oneCell']) (by unfold maxLen; omega) (by omega) (by have := hB.size; simp; omega) ?_; intro v' w1 hown' hgrow _; obtain ⟨g', cap', rfl⟩ := ownsRow_succ hown'; obtain ⟨hv1, hv2, hr2, hk2, hb2⟩ := hv.appended (by decide) hrow hB.size (Nat.le_refl _) hown' hgrow; have hc1 := hv1.cell; have hf1 := hv1.frozen)
    exact ⟨hk2.from _, hb2, ⟨_, hv2, by rw [ptCells_snoc]; simpa using hr2, by simp⟩, hB.trans hb2⟩
  case done =>
    rintro D ys W hD rfl ⟨⟨v, hv, hrow, hnil⟩, hB⟩ hK
    have hc := hv.cell
    gi_wp2
    refine ⟨by simp, .inl ⟨_, _, rfl, run_takeDeferred hK, ?_⟩⟩
    exact ⟨_, results_tmp rfl _ _ _, v, rfl, ownsRow_putObj hrow _ hK rfl, hnil, hB.trans (belowK_b (w := w) (Nat.le_refl _) W D _ _ (by simp at hD; omega) hK rfl rfl)⟩
  case stop =>
    rintro D c pre W _ _ h _
    exact h.elim
end Go.Proofs.YtllpkoinjompcaaGreat

namespace Go.Proofs.YtllpkoinjompcaaGreat
open Go.RowKit Go.Shelf
attribute [local go_sem ↓] Go.wp_at_zero Go.wp_at_succ run_eql_point run_neq_point run_max_ii run_min_ii

theorem steps_any (n : Int) (fn : Fn) (first cap : Array Value) (w : World) :
    Calls Tryz.prog 53 #[.int .i64 n, .func fn first cap] w fun e w' =>
      e = .returned (.func (.func 81) #[] #[.pointer (some ⟨w.heap.size, 0, none⟩), .pointer (some ⟨w.heap.size + 1, 0, none⟩)]) ∧
      (w.alloc (.cells #[.int .i64 n] 3)).alloc (.cells #[.func fn first cap] 83) = w' := by
  go_enter Tryz.func53, Tryz.ntmps53
  go_wp2_with fail
  go_ret
  exact ⟨rfl, rfl⟩

theorem least_range (need tol : Int) (k f j : Nat) (h : least need tol k f = some j) : k ≤ j ∧ j < k + f := by
  induction f generalizing k with
  | zero => cases h
  | succ f ih =>
    rw [least] at h
    split at h
    · injection h with h; omega
    · have := ih (k + 1) h; omega

theorem piecesV_range (need tol : Int) (ps : List (Int × Int)) (h : (piecesV need tol ps).2 = 0) : ∃ k : Nat, (piecesV need tol ps).1 = (k : Int) ∧ 1 ≤ k ∧ k ≤ 64 := by
  unfold piecesV at h ⊢
  split at h
  · cases h
  · split at h
    · cases h
    · rename_i h1 h2
      rw [if_neg h1, if_neg h2]
      split at h
      · rename_i k hk
        have := least_range _ _ _ _ _ hk
        exact ⟨k, rfl, by omega, by omega⟩
      · cases h

def quadPts (a b c : Int × Int) (tol : Int) : List (Int × Int) :=
  if (quadSegV a b c tol).2 = 0 then upTo (fun i => quadAtV a b c i (quadSegV a b c tol).1) (quadSegV a b c tol).1.toNat else []

def OwnsPts (w w' : World) (v : Value) (ps : List (Int × Int)) : Prop := w'.ownsRow w.heap.size 49 2 v ps.length (ptCells ps) ∧ (ps = [] → v = .slice none 0 0)

def CurveSays (pts : List (Int × Int)) (er : Int) (w : World) (e : Ending) (w' : World) : Prop :=
  ∃ v, e = .returned (.tuple #[v, .int .i64 er]) ∧ OwnsPts w w' v pts ∧ Ext w w'

def Box6 (w : World) (g : Nat) (a b c : Int × Int) : Prop :=
  w.cell? ⟨g, 0, none⟩ = some (.int .i64 a.1) ∧ w.cell? ⟨g, 1, none⟩ = some (.int .i64 a.2) ∧ w.cell? ⟨g, 2, none⟩ = some (.int .i64 b.1) ∧
  w.cell? ⟨g, 3, none⟩ = some (.int .i64 b.2) ∧ w.cell? ⟨g, 4, none⟩ = some (.int .i64 c.1) ∧ w.cell? ⟨g, 5, none⟩ = some (.int .i64 c.2)
theorem Box6.ext {w w' : World} {g : Nat} {a b c : Int × Int} (h : Box6 w g a b c) (e : Ext w w') : Box6 w' g a b c :=
  ⟨e.get h.1, e.get h.2.1, e.get h.2.2.1, e.get h.2.2.2.1, e.get h.2.2.2.2.1, e.get h.2.2.2.2.2⟩

theorem collectQ (a b c : Int × Int) (n : Nat) (hn2 : n ≤ 64) (bp bq bn ba : Nat) (w : World) (hp : Box6 w bp a b c) (hq : w.cell? ⟨bq, 0, none⟩ = some (.int .i64 n)) (cn : w.cell? ⟨bn, 0, none⟩ = some (.int .i64 n))
    (ca : w.cell? ⟨ba, 0, none⟩ = some (.func (.func 54) #[] #[.pointer (some ⟨bp, 0, none⟩), .pointer (some ⟨bq, 0, none⟩)])) :
    Calls Tryz.prog 52 #[.func (.func 81) #[] #[.pointer (some ⟨bn, 0, none⟩), .pointer (some ⟨ba, 0, none⟩)]] w fun e w' =>
      ∃ v, e = .returned v ∧ OwnsPts w w' v (upTo (fun i => quadAtV a b c i n) n) ∧ Ext w w' := by
  refine (callsIn_wide (n := 3)).1 ((all_in Fence.wide 3 trivial trivial rfl (by omega) _ (upTo (fun i => quadAtV a b c i n) n) (by rw [upTo_length]; exact hn2) w ?_).mono ?_)
  · intro W hW l J Jx W1 hW1 hJ _ hY h0
    have e1 : Ext w W1 := hW.trans hW1
    refine stepsQ_in Fence.wide 2 trivial trivial rfl (by omega) n hn2 (fun i => quadAtV a b c i n) bn ba w.heap.size ⟨bp, 0, none⟩ ⟨bq, 0, none⟩ l J Jx W1
      (World.block_lt_of_cell? w _ cn) (World.block_lt_of_cell? w _ ca) (e1.get cn) (e1.get ca) ?_ (fun s A B hj he => hJ s A B none hj (grown_of_ext he) (fun r e => by cases e)) e1.size ?_ h0
    · intro i W2 hb
      have e2 : Ext w W2 := (e1.below).trans hb
      obtain ⟨p0, p1, p2, p3, p4, p5⟩ := hp.ext e2
      exact callsIn_wide.2 (quad1_any a b c i n bp bq W2 p0 p1 p2 p3 p4 p5 (e2.get hq))
    · intro pre x W2 hj hlt
      exact hY pre x W2 hj (by rw [upTo_length]; exact hlt)
  · rintro e W' ⟨v, rfl, ho, hnil, hx⟩
    exact ⟨v, rfl, ⟨ho, hnil.2⟩, hx⟩

theorem OwnsPts.more {w w0 w' : World} {v : Value} {ps : List (Int × Int)} (h : OwnsPts w w' v ps) (hs : w0.heap.size ≤ w.heap.size) : OwnsPts w0 w' v ps := by
  refine ⟨?_, h.2⟩
  obtain ⟨h1, h2⟩ := h.1
  refine ⟨h1, ?_⟩
  rcases h2 with h2 | ⟨g, cap, cur, hv, hg, r⟩
  · exact Or.inl h2
  · exact Or.inr ⟨g, cap, cur, hv, by omega, r⟩

set_option maxHeartbeats 800000 in
theorem quad_any (a b c : Int × Int) (tol : Int) (w : World) :
    Calls Tryz.prog 27 #[.agg #[.int .i64 a.1, .int .i64 a.2, .int .i64 b.1, .int .i64 b.2, .int .i64 c.1, .int .i64 c.2], .int .i64 tol] w (CurveSays (quadPts a b c tol) (quadSegV a b c tol).2 w) := by
  have g : ∀ w', Ext (w.alloc (.cells #[.int .i64 a.1, .int .i64 a.2, .int .i64 b.1, .int .i64 b.2, .int .i64 c.1, .int .i64 c.2] 50)) w' →
      w'.cell? ⟨w.heap.size, 0, none⟩ = some (.int .i64 a.1) ∧ w'.cell? ⟨w.heap.size, 1, none⟩ = some (.int .i64 a.2) ∧ w'.cell? ⟨w.heap.size, 2, none⟩ = some (.int .i64 b.1) ∧
      w'.cell? ⟨w.heap.size, 3, none⟩ = some (.int .i64 b.2) ∧ w'.cell? ⟨w.heap.size, 4, none⟩ = some (.int .i64 c.1) ∧ w'.cell? ⟨w.heap.size, 5, none⟩ = some (.int .i64 c.2) := fun w' h =>
    ⟨h.get (by simp), h.get (by simp), h.get (by simp), h.get (by simp), h.get (by simp), h.get (by simp)⟩
  have HG := zH g
  clear g
  by_cases he : (quadSegV a b c tol).2 = 0
  · obtain ⟨n, hn, hn1, hn2⟩ := piecesV_range (sqD a b c) tol [a, b, c] he
    have hp : quadPts a b c tol = upTo (fun i => quadAtV a b c i n) n := by
      unfold quadPts
      rw [if_pos he, show (quadSegV a b c tol).1 = (n : Int) from hn, Int.toNat_natCast]
    rw [hp]
    have HN := zH (show quadSegV a b c tol = ((n : Int), 0) from Prod.ext hn he)
    clear hn hp he
    rw [HN.out]
    go_enter Tryz.func27, Tryz.ntmps27
    go_wp2_with (first | (go_at_call 26; refine (quadSeg_any a b c _ _).mono ?_; rw [HN.out]; rintro e w' ⟨rfl, hb⟩) | (go_at_call 53; refine (steps_any _ _ _ _ _).mono ?_; rintro e w1 ⟨rfl, rfl⟩))
    refine (collectQ a b c n hn2 w.heap.size w'.heap.size (w'.heap.size + 1) (w'.heap.size + 1 + 1) _ (Box6.ext (HG.out w' hb) ((((Ext.refl w').alloc _).alloc _).alloc _))
      ((((Ext.refl (w'.alloc _)).alloc _).alloc _).get (by simp)) (((Ext.refl ((w'.alloc _).alloc _)).alloc _).get (by simp)) ((cell_last _ _ _ _ _ (by simp)).trans rfl)).mono ?_
    rintro e w2 ⟨v, rfl, ho, hx⟩
    have hs := hb.size
    go_wp2_with fail
    go_ret2
    exact ⟨v, rfl, ho.more (by simp at hs ⊢; omega), ((((((Ext.refl w).alloc _).trans hb).alloc _).alloc _).alloc _).trans hx⟩
  · have hp : quadPts a b c tol = [] := by unfold quadPts; rw [if_neg he]
    rw [hp]
    have hne : ((quadSegV a b c tol).2 != 0) = true := by simpa using he
    have hne2 : ((quadSegV a b c tol).2 == 0) = false := by simpa using he
    clear he hp
    go_enter Tryz.func27, Tryz.ntmps27
    go_wp2_with (first | (go_at_call 26; refine (quadSeg_any a b c _ _).mono ?_; rintro e w' ⟨rfl, hb⟩))
    go_ret2
    exact ⟨_, rfl, ⟨World.ownsRow_nil _ _ _ _, fun _ => rfl⟩, (((Ext.refl _).alloc _).trans ‹_›).alloc _⟩
end Go.Proofs.YtllpkoinjompcaaGreat

namespace Go.Proofs.YtllpkoinjompcaaGreat
open Go.RowKit
attribute [local go_sem ↓] Go.wp_at_zero Go.wp_at_succ run_eql_point run_neq_point run_max_ii run_min_ii

def PtsV (w : World) (v : Value) (ps : List (Int × Int)) : Prop :=
  ∃ (A : Option Addr) (cap : Nat), v = .slice A ps.length cap ∧ (ps ≠ [] → ∃ g off, A = some ⟨g, off, none⟩ ∧ PtsAt w g off ps)

theorem PtsV.ext {w w' : World} {v : Value} {ps : List (Int × Int)} (h : PtsV w v ps) (e : Ext w w') : PtsV w' v ps := by
  obtain ⟨A, cap, hv, ha⟩ := h
  exact ⟨A, cap, hv, fun hn => by obtain ⟨g, off, hA, hp⟩ := ha hn; exact ⟨g, off, hA, hp.ext e⟩⟩

theorem ptCells_get (ps : List (Int × Int)) (i : Nat) (hi : i < ps.length) : (ptCells ps)[i * 2]? = some (.int .i64 (ps.getD i (0, 0)).1) ∧ (ptCells ps)[i * 2 + 1]? = some (.int .i64 (ps.getD i (0, 0)).2) := by
  induction ps generalizing i with
  | nil => simp at hi
  | cons x xs ih =>
    cases i with
    | zero => simp [ptCells]
    | succ i =>
      have := ih i (by simpa using hi)
      have e : ptCells (x :: xs) = Value.int .i64 x.1 :: Value.int .i64 x.2 :: ptCells xs := by simp [ptCells]
      rw [e, show (i + 1) * 2 = i * 2 + 1 + 1 by omega, show i * 2 + 1 + 1 + 1 = (i * 2 + 1) + 1 + 1 by omega]
      simpa using this

theorem add_off (g j : Nat) : (⟨g, 0, none⟩ : Addr).add j = ⟨g, j, none⟩ := by
  unfold Addr.add
  by_cases h : j = 0
  · simp [h]
  · simp [h]

theorem OwnsPts.read {w w' : World} {v : Value} {ps : List (Int × Int)} (h : OwnsPts w w' v ps) : PtsV w' v ps := by
  rcases h.1.2 with ⟨rfl, hx⟩ | ⟨g, cap, cur, rfl, hg, hh, hc⟩
  · have : ps = [] := by
      have := ptCells_length ps
      exact List.eq_nil_of_length_eq_zero (by first | omega | (rw [hx] at this; simp at this; omega))
    subst this
    exact ⟨none, 0, rfl, fun hn => absurd rfl hn⟩
  · refine ⟨_, cap, rfl, fun _ => ⟨g, 0, rfl, fun i hi => ?_⟩⟩
    have q := ptCells_get ps i hi
    have c := World.ownsRow.cells h.1 (g := g) rfl
    have c0 := c _ _ q.1
    have c1 := c _ _ q.2
    rw [add_off] at c0 c1
    exact ⟨by rw [Nat.zero_add]; exact c0, by rw [Nat.zero_add]; exact c1⟩

theorem take_eq_succ (ps qs : List (Int × Int)) (k : Nat) (h : k < ps.length) (h' : k < qs.length) (ht : ps.take k = qs.take k) (he : ps.getD k (0, 0) = qs.getD k (0, 0)) : ps.take (k + 1) = qs.take (k + 1) := by
  rw [List.take_succ_eq_append_getElem h, List.take_succ_eq_append_getElem h', ht]
  simp [List.getD, h, h'] at he
  rw [he]

theorem samePts_any (u v : Value) (ps qs : List (Int × Int)) (w : World) (hu : PtsV w u ps) (hv : PtsV w v qs) (h1 : ps.length ≤ 100000) (h2 : qs.length ≤ 100000) :
    Calls Tryz.prog 28 #[u, v] w fun e w' => e = .returned (.bool (decide (ps = qs))) ∧ Ext w w' := by
  obtain ⟨A, ca, rfl, hA⟩ := hu
  obtain ⟨B, cb, rfl, hB⟩ := hv
  by_cases hl : ps.length = qs.length
  · have hne : ((ps.length : Int) != (qs.length : Int)) = false := by simp [hl]
    have hne2 : ((ps.length : Int) == (qs.length : Int)) = true := by simp [hl]
    have HL := zH hl
    clear hl
    by_cases h0 : ps.length = 0
    · have e0 : ps = [] := List.eq_nil_of_length_eq_zero h0
      have e1 : qs = [] := List.eq_nil_of_length_eq_zero (by rw [← HL.out]; exact h0)
      subst e0 e1
      clear h0
      go_enter Tryz.func28, Tryz.ntmps28
      go_wp2_with fail
      refine wp_loop_rounds 1 ?_
      rw [rounds_succ]
      go_wp2_with fail
      go_ret
      exact ⟨ret_bool (by simp), Ext.refl _⟩
    · obtain ⟨g, o, rfl, hp⟩ := hA (by rintro rfl; exact h0 rfl)
      obtain ⟨g', o', rfl, hp'⟩ := hB (by rintro rfl; exact h0 HL.out)
      clear hA hB h0
      go_enter Tryz.func28, Tryz.ntmps28
      go_wp2_with fail
      go_loopw [5] (fun i wr => ∃ k : Nat, k ≤ ps.length ∧ i = .int .i64 k ∧ ps.take k = qs.take k ∧ Ext w wr) (fun i _ => ps.length - (intOf i).toNat)
      case atStart => exact ⟨0, Nat.zero_le _, rfl, rfl, Ext.refl _⟩
      case round =>
        obtain ⟨k, hk, rfl, ht, he⟩ := hrel
        have HT := zH ht
        clear ht
        by_cases hlt : k < ps.length
        · have hlt' : k < qs.length := by rw [← HL.out]; exact hlt
          obtain ⟨c0, c1⟩ := hp.ext he k hlt
          obtain ⟨d0, d1⟩ := hp'.ext he k hlt'
          have HE1 := zH (fun heq => take_eq_succ ps qs k hlt hlt' HT.out heq)
          have HE2 := zH (show ps.getD k (0, 0) ≠ qs.getD k (0, 0) → decide (ps = qs) = false by intro hne; simp; intro e; exact hne (by rw [e]))
          generalize ps.getD k (0, 0) = x at c0 c1 HE1 HE2
          generalize qs.getD k (0, 0) = y at d0 d1 HE1 HE2
          by_cases heq : x = y
          · subst heq
            go_wp2_with fail
            go_quiet (fail)
            go_wp2_with fail
            go_roundw
            case rel => exact ⟨k + 1, hlt, by go_num, HE1.out (by simp), he.drewN _⟩
            case measure => simp [intOf]; omega
          · by_cases hx1 : x.1 = y.1
            · have b1 : (x.1 == y.1) = true := by simpa using hx1
              have b2 : (x.2 == y.2) = false := by
                rw [← Bool.not_eq_true]; intro hh; exact heq (Prod.ext hx1 (by simpa using hh))
              have HE := zH (HE2.out heq)
              clear heq hx1
              go_wp2_with fail
              go_quiet (fail)
              go_wp2_with fail
              go_ret
              exact ⟨ret_bool HE.out.symm, he.drewN _⟩
            · have b1 : (x.1 == y.1) = false := by simpa using hx1
              have HE := zH (HE2.out heq)
              clear heq hx1
              go_wp2_with fail
              go_quiet (fail)
              go_wp2_with fail
              go_ret
              exact ⟨ret_bool HE.out.symm, he.drewN _⟩
        · have HE := zH (show decide (ps = qs) = true by
            have := HT.out
            rw [List.take_of_length_le (by omega), List.take_of_length_le (by rw [← HL.out]; omega)] at this
            simpa using this)
          go_wp2_with fail
          go_ret
          exact ⟨ret_bool HE.out.symm, he⟩
  · have hne : ((ps.length : Int) != (qs.length : Int)) = true := by simp; omega
    have hne2 : ((ps.length : Int) == (qs.length : Int)) = false := by simp; omega
    have HD := zH (show decide (ps = qs) = false by simp; intro e; exact hl (by rw [e]))
    clear hl
    go_enter Tryz.func28, Tryz.ntmps28
    go_wp2_with fail
    go_ret
    exact ⟨ret_bool HD.out.symm, Ext.refl _⟩
end Go.Proofs.YtllpkoinjompcaaGreat

namespace Go.Proofs.YtllpkoinjompcaaGreat
open Go.RowKit
attribute [local go_sem ↓] Go.wp_at_zero Go.wp_at_succ run_eql_point run_neq_point run_max_ii run_min_ii


theorem ex_seg : quadSegV (0, 0) (512, 0) (512, 512) 256 = (1, 0) := by decide +kernel
theorem ex_pts : quadPts (0, 0) (512, 0) (512, 512) 256 = [(512, 512)] := by decide +kernel
theorem ex_at : quadAtV (0, 0) (512, 0) (512, 512) 1 2 = (384, 128) := by decide +kernel

theorem pts1 {w : World} {g : Nat} {a : Int × Int} (h0 : w.cell? ⟨g, 0, none⟩ = some (.int .i64 a.1)) (h1 : w.cell? ⟨g, 1, none⟩ = some (.int .i64 a.2)) : PtsAt w g 0 [a] := by
  intro i hi
  match i, hi with
  | 0, _ => exact ⟨h0, h1⟩
theorem ptsV1 {w : World} {g : Nat} {a : Int × Int} (h0 : w.cell? ⟨g, 0, none⟩ = some (.int .i64 a.1)) (h1 : w.cell? ⟨g, 1, none⟩ = some (.int .i64 a.2)) : PtsV w (.slice (some ⟨g, 0, none⟩) 1 1) [a] :=
  ⟨_, _, rfl, fun _ => ⟨_, _, rfl, pts1 h0 h1⟩⟩

theorem example_any (w : World) : Calls Tryz.prog 7 #[] w fun e w' => e = .returned (.bool true) ∧ Ext w w' := by
  have S1 := fun w => quadSeg_any (0, 0) (512, 0) (512, 512) 256 w
  have S2 := fun w => quad_any (0, 0) (512, 0) (512, 512) 256 w
  have S3 := fun w => quadAt_any (0, 0) (512, 0) (512, 512) 1 2 w
  rw [ex_seg] at S1
  rw [ex_seg, ex_pts] at S2
  rw [ex_at] at S3
  have H1 := zH S1
  have H2 := zH S2
  have H3 := zH S3
  clear S1 S2 S3
  have HG := zH (show ∀ x, Ext (w.alloc (.cells #[.int .i64 0, .int .i64 0, .int .i64 512, .int .i64 0, .int .i64 512, .int .i64 512] 50)) x → x.cell? ⟨w.heap.size, 0, none⟩ = some (.int .i64 0) ∧ x.cell? ⟨w.heap.size, 1, none⟩ = some (.int .i64 0) ∧ x.cell? ⟨w.heap.size, 2, none⟩ = some (.int .i64 512) ∧
      x.cell? ⟨w.heap.size, 3, none⟩ = some (.int .i64 0) ∧ x.cell? ⟨w.heap.size, 4, none⟩ = some (.int .i64 512) ∧ x.cell? ⟨w.heap.size, 5, none⟩ = some (.int .i64 512) from fun x h =>
    ⟨h.get (by simp), h.get (by simp), h.get (by simp), h.get (by simp), h.get (by simp), h.get (by simp)⟩)
  go_enter Tryz.func7, Tryz.ntmps7
  go_wp2_with fail
  refine (H1.out _).mono ?_
  rintro e w1 ⟨rfl, hb1⟩
  have g1 := HG.out w1 hb1
  go_wp2_with fail
  refine (H2.out _).mono ?_
  rintro e w2 ⟨v, rfl, ho, hb2⟩
  have g2 := HG.out w2 (hb1.trans hb2)
  have hr := zH ho.read
  clear ho g1
  go_wp2_with fail
  refine (samePts_any v _ [(512, 512)] [(512, 512)] _ (hr.out.ext ((Ext.refl _).alloc _)) (ptsV1 (by simp) (by simp)) (by simp) (by simp)).mono ?_
  rintro e w3 ⟨rfl, hb3⟩
  have g3 := HG.out w3 ((hb1.trans hb2).trans (((Ext.refl _).alloc _).trans hb3))
  clear g2
  go_wp2_with fail
  refine (H3.out _).mono ?_
  rintro e w4 ⟨rfl, hb4⟩
  go_wp2_with fail
  go_ret
  exact ⟨rfl, ((Ext.refl _).alloc _).trans (((hb1.trans hb2).trans (((Ext.refl _).alloc _).trans hb3)).trans hb4)⟩
end Go.Proofs.YtllpkoinjompcaaGreat

namespace Go.Proofs.YtllpkoinjompcaaGreat
open Go.ChangeShapes Go.WideShapes Go.ChangeAt Go.RowKit

theorem own : ownKnob Tryz.prog.godebug = none := by kernel_rfl
theorem laidOut : laidOutB Tryz.prog = true := by kernel_rfl
theorem okWide_array {P : Program} {w : World} {r : Reach} {base : Nat} {t e : TypeId} {n : Nat} {v : Value} (ht : P.underlying t = some (.array n e)) (h : Value.okWide P w r base t v) : ∃ cs, v = .agg cs ∧ cs.size = P.cellsOf t := by
  simp only [Value.okWide, ht] at h
  obtain ⟨cs, h1, h2, _⟩ := h
  exact ⟨cs, h1, h2⟩

section
variable {H : Type} {enc : TypeId × Value → H} {w : World} {base : Nat} {spare : Nat → Bool} {held : Bool}

end
end Go.Proofs.YtllpkoinjompcaaGreat

namespace Go.Proofs.YtllpkoinjompcaaGreat
open Go.ChangeShapes Go.WideShapes Go.ChangeAt Go.RowKit

theorem cells_u32 : Tryz.prog.cellsOf 101 = 1 := by kernel_rfl
theorem cells_rint : Tryz.prog.cellsOf 24 = 2 := by kernel_rfl
theorem cells_rat : Tryz.prog.cellsOf 26 = 4 := by kernel_rfl
theorem cells_bool : Tryz.prog.cellsOf 4 = 1 := by kernel_rfl
theorem cells_mag : Tryz.prog.cellsOf 22 = 1 := by kernel_rfl

def RV.Raw (w : World) (a : RV) : Prop := ∃ xs ys, DigS w (.slice a.p a.l a.c) xs ∧ DigS w (.slice a.p2 a.l2 a.c2) ys
theorem RV.Raw.val {w : World} {a : RV} (h : a.Raw w) : ∃ q : Rat, ∀ L, a.l ≤ L → a.l2 ≤ L → a.In L w q := by
  obtain ⟨xs, ys, h1, h2⟩ := h
  have e1 : a.l = xs.length := by obtain ⟨p, c, e, _⟩ := h1; injection e
  have e2 : a.l2 = ys.length := by obtain ⟨p, c, e, _⟩ := h2; injection e
  refine ⟨Rat.divInt (sg a.n (Nm.val xs)) (sg a.m (Nm.val ys)), fun L k1 k2 => ?_⟩
  exact ⟨_, _, ⟨_, ⟨xs, h1, rfl, by omega⟩, rfl⟩, ⟨_, ⟨ys, h2, rfl, by omega⟩, rfl⟩, rfl⟩

section
variable {H : Type} {enc : TypeId × Value → H} {w : World} {base : Nat} {held : Bool}

theorem mag_open {fuel : Nat} {cs : List Value} {x : DataW H × List MemPlace} (h : DataW.trod enc Tryz.prog w base (fun _ => true) held fuel 22 cs = some x) :
    ∃ p l c xs, cs = [.slice p l c] ∧ DigS w (.slice p l c) xs := by
  rcases open_ints Tryz.underlying22 Tryz.underlying101 cells_u32 h with ⟨rfl, _⟩ | ⟨a, len, cap, zs, rfl, _, hl, hm, hz, _, hc, hw⟩
  · exact ⟨none, 0, 0, [], rfl, none, 0, rfl, Nat.le_refl _, (by intro x hx; simp at hx), fun h0 => absurd h0 (by simp)⟩
  · simp only [if_true] at hz
    refine ⟨some a, len, cap, (zs.take len).map Int.toNat, rfl, some a, cap, by simp [hz]; omega, by simp [hz]; omega, ?_, fun h0 => ?_⟩
    · intro d hd
      obtain ⟨z, hz1, rfl⟩ := List.mem_map.1 hd
      have := bounds_u32 (hw z (List.mem_of_mem_take hz1))
      show z.toNat < 4294967296
      omega
    · have hlen : ((zs.take len).map Int.toNat).length = len := by simp [hz]; omega
      rw [hlen] at h0 ⊢
      have hs : a.spot = none := by
        have h1 := hc 0 (by omega)
        unfold World.cell? at h1
        cases hsp : a.spot with
        | none => rfl
        | some s =>
          exfalso
          have e : (a.add 0).spot = some s := by simp [Addr.add, hsp]
          rw [e] at h1
          revert h1
          split <;> simp
      obtain ⟨b, o, sp⟩ := a
      obtain rfl : sp = none := hs
      refine ⟨b, o, rfl, fun i hi => ?_⟩
      have h1 := hc i (by omega)
      have e : (⟨b, o, none⟩ : Addr).add i = ⟨b, o + i, none⟩ := by unfold Addr.add; split <;> simp_all
      rw [e] at h1
      rw [h1]
      have hi2 : i < zs.length := by omega
      have h2 := bounds_u32 (hw (zs.getD i 0) (by rw [List.getD_eq_getElem?_getD, List.getElem?_eq_getElem hi2]; exact List.getElem_mem hi2))
      have h3 : (List.map Int.toNat (List.take len zs)).getD i 0 = (zs.getD i 0).toNat := by
        simp [List.getD, hi, List.getElem?_eq_getElem hi2]
      rw [h3]
      congr 2
      omega

theorem rint_open {fuel : Nat} {cs : List Value} {x : DataW H × List MemPlace} (h : DataW.trod enc Tryz.prog w base (fun _ => true) held fuel 24 cs = some x) :
    ∃ n p l c xs, cs = [.bool n, .slice p l c] ∧ DigS w (.slice p l c) xs := by
  obtain ⟨y0, y1, n, _, hl, h0, h1⟩ := trod_struct2 Tryz.underlying24 h
  rw [cells_rint] at hl
  rw [cells_bool] at h0
  obtain ⟨b, e0, _⟩ := DataW.trod_bool Tryz.underlying4 h0
  rw [cells_mag] at h1
  obtain ⟨p, l, c, xs, e1, hd⟩ := mag_open h1
  match cs, hl with
  | [u, v], _ =>
    simp at e0 e1
    exact ⟨b, p, l, c, xs, by rw [e0, e1], hd⟩

theorem rat_open {fuel : Nat} {cs : List Value} {x : DataW H × List MemPlace} (h : DataW.trod enc Tryz.prog w base (fun _ => true) held fuel 26 cs = some x) :
    ∃ a : RV, cs = [.bool a.n, .slice a.p a.l a.c, .bool a.m, .slice a.p2 a.l2 a.c2] ∧ a.Raw w := by
  obtain ⟨y0, y1, n, _, hl, h0, h1⟩ := trod_struct2 Tryz.underlying26 h
  rw [cells_rat] at hl
  rw [cells_rint] at h0 h1
  obtain ⟨n, p, l, c, xs, e0, d0⟩ := rint_open h0
  obtain ⟨m, p2, l2, c2, ys, e1, d1⟩ := rint_open h1
  match cs, hl with
  | [u, v, u', v'], _ =>
    simp at e0 e1
    exact ⟨⟨n, p, l, c, m, p2, l2, c2⟩, by simp [e0, e1], xs, ys, d0, d1⟩
end
end Go.Proofs.YtllpkoinjompcaaGreat

namespace Go.Proofs.YtllpkoinjompcaaGreat
open Go.ChangeShapes Go.WideShapes Go.ChangeAt Go.RowKit

theorem cells_rp2 : Tryz.prog.cellsOf 27 = 8 := by kernel_rfl
theorem cells_rp4 : Tryz.prog.cellsOf 28 = 32 := by kernel_rfl
section
variable {H : Type} {enc : TypeId × Value → H} {w : World} {base : Nat} {held : Bool}
theorem rp2_open {fuel : Nat} {cs : List Value} {x : DataW H × List MemPlace} (h : DataW.trod enc Tryz.prog w base (fun _ => true) held fuel 27 cs = some x) :
    ∃ a b : RV, cs = [.bool a.n, .slice a.p a.l a.c, .bool a.m, .slice a.p2 a.l2 a.c2] ++ [.bool b.n, .slice b.p b.l b.c, .bool b.m, .slice b.p2 b.l2 b.c2] ∧ a.Raw w ∧ b.Raw w := by
  obtain ⟨xs, m, _, _, hl, hx, hi⟩ := DataW.trod_array Tryz.underlying27 h
  rw [cells_rp2] at hl
  rw [cells_rat] at hi
  match xs, hx with
  | [x0, x1], _ =>
    obtain ⟨a, ea, ra⟩ := rat_open (show DataW.trod enc Tryz.prog w base (fun _ => true) held m 26 _ = some x0 from hi 0 (by omega))
    obtain ⟨b, eb, rb⟩ := rat_open (show DataW.trod enc Tryz.prog w base (fun _ => true) held m 26 _ = some x1 from hi 1 (by omega))
    refine ⟨a, b, ?_, ra, rb⟩
    rw [← ea, ← eb]
    simp only [Nat.zero_mul, List.drop_zero, Nat.one_mul]
    rw [List.take_of_length_le (l := cs.drop 4) (by simp [hl]), List.take_append_drop]
theorem rp4_open {fuel : Nat} {cs : List Value} {x : DataW H × List MemPlace} (h : DataW.trod enc Tryz.prog w base (fun _ => true) held fuel 28 cs = some x) :
    ∃ a0 a1 b0 b1 c0 c1 d0 d1 : RV, cs = [.bool a0.n, .slice a0.p a0.l a0.c, .bool a0.m, .slice a0.p2 a0.l2 a0.c2, .bool a1.n, .slice a1.p a1.l a1.c, .bool a1.m, .slice a1.p2 a1.l2 a1.c2, .bool b0.n, .slice b0.p b0.l b0.c, .bool b0.m, .slice b0.p2 b0.l2 b0.c2, .bool b1.n, .slice b1.p b1.l b1.c, .bool b1.m, .slice b1.p2 b1.l2 b1.c2, .bool c0.n, .slice c0.p c0.l c0.c, .bool c0.m, .slice c0.p2 c0.l2 c0.c2, .bool c1.n, .slice c1.p c1.l c1.c, .bool c1.m, .slice c1.p2 c1.l2 c1.c2, .bool d0.n, .slice d0.p d0.l d0.c, .bool d0.m, .slice d0.p2 d0.l2 d0.c2, .bool d1.n, .slice d1.p d1.l d1.c, .bool d1.m, .slice d1.p2 d1.l2 d1.c2] ∧ (a0.Raw w ∧ a1.Raw w) ∧ (b0.Raw w ∧ b1.Raw w) ∧ (c0.Raw w ∧ c1.Raw w) ∧ (d0.Raw w ∧ d1.Raw w) := by
  obtain ⟨xs, m, _, _, hl, hx, hi⟩ := DataW.trod_array Tryz.underlying28 h
  rw [cells_rp4] at hl
  rw [cells_rp2] at hi
  match xs, hx with
  | [x0, x1, x2, x3], _ =>
    obtain ⟨a0, a1, ea, ra⟩ := rp2_open (show DataW.trod enc Tryz.prog w base (fun _ => true) held m 27 _ = some x0 from hi 0 (by omega))
    obtain ⟨b0, b1, eb, rb⟩ := rp2_open (show DataW.trod enc Tryz.prog w base (fun _ => true) held m 27 _ = some x1 from hi 1 (by omega))
    obtain ⟨c0, c1, ec, rc⟩ := rp2_open (show DataW.trod enc Tryz.prog w base (fun _ => true) held m 27 _ = some x2 from hi 2 (by omega))
    obtain ⟨d0, d1, ed, rd⟩ := rp2_open (show DataW.trod enc Tryz.prog w base (fun _ => true) held m 27 _ = some x3 from hi 3 (by omega))
    refine ⟨a0, a1, b0, b1, c0, c1, d0, d1, ?_, ra, rb, rc, rd⟩
    have e : cs = (cs.drop 0).take 8 ++ ((cs.drop 8).take 8 ++ ((cs.drop 16).take 8 ++ (cs.drop 24).take 8)) := by
      rw [List.take_of_length_le (l := cs.drop 24) (by simp [hl]), show cs.drop 24 = (cs.drop 16).drop 8 by simp, List.take_append_drop, show cs.drop 16 = (cs.drop 8).drop 8 by simp, List.take_append_drop, List.drop_zero, List.take_append_drop]
    rw [e]
    simp only [Nat.zero_mul, Nat.one_mul] at ea eb
    rw [ea, eb, show (cs.drop 16).take 8 = _ from ec, show (cs.drop 24).take 8 = _ from ed]
    rfl
end
end Go.Proofs.YtllpkoinjompcaaGreat
