/- Contracts that the claim stands on: XBase to XRatD. -/
import Derived.Test.YtjkddchkjkocbaaProg
import Derived.WalkKit
import Derived.WalkSpells
import Derived.WalkLawsBesides
import Derived.Lib.Hide
import Derived.Deep.QuietTactic
import Derived.BigQuiet
import Derived.Deep.RegionHeld3
import Derived.Deep.DrawnRows
import Derived.Deep.Draws
import Derived.RangeFuncNested
import Derived.RangeFuncBound
import Derived.RangeFuncCalls
import Derived.RangeFuncLeaves
import Derived.Shelf.Abstract
import Derived.Shelf.RegionOpen
import Derived.OwnWalkIn
import Derived.TacticsInMore
import Derived.LoopNIn
import Derived.LoopIn
import Derived.Maps.AppendAt
import Derived.Deep.AppendLies
import Derived.Deep.LoopGhost
import Derived.Deep.DeepCutAuto
import Derived.Outline
import Derived.IntWalk
import Derived.Deep.OwnRows
import Derived.WalkMore
import Derived.Laws.BitsAllLaws
import Derived.Lib.BitFns
import Derived.Lib.ItoaNum
import Derived.Shelf.Small.Bits
import Derived.ArgAppend
namespace Go.Proofs.Ytjkddchkjkocbaa
open Go.RowKit

theorem zH {p : Prop} (h : p) : Hid p := Lib.hid h
theorem zA {α : Type} (l : List α) (i : Nat) (a : α) : l.toArray.setIfInBounds i a = (l.set i a).toArray := List.setIfInBounds_toArray l i a
theorem zB {α : Type} {x : α} {xs : List α} {a : α} : (x :: xs).set 0 a = a :: xs := List.set_cons_zero
theorem zC {α : Type} {x : α} {xs : List α} {i : Nat} {a : α} : (x :: xs).set (i + 1) a = x :: xs.set i a := List.set_cons_succ
def Ext (w w' : World) : Prop := Below w.heap.size w w'

theorem Ext.below {w w' : World} (h : Ext w w') : Below w.heap.size w w' := h
theorem Ext.refl (w : World) : Ext w w := Below.refl _ _
theorem Ext.trans {a b c : World} (h : Ext a b) (k : Ext b c) : Ext a c := Below.trans h (Below.mono k h.size)
theorem Ext.via {a b c : World} (k : Ext b c) (h : Ext a b) : Ext a c := h.trans k
theorem Ext.drew {a w : World} (h : Ext a w) : Ext a w.drew := Below.drew h
theorem Ext.drewN {a w : World} (h : Ext a w) (n : Nat) : Ext a (w.drewN n) := ⟨h.os, h.tape, h.output, h.size, h.block⟩
theorem Ext.alloc {a w : World} (h : Ext a w) (o : Obj) : Ext a (w.alloc o) := Below.alloc h h.size o
theorem Ext.setCell {a w : World} (h : Ext a w) {p : Addr} (hp : a.heap.size ≤ p.block) (u : Value) : Ext a (w.setCell p u) := Below.setCell h hp u
theorem Ext.grown {a w w' : World} {row : Option Nat} (h : Ext a w) (hg : w.grownBy w' row) (hr : ∀ k, row = some k → a.heap.size ≤ k) : Ext a w' := Below.grown h hg h.size hr
theorem Ext.size {a w : World} (h : Ext a w) : a.heap.size ≤ w.heap.size := Below.size h
theorem Ext.cell {a w : World} (h : Ext a w) {p : Addr} (hp : p.block < a.heap.size) : w.cell? p = a.cell? p := Below.cell h hp
theorem Ext.frozen {a w : World} (h : Ext a w) {p : Addr} (hp : p.block < a.heap.size) : w.frozen? p = a.frozen? p := Below.frozen h hp
theorem Ext.get {a w : World} (h : Ext a w) {p : Addr} {v : Value} (hc : a.cell? p = some v) : w.cell? p = some v :=
  (h.cell (World.block_lt_of_cell? a p hc)).trans hc
theorem ret_int {k : IntKind} {a b : Int} (h : a = b) : Ending.returned (.int k a) = .returned (.int k b) := by rw [h]
theorem ret_bool {a b : Bool} (h : a = b) : Ending.returned (.bool a) = .returned (.bool b) := by rw [h]


def Own (g : Nat) (w w' : World) : Prop := w.grownBy w' (some g)

theorem Own.refl (g : Nat) (w : World) : Own g w w := World.grownBy.refl w _
theorem Own.drew {g : Nat} {a w : World} (h : Own g a w) : Own g a w.drew := ⟨h.os, h.tape, h.output, h.size, h.block⟩
theorem Own.drewN {g : Nat} {a w : World} (h : Own g a w) (n : Nat) : Own g a (w.drewN n) := ⟨h.os, h.tape, h.output, h.size, h.block⟩
theorem Own.size {g : Nat} {a w : World} (h : Own g a w) : a.heap.size ≤ w.heap.size := World.grownBy.size h
theorem Own.alloc {g : Nat} {a w : World} (h : Own g a w) (o : Obj) : Own g a (w.alloc o) :=
  ⟨h.os, h.tape, h.output, Nat.le_trans h.size (by simp), fun i hi hne => (Below.heap_alloc w o i (Nat.lt_of_lt_of_le hi h.size)).trans (h.block i hi hne)⟩
theorem Own.set {g : Nat} {a w : World} (h : Own g a w) {p : Addr} (hp : p.block = g ∨ a.heap.size ≤ p.block) (u : Value) : Own g a (w.setCell p u) :=
  ⟨h.os, h.tape, h.output, by simpa [World.setCell] using h.size, fun i hi hne => (Below.heap_setCell w p u i (by
    rintro rfl
    rcases hp with hp | hp
    · exact hne (by rw [hp])
    · omega)).trans (h.block i hi hne)⟩
theorem Own.set_at {g : Nat} {a w : World} (h : Own g a w) (o : Nat) (s : Option Nat) (u : Value) : Own g a (w.setCell ⟨g, o, s⟩ u) := h.set (.inl rfl) u
theorem Own.then_ext {g : Nat} {a b c : World} (h : Own g a b) (k : Ext b c) : Own g a c :=
  ⟨k.os.trans h.os, k.tape.trans h.tape, k.output.trans h.output, Nat.le_trans h.size k.size, fun i hi hn => (k.block i (Nat.lt_of_lt_of_le hi h.size)).trans (h.block i hi hn)⟩
theorem Own.via {g : Nat} {a b c : World} (k : Ext b c) (h : Own g a b) : Own g a c := h.then_ext k
theorem Own.of_ext {g : Nat} {a b : World} (h : Ext a b) : Own g a b := (Own.refl g a).then_ext h
theorem Own.cell {g : Nat} {a w : World} (h : Own g a w) {p : Addr} (hp : p.block < a.heap.size) (hne : p.block ≠ g) : w.cell? p = a.cell? p :=
  World.cell?_of_block (h.block p.block hp (fun e => hne (by injection e)))
theorem Own.get {g : Nat} {a w : World} (h : Own g a w) {p : Addr} {v : Value} (hc : a.cell? p = some v) (hne : p.block ≠ g) : w.cell? p = some v :=
  (h.cell (World.block_lt_of_cell? a p hc) hne).trans hc
theorem Own.ext {g : Nat} {w a b : World} (h : Own g a b) (e : Ext w a) (hg : w.heap.size ≤ g) : Ext w b :=
  ⟨h.os.trans e.os, h.tape.trans e.tape, h.output.trans e.output, Nat.le_trans e.size h.size, fun k hk => (h.block k (Nat.lt_of_lt_of_le hk e.size) (fun x => by injection x; omega)).trans (e.block k hk)⟩
theorem cell_last (w : World) (b : Nat) (cs : Array Value) (t : TypeId) (i : Nat) (h : b = w.heap.size) : (w.alloc (.cells cs t)).cell? ⟨b, i, none⟩ = cs[i]? := World.cell?_alloc_at _ _ _ _ h

def Blk (w : World) (g : Nat) (t : TypeId) (cs : Array Value) : Prop := w.heap[g]? = some (.cells cs t (0, 0))
section
variable {w w' : World} {g : Nat} {t : TypeId} {cs : Array Value}
theorem Blk.lt (h : Blk w g t cs) : g < w.heap.size := by
  rcases Nat.lt_or_ge g w.heap.size with hlt | hge
  · exact hlt
  · unfold Blk at h; rw [Array.getElem?_eq_none hge] at h; cases h
theorem Blk.cell (h : Blk w g t cs) (i : Nat) : w.cell? ⟨g, i, none⟩ = cs[i]? := cell_of_row w g i cs t (0, 0) h
theorem Blk.frozen (h : Blk w g t cs) (i : Nat) : w.frozen? ⟨g, i, none⟩ = false := by
  unfold Blk at h
  simp [World.frozen?, h]
theorem Blk.new (w : World) (t : TypeId) (cs : Array Value) : Blk (w.alloc (.cells cs t)) w.heap.size t cs := heap_alloc_new w _
theorem Blk.drew (h : Blk w g t cs) : Blk w.drew g t cs := h
theorem Blk.drewN (h : Blk w g t cs) (n : Nat) : Blk (w.drewN n) g t cs := h
theorem Blk.alloc (h : Blk w g t cs) (o : Obj) : Blk (w.alloc o) g t cs := (Below.heap_alloc w o g h.lt).trans h
theorem Blk.set_ (h : Blk w g t cs) (i : Nat) (u : Value) : Blk (w.setCell ⟨g, i, none⟩ u) g t (cs.setIfInBounds i u) := by
  unfold Blk at h ⊢
  simp [World.setCell, Array.getElem?_modify, h]
theorem Blk.far (h : Blk w g t cs) {p : Addr} (hp : g ≠ p.block) (u : Value) : Blk (w.setCell p u) g t cs := (Below.heap_setCell w p u g hp).trans h
theorem Blk.ext (h : Blk w g t cs) (hb : Ext w w') : Blk w' g t cs := (Below.block hb g h.lt).trans h
end

theorem run_eql_point (a b c d : Int) (w : World) :
    (binOp .eql 33 (.agg #[.int .i64 a, .int .i64 b]) (.agg #[.int .i64 c, .int .i64 d])).run Try.prog w = .ok (.bool (a == c && b == d)) w := by
  by_cases h : a = c <;> by_cases h2 : b = d <;> simp [go_sem, h, h2]
theorem run_neq_point (a b c d : Int) (w : World) :
    (binOp .neq 33 (.agg #[.int .i64 a, .int .i64 b]) (.agg #[.int .i64 c, .int .i64 d])).run Try.prog w = .ok (.bool (!(a == c && b == d))) w := by
  by_cases h : a = c <;> by_cases h2 : b = d <;> simp [go_sem, h, h2]

theorem run_max_ii (ts : Array TypeId) (t : TypeId) (k k' : IntKind) (x y : Int) (w : World) : (Builtin.max_ ts t #[.int k x, .int k' y]).run Try.prog w = .ok (.int k (max x y)) w := by
  rw [run_max_int2]
  congr 2
  by_cases h : x < y
  · rw [if_pos h]; omega
  · rw [if_neg h]; omega
theorem run_min_ii (ts : Array TypeId) (t : TypeId) (k k' : IntKind) (x y : Int) (w : World) : (Builtin.min_ ts t #[.int k x, .int k' y]).run Try.prog w = .ok (.int k (min x y)) w := by
  simp only [Builtin.min_, Builtin.min2, List.foldlM_cons, List.foldlM_nil]
  simp
  by_cases h : y < x
  · rw [if_pos h]; omega
  · rw [if_neg h]; omega

end Go.Proofs.Ytjkddchkjkocbaa

namespace Go.Proofs.Ytjkddchkjkocbaa
open Go.RowKit
attribute [local go_sem ↓] Go.wp_at_zero Go.wp_at_succ run_eql_point run_neq_point

def clampI (n lo hi : Int) : Int := if n < lo then lo else if hi < n then hi else n

theorem clamp_any (n lo hi : Int) (w : World) :
    Calls Try.prog 56 #[.int .i64 n, .int .i64 lo, .int .i64 hi] w fun e w' => e = .returned (.int .i64 (clampI n lo hi)) ∧ w = w' := by
  go_enter Try.func56, Try.ntmps56
  go_wp2_with fail
  all_goals go_ret
  all_goals refine ⟨ret_int ?_, rfl⟩
  all_goals unfold clampI
  · rw [if_pos ‹_›]
  · rw [if_neg (by omega), if_pos ‹_›]
  · rw [if_neg (by omega), if_neg (by omega)]

theorem held_any (n : Int) (w : World) :
    Calls Try.prog 51 #[.int .i64 n] w fun e w' => e = .returned (.int .i64 (clampI n (-1048576) 1048576)) ∧ w = w' := by
  go_enter Try.func51, Try.ntmps51
  go_wp2_with (go_at_call 56; refine (clamp_any _ _ _ _).mono ?_; rintro e w' ⟨rfl, rfl⟩)
  go_ret
  exact ⟨rfl, rfl⟩

theorem hold_any (x y : Int) (w : World) :
    Calls Try.prog 41 #[.agg #[.int .i64 x, .int .i64 y]] w fun e w' => e = .returned (.agg #[.int .i64 (clampI x (-1048576) 1048576), .int .i64 (clampI y (-1048576) 1048576)]) ∧ Ext w w' := by
  go_enter Try.func41, Try.ntmps41
  go_wp2_with fail
  go_region_held3 (fun w' => w'.cell? ⟨w.heap.size, 0, none⟩ = some (.int .i64 x) ∧ w'.cell? ⟨w.heap.size, 1, none⟩ = some (.int .i64 y)) (go_keep)
    (first | (go_at_call 51; refine (held_any _ _).mono ?_; rintro e w' ⟨rfl, rfl⟩))
  go_wp2_with fail
  refine bodyPost_ret (v := .agg #[.int .i64 (clampI x (-1048576) 1048576), .int .i64 (clampI y (-1048576) 1048576)]) (by simp [results, Try.results41, go_sem]) rfl ⟨rfl, ?_⟩
  exact ((((Ext.refl _).alloc _).alloc _).drew)

theorem eq_clamp (x : Int) : (clampI x (-1048576) 1048576 == x) = decide (-1048576 ≤ x ∧ x ≤ 1048576) := by
  rw [Bool.eq_iff_iff]
  unfold clampI
  simp only [beq_iff_eq, decide_eq_true_eq]
  split
  · omega
  · split <;> omega

def okPt (x y : Int) : Bool := decide (-1048576 ≤ x ∧ x ≤ 1048576) && decide (-1048576 ≤ y ∧ y ≤ 1048576)

theorem valid_any (x y : Int) (w : World) :
    Calls Try.prog 31 #[.agg #[.int .i64 x, .int .i64 y]] w fun e w' => e = .returned (.bool (okPt x y)) ∧ Ext w w' := by
  have h0 : ∀ w', Ext (w.alloc (.cells #[.int .i64 x, .int .i64 y] 33)) w' → w'.cell? ⟨w.heap.size, 0, none⟩ = some (.int .i64 x) := fun w' h => h.get (by simp)
  have h1 : ∀ w', Ext (w.alloc (.cells #[.int .i64 x, .int .i64 y] 33)) w' → w'.cell? ⟨w.heap.size, 1, none⟩ = some (.int .i64 y) := fun w' h => h.get (by simp)
  go_enter Try.func31, Try.ntmps31
  go_wp2_with fail
  go_region_held3 (fun w' => Ext (w.alloc (.cells #[.int .i64 x, .int .i64 y] 33)) w') (first | assumption | exact Ext.drew (Ext.refl _) | (apply Ext.via; assumption; assumption))
    (first | (go_at_call 41; refine (hold_any _ _ _).mono ?_; rintro e w' ⟨rfl, hb⟩))
  go_wp2_with fail
  go_ret
  refine ⟨?_, ((Ext.refl _).alloc _).trans ‹_›⟩
  rw [eq_clamp, eq_clamp]; rfl

theorem rvalid_any (x y : Int) (w : World) :
    Calls Try.prog 46 #[.agg #[.int .i64 x, .int .i64 y]] w fun e w' => e = .returned (.bool (okPt x y)) ∧ Ext w w' := by
  have hp : ∀ b, okPt x y = b → (fun (e : Ending) (w' : World) => e = .returned (.bool b) ∧ Ext w w') = (fun (e : Ending) (w' : World) => e = .returned (.bool (okPt x y)) ∧ Ext w w') := fun b h => by rw [h]
  by_cases hx : -1048576 ≤ x
  · by_cases hx2 : x ≤ 1048576
    · by_cases hy : -1048576 ≤ y
      · rw [← hp (decide (y ≤ 1048576)) (by simp [okPt, hx, hx2, hy])]
        clear hp
        go_enter Try.func46, Try.ntmps46
        go_wp2_with fail
        go_ret
        exact ⟨rfl, (Ext.refl _).alloc _⟩
      · rw [← hp false (by simp [okPt, hy])]
        clear hp
        go_enter Try.func46, Try.ntmps46
        go_wp2_with fail
        go_ret
        exact ⟨rfl, (Ext.refl _).alloc _⟩
    · rw [← hp false (by simp [okPt, hx2])]
      clear hp
      go_enter Try.func46, Try.ntmps46
      go_wp2_with fail
      go_ret
      exact ⟨rfl, (Ext.refl _).alloc _⟩
  · rw [← hp false (by simp [okPt, hx])]
    clear hp
    go_enter Try.func46, Try.ntmps46
    go_wp2_with fail
    go_ret
    exact ⟨rfl, (Ext.refl _).alloc _⟩

end Go.Proofs.Ytjkddchkjkocbaa

namespace Go.Proofs.Ytjkddchkjkocbaa
open Go.RowKit
attribute [local go_sem ↓] Go.wp_at_zero Go.wp_at_succ run_eql_point run_neq_point

def PtsAt (w : World) (b off : Nat) (ps : List (Int × Int)) : Prop :=
  ∀ i, i < ps.length → w.cell? ⟨b, off + i * 2, none⟩ = some (.int .i64 (ps.getD i (0, 0)).1) ∧ w.cell? ⟨b, off + i * 2 + 1, none⟩ = some (.int .i64 (ps.getD i (0, 0)).2)

theorem PtsAt.ext {w w' : World} {b off : Nat} {ps : List (Int × Int)} (h : PtsAt w b off ps) (e : Ext w w') : PtsAt w' b off ps :=
  fun i hi => ⟨e.get (h i hi).1, e.get (h i hi).2⟩

def okAll (ps : List (Int × Int)) : Bool := ps.all fun p => okPt p.1 p.2

theorem okAll_take_succ (ps : List (Int × Int)) (k : Nat) (hk : k < ps.length) :
    okAll (ps.take (k + 1)) = (okAll (ps.take k) && okPt (ps.getD k (0, 0)).1 (ps.getD k (0, 0)).2) := by
  unfold okAll
  rw [List.take_succ_eq_append_getElem hk, List.all_append]
  simp [List.getD, hk]

def least (need tol : Int) : Nat → Nat → Option Nat
  | _, 0 => none
  | k, f + 1 => if need ≤ 16 * k * k * k * k * tol * tol then some k else least need tol (k + 1) f

def piecesV (need tol : Int) (ps : List (Int × Int)) : Int × Int :=
  if tol < 1 ∨ 256 < tol then (0, 2) else if okAll ps = false then (0, 6) else
    match least need tol 1 64 with
    | some k => (k, 0)
    | none => (0, 11)

theorem okAll_stop (ps : List (Int × Int)) (k : Nat) (hk : k < ps.length) (h : okPt ps[k].1 ps[k].2 = false) : okAll ps = false := by
  unfold okAll
  rw [List.all_eq_false]
  exact ⟨ps[k], List.getElem_mem hk, by simp [h]⟩
theorem okAll_step (ps : List (Int × Int)) (k : Nat) (hk : k < ps.length) (h0 : okAll (ps.take k) = true) (h : okPt ps[k].1 ps[k].2 = true) : okAll (ps.take (k + 1)) = true := by
  rw [okAll_take_succ ps k hk, h0]
  simp [List.getD, hk, h]
theorem okAll_end (ps : List (Int × Int)) (k : Nat) (hk : k ≤ ps.length) (hge : ¬ k < ps.length) (h0 : okAll (ps.take k) = true) : okAll ps = true := by
  rwa [List.take_of_length_le (by omega)] at h0

theorem allValid_any (b off cap : Nat) (ps : List (Int × Int)) (w : World) (hn : ps.length ≤ 4096) (hp : PtsAt w b off ps) :
    Calls Try.prog 54 #[.slice (some ⟨b, off, none⟩) ps.length cap] w fun e w' => e = .returned (.bool (okAll ps)) ∧ Ext w w' := by
  go_enter Try.func54, Try.ntmps54
  go_wp2_with fail
  go_loopw [3] (fun i wr => ∃ k : Nat, k ≤ ps.length ∧ i = .int .i64 k ∧ okAll (ps.take k) = true ∧ Ext w wr) (fun i _ => ps.length - (intOf i).toNat)
  case atStart => exact ⟨0, Nat.zero_le _, rfl, rfl, Ext.refl _⟩
  case round =>
    obtain ⟨k, hk, rfl, ho, he⟩ := hrel
    have HO := zH ho
    clear ho
    by_cases hlt : k < ps.length
    · obtain ⟨c0, c1⟩ := hp.ext he k hlt
      go_wp2_with (go_at_call 46; refine (rvalid_any _ _ _).mono ?_; rintro e w' ⟨rfl, hb⟩)
      · have hf : (!okPt ps[k].1 ps[k].2) = true := by assumption
        go_ret
        exact ⟨ret_bool (okAll_stop ps k hlt (by simpa using hf)).symm, he.trans ‹_›⟩
      · have hf : (!okPt ps[k].1 ps[k].2) = false := by assumption
        go_roundw
        case rel => exact ⟨k + 1, hlt, by go_num, okAll_step ps k hlt HO.out (by simpa using hf), he.trans ‹_›⟩
        case measure => simp [intOf]; omega
    · go_wp2_with fail
      go_ret
      exact ⟨ret_bool (okAll_end ps k hk hlt HO.out).symm, he⟩

theorem least_step (need tol : Int) (k f : Nat) (h : ¬ need ≤ 16 * k * k * k * k * tol * tol) : least need tol k (f + 1) = least need tol (k + 1) f := by
  rw [least, if_neg h]
theorem least_hit (need tol : Int) (k f : Nat) (h : need ≤ 16 * k * k * k * k * tol * tol) : least need tol k (f + 1) = some k := by
  rw [least, if_pos h]

theorem least_bounds (k : Nat) (tol : Int) (hk : k ≤ 64) (h1 : 1 ≤ tol) (h2 : tol ≤ 256) :
    0 ≤ 16 * (k : Int) * k ∧ 16 * (k : Int) * k ≤ 65536 ∧ 0 ≤ 16 * (k : Int) * k * k ∧ 16 * (k : Int) * k * k ≤ 4194304 ∧ 0 ≤ 16 * (k : Int) * k * k * k ∧ 16 * (k : Int) * k * k * k ≤ 268435456 ∧
    0 ≤ 16 * (k : Int) * k * k * k * tol ∧ 16 * (k : Int) * k * k * k * tol ≤ 68719476736 ∧ 0 ≤ 16 * (k : Int) * k * k * k * tol * tol ∧ 16 * (k : Int) * k * k * k * tol * tol ≤ 17592186044416 := by
  have hk0 : (0 : Int) ≤ k := by omega
  have hk1 : (k : Int) ≤ 64 := by omega
  have mb : ∀ a b A B : Int, 0 ≤ a → a ≤ A → 0 ≤ b → b ≤ B → 0 ≤ a * b ∧ a * b ≤ A * B := fun a b A B ha hA hb hB =>
    ⟨Int.mul_nonneg ha hb, Int.mul_le_mul hA hB hb (by omega)⟩
  have a1 := mb (16 * k) k 1024 64 (by omega) (by omega) hk0 hk1
  have a2 := mb _ k 65536 64 a1.1 (by omega) hk0 hk1
  have a3 := mb _ k 4194304 64 a2.1 (by omega) hk0 hk1
  have a4 := mb _ tol 268435456 256 a3.1 (by omega) (by omega) h2
  have a5 := mb _ tol 68719476736 256 a4.1 (by omega) (by omega) h2
  omega

theorem pieces_any (need tol : Int) (b off cap : Nat) (ps : List (Int × Int)) (w : World) (hn : ps.length ≤ 4096) (hp : PtsAt w b off ps) :
    Calls Try.prog 18 #[.int .i64 need, .int .i64 tol, .slice (some ⟨b, off, none⟩) ps.length cap] w fun e w' =>
      e = .returned (.tuple #[.int .i64 (piecesV need tol ps).1, .int .i64 (piecesV need tol ps).2]) ∧ Ext w w' := by
  by_cases ht : tol < 1 ∨ 256 < tol
  · have hv : piecesV need tol ps = (0, 2) := by unfold piecesV; rw [if_pos ht]
    rw [hv]
    clear hv
    rcases ht with ht | ht
    · go_enter Try.func18, Try.ntmps18
      go_wp2_with fail
      go_ret2
      exact ⟨rfl, Ext.refl _⟩
    · have ht' : ¬ tol < 1 := by omega
      go_enter Try.func18, Try.ntmps18
      go_wp2_with fail
      go_ret2
      exact ⟨rfl, Ext.refl _⟩
  have t1 : 1 ≤ tol := by omega
  have t2 : tol ≤ 256 := by omega
  have v1 : okAll ps = false → piecesV need tol ps = (0, 6) := fun h => by unfold piecesV; rw [if_neg ht, if_pos h]
  have v2 : ∀ k : Nat, okAll ps = true → least need tol 1 64 = some k → piecesV need tol ps = ((k : Int), 0) := fun k h hl => by unfold piecesV; rw [if_neg ht, if_neg (by simp [h]), hl]
  have v3 : okAll ps = true → least need tol 1 64 = none → piecesV need tol ps = (0, 11) := fun h hl => by unfold piecesV; rw [if_neg ht, if_neg (by simp [h]), hl]
  have H1 := zH v1
  have H2 := zH v2
  have H3 := zH v3
  clear v1 v2 v3 ht
  have d1 : decide (tol < 1) = false := by simp; omega
  have d2 : decide (256 < tol) = false := by simp; omega
  go_enter Try.func18, Try.ntmps18
  go_wp2_with fail
  go_loopw [19] (fun i wr => ∃ k : Nat, k ≤ ps.length ∧ i = .int .i64 k ∧ okAll (ps.take k) = true ∧ Ext w wr) (fun i _ => ps.length - (intOf i).toNat)
  case atStart => exact ⟨0, Nat.zero_le _, rfl, rfl, Ext.refl _⟩
  case round =>
    obtain ⟨k, hk, rfl, ho, he⟩ := hrel
    have HO := zH ho
    clear ho
    by_cases hlt : k < ps.length
    · obtain ⟨c0, c1⟩ := hp.ext he k hlt
      go_wp2_with (go_at_call 31; refine (valid_any _ _ _).mono ?_; rintro e w' ⟨rfl, hb⟩)
      · have hf : (!okPt ps[k].1 ps[k].2) = true := by assumption
        go_ret2
        rw [H1.out (okAll_stop ps k hlt (by simpa using hf))]
        exact ⟨rfl, (he.alloc _).trans ‹_›⟩
      · have hf : (!okPt ps[k].1 ps[k].2) = false := by assumption
        go_roundw
        case rel => exact ⟨k + 1, hlt, by go_num, okAll_step ps k hlt HO.out (by simpa using hf), (he.alloc _).trans ‹_›⟩
        case measure => simp [intOf]; omega
    · have HK := zH (okAll_end ps k hk hlt HO.out)
      clear HO
      go_wp2_with fail
      go_loop [10] (fun i => ∃ j : Nat, 1 ≤ j ∧ j ≤ 65 ∧ i = .int .i64 j ∧ least need tol 1 64 = least need tol j (65 - j)) (fun i => 65 - (intOf i).toNat)
      case atStart => exact ⟨1, Nat.le_refl _, by omega, rfl, rfl⟩
      case round =>
        obtain ⟨j, hj1, hj2, rfl, hl⟩ := hrel
        have HL := zH hl
        clear hl
        by_cases hj : j ≤ 64
        · have bd := least_bounds j tol hj t1 t2
          by_cases hit : need ≤ 16 * (j : Int) * j * j * j * tol * tol
          · have hr : least need tol 1 64 = some j := by
              rw [HL.out, show 65 - j = (64 - j) + 1 by omega]; exact least_hit _ _ _ _ hit
            have HR := zH hr
            clear hr
            go_wp2_with fail
            go_ret2
            rw [H2.out j HK.out HR.out]
            exact ⟨rfl, he⟩
          · have hr : least need tol 1 64 = least need tol (j + 1) (65 - (j + 1)) := by
              rw [HL.out, show 65 - j = (64 - j) + 1 by omega, least_step _ _ _ _ hit, show 64 - j = 65 - (j + 1) by omega]
            have HR := zH hr
            clear hr
            go_wp2_with fail
            go_round
            case rel => exact ⟨j + 1, by omega, by omega, by go_num, HR.out⟩
            case measure => simp [intOf]; omega
        · have hr : least need tol 1 64 = none := by
            rw [HL.out, show 65 - j = 0 by omega]; rfl
          have HR := zH hr
          clear hr
          go_wp2_with fail
          go_ret2
          rw [H3.out HK.out HR.out]
          exact ⟨rfl, he⟩

def sqD (a b c : Int × Int) : Int := (a.1 - 2 * b.1 + c.1) * (a.1 - 2 * b.1 + c.1) + (a.2 - 2 * b.2 + c.2) * (a.2 - 2 * b.2 + c.2)

theorem sq_bound (x : Int) (h1 : -4194304 ≤ x) (h2 : x ≤ 4194304) : 0 ≤ x * x ∧ x * x ≤ 17592186044416 := by
  have h : x * x ≤ 4194304 * 4194304 := by
    by_cases hx : 0 ≤ x
    · exact Int.mul_le_mul h2 h2 hx (by omega)
    · have := Int.mul_le_mul (a := -x) (c := 4194304) (b := -x) (d := 4194304) (by omega) (by omega) (by omega) (by omega)
      rw [Int.neg_mul_neg] at this
      exact this
  refine ⟨?_, by omega⟩
  by_cases hx : 0 ≤ x
  · exact Int.mul_nonneg hx hx
  · have := Int.mul_nonneg (a := -x) (b := -x) (by omega) (by omega)
    rw [Int.neg_mul_neg] at this
    exact this

theorem okPt_iff (x y : Int) : okPt x y = true ↔ (-1048576 ≤ x ∧ x ≤ 1048576) ∧ -1048576 ≤ y ∧ y ≤ 1048576 := by simp [okPt]

def SquareSays (a b c : Int × Int) (w : World) (e : Ending) (w' : World) : Prop :=
  ∃ n : Int, e = .returned (.int .i64 n) ∧ (okAll [a, b, c] = true → n = sqD a b c) ∧ Ext w w'

theorem square_any (a b c : Int × Int) (w : World) :
    Calls Try.prog 19 #[.agg #[.int .i64 a.1, .int .i64 a.2], .agg #[.int .i64 b.1, .int .i64 b.2], .agg #[.int .i64 c.1, .int .i64 c.2]] w (SquareSays a b c w) := by
  obtain ⟨ax, ay⟩ := a
  obtain ⟨bx, bt⟩ := b
  obtain ⟨cx, cy⟩ := c
  by_cases hv : okAll [(ax, ay), (bx, bt), (cx, cy)] = true
  · have hb : ((-1048576 ≤ ax ∧ ax ≤ 1048576) ∧ -1048576 ≤ ay ∧ ay ≤ 1048576) ∧ ((-1048576 ≤ bx ∧ bx ≤ 1048576) ∧ -1048576 ≤ bt ∧ bt ≤ 1048576) ∧ ((-1048576 ≤ cx ∧ cx ≤ 1048576) ∧ -1048576 ≤ cy ∧ cy ≤ 1048576) := by
      simpa [okAll, okPt_iff] using hv
    have b1 := sq_bound (ax - 2 * bx + cx) (by omega) (by omega)
    have b2 := sq_bound (ay - 2 * bt + cy) (by omega) (by omega)
    clear hv
    go_enter Try.func19, Try.ntmps19
    go_wp2_with fail
    go_quiet (fail)
    go_wp2_with fail
    go_ret
    exact ⟨_, rfl, fun _ => rfl, ((((Ext.refl _).alloc _).alloc _).alloc _).drewN _⟩
  · have HV := zH hv
    clear hv
    go_enter Try.func19, Try.ntmps19
    go_wp2_with fail
    go_quiet (fail)
    go_wp2_with fail
    go_ret
    exact ⟨_, rfl, fun h => absurd h HV.out, ((((Ext.refl _).alloc _).alloc _).alloc _).drewN _⟩

theorem piecesV_bad (n m tol : Int) (ps : List (Int × Int)) (h : okAll ps = false) : piecesV n tol ps = piecesV m tol ps := by
  unfold piecesV
  simp [h]

def quadSegV (a b c : Int × Int) (tol : Int) : Int × Int := piecesV (sqD a b c) tol [a, b, c]
def cubicSegV (a b c d : Int × Int) (tol : Int) : Int × Int := piecesV (9 * max (sqD a b c) (sqD b c d)) tol [a, b, c, d]

theorem pts3 {w : World} {g : Nat} {a b c : Int × Int} (h0 : w.cell? ⟨g, 0, none⟩ = some (.int .i64 a.1)) (h1 : w.cell? ⟨g, 1, none⟩ = some (.int .i64 a.2)) (h2 : w.cell? ⟨g, 2, none⟩ = some (.int .i64 b.1))
    (h3 : w.cell? ⟨g, 3, none⟩ = some (.int .i64 b.2)) (h4 : w.cell? ⟨g, 4, none⟩ = some (.int .i64 c.1)) (h5 : w.cell? ⟨g, 5, none⟩ = some (.int .i64 c.2)) : PtsAt w g 0 [a, b, c] := by
  intro i hi
  match i, hi with
  | 0, _ => exact ⟨h0, h1⟩
  | 1, _ => exact ⟨h2, h3⟩
  | 2, _ => exact ⟨h4, h5⟩
theorem pts4 {w : World} {g : Nat} {a b c d : Int × Int} (h0 : w.cell? ⟨g, 0, none⟩ = some (.int .i64 a.1)) (h1 : w.cell? ⟨g, 1, none⟩ = some (.int .i64 a.2)) (h2 : w.cell? ⟨g, 2, none⟩ = some (.int .i64 b.1))
    (h3 : w.cell? ⟨g, 3, none⟩ = some (.int .i64 b.2)) (h4 : w.cell? ⟨g, 4, none⟩ = some (.int .i64 c.1)) (h5 : w.cell? ⟨g, 5, none⟩ = some (.int .i64 c.2))
    (h6 : w.cell? ⟨g, 6, none⟩ = some (.int .i64 d.1)) (h7 : w.cell? ⟨g, 7, none⟩ = some (.int .i64 d.2)) : PtsAt w g 0 [a, b, c, d] := by
  intro i hi
  match i, hi with
  | 0, _ => exact ⟨h0, h1⟩
  | 1, _ => exact ⟨h2, h3⟩
  | 2, _ => exact ⟨h4, h5⟩
  | 3, _ => exact ⟨h6, h7⟩

def PiecesSays (need tol : Int) (ps : List (Int × Int)) (w : World) (e : Ending) (w' : World) : Prop :=
  e = .returned (.tuple #[.int .i64 (piecesV need tol ps).1, .int .i64 (piecesV need tol ps).2]) ∧ Ext w w'

theorem pieces_len (need tol : Int) (n b off cap : Nat) (ps : List (Int × Int)) (w : World) (hl : ps.length = n) (hn : n ≤ 4096) (hp : PtsAt w b off ps) :
    Calls Try.prog 18 #[.int .i64 need, .int .i64 tol, .slice (some ⟨b, off, none⟩) n cap] w (PiecesSays need tol ps w) := by
  subst hl
  exact pieces_any need tol b off cap ps w hn hp

end Go.Proofs.Ytjkddchkjkocbaa

namespace Go.Proofs.Ytjkddchkjkocbaa
open Go.RowKit
attribute [local go_sem ↓] Go.wp_at_zero Go.wp_at_succ run_eql_point run_neq_point run_max_ii run_min_ii

theorem quadSeg_any (a b c : Int × Int) (tol : Int) (w : World) :
    Calls Try.prog 8 #[.agg #[.int .i64 a.1, .int .i64 a.2, .int .i64 b.1, .int .i64 b.2, .int .i64 c.1, .int .i64 c.2], .int .i64 tol] w fun e w' =>
      e = .returned (.tuple #[.int .i64 (quadSegV a b c tol).1, .int .i64 (quadSegV a b c tol).2]) ∧ Ext w w' := by
  have g : ∀ w', Ext (w.alloc (.cells #[.int .i64 a.1, .int .i64 a.2, .int .i64 b.1, .int .i64 b.2, .int .i64 c.1, .int .i64 c.2] 37)) w' →
      w'.cell? ⟨w.heap.size, 0, none⟩ = some (.int .i64 a.1) ∧ w'.cell? ⟨w.heap.size, 1, none⟩ = some (.int .i64 a.2) ∧ w'.cell? ⟨w.heap.size, 2, none⟩ = some (.int .i64 b.1) ∧
      w'.cell? ⟨w.heap.size, 3, none⟩ = some (.int .i64 b.2) ∧ w'.cell? ⟨w.heap.size, 4, none⟩ = some (.int .i64 c.1) ∧ w'.cell? ⟨w.heap.size, 5, none⟩ = some (.int .i64 c.2) := fun w' h =>
    ⟨h.get (by simp), h.get (by simp), h.get (by simp), h.get (by simp), h.get (by simp), h.get (by simp)⟩
  have hps : ∀ w', Ext (w.alloc (.cells #[.int .i64 a.1, .int .i64 a.2, .int .i64 b.1, .int .i64 b.2, .int .i64 c.1, .int .i64 c.2] 37)) w' → PtsAt w' w.heap.size 0 [a, b, c] := fun w' h => by
    obtain ⟨h0, h1, h2, h3, h4, h5⟩ := g w' h
    exact pts3 h0 h1 h2 h3 h4 h5
  have HP := zH hps
  clear hps
  go_enter Try.func8, Try.ntmps8
  go_wp2_with fail
  go_region_held3 (fun w' => Ext (w.alloc (.cells #[.int .i64 a.1, .int .i64 a.2, .int .i64 b.1, .int .i64 b.2, .int .i64 c.1, .int .i64 c.2] 37)) w') (first | assumption | exact Ext.drew (Ext.refl _) | (apply Ext.via; assumption; assumption))
    (first | (go_at_call 19; refine (square_any a b c _).mono ?_; rintro e w' ⟨n, rfl, hn, hb⟩) | (go_at_call 18; refine (pieces_len _ tol 3 w.heap.size 0 3 [a, b, c] _ rfl (by omega) (HP.out _ (by assumption))).mono ?_; rintro e w' ⟨rfl, hb2⟩))
  go_wp2_with fail
  go_ret2
  have hq : quadSegV a b c tol = piecesV n tol [a, b, c] := by
    unfold quadSegV
    by_cases hv : okAll [a, b, c] = true
    · rw [hn hv]
    · exact piecesV_bad _ _ _ _ (by simpa using hv)
  rw [hq]
  exact ⟨rfl, ((Ext.refl _).alloc _).trans ‹_›⟩

theorem sqD_bound (a b c : Int × Int) (h : okAll [a, b, c] = true) : 0 ≤ sqD a b c ∧ sqD a b c ≤ 35184372088832 := by
  have hb : ((-1048576 ≤ a.1 ∧ a.1 ≤ 1048576) ∧ -1048576 ≤ a.2 ∧ a.2 ≤ 1048576) ∧ ((-1048576 ≤ b.1 ∧ b.1 ≤ 1048576) ∧ -1048576 ≤ b.2 ∧ b.2 ≤ 1048576) ∧ ((-1048576 ≤ c.1 ∧ c.1 ≤ 1048576) ∧ -1048576 ≤ c.2 ∧ c.2 ≤ 1048576) := by
    simpa [okAll, okPt_iff] using h
  have b1 := sq_bound (a.1 - 2 * b.1 + c.1) (by omega) (by omega)
  have b2 := sq_bound (a.2 - 2 * b.2 + c.2) (by omega) (by omega)
  unfold sqD
  omega

theorem cubic_close {a b c d : Int × Int} {tol n m : Int} (hn : okAll [a, b, c] = true → n = sqD a b c) (hm : okAll [b, c, d] = true → m = sqD b c d) :
    cubicSegV a b c d tol = piecesV (IntKind.i64.wrap (9 * max n m)) tol [a, b, c, d] := by
  unfold cubicSegV
  by_cases hv : okAll [a, b, c, d] = true
  · have h1 : okAll [a, b, c] = true := by simp [okAll] at hv ⊢; simp [hv]
    have h2 : okAll [b, c, d] = true := by simp [okAll] at hv ⊢; simp [hv]
    have b1 := sqD_bound a b c h1
    have b2 := sqD_bound b c d h2
    rw [hn h1, hm h2, IntWalk.i64_in _ (by omega)]
  · exact piecesV_bad _ _ _ _ (by simpa using hv)

theorem cubicSeg_any (a b c d : Int × Int) (tol : Int) (w : World) :
    Calls Try.prog 35 #[.agg #[.int .i64 a.1, .int .i64 a.2, .int .i64 b.1, .int .i64 b.2, .int .i64 c.1, .int .i64 c.2, .int .i64 d.1, .int .i64 d.2], .int .i64 tol] w fun e w' =>
      e = .returned (.tuple #[.int .i64 (cubicSegV a b c d tol).1, .int .i64 (cubicSegV a b c d tol).2]) ∧ Ext w w' := by
  have g : ∀ w', Ext (w.alloc (.cells #[.int .i64 a.1, .int .i64 a.2, .int .i64 b.1, .int .i64 b.2, .int .i64 c.1, .int .i64 c.2, .int .i64 d.1, .int .i64 d.2] 64)) w' →
      w'.cell? ⟨w.heap.size, 0, none⟩ = some (.int .i64 a.1) ∧ w'.cell? ⟨w.heap.size, 1, none⟩ = some (.int .i64 a.2) ∧ w'.cell? ⟨w.heap.size, 2, none⟩ = some (.int .i64 b.1) ∧ w'.cell? ⟨w.heap.size, 3, none⟩ = some (.int .i64 b.2) ∧ w'.cell? ⟨w.heap.size, 4, none⟩ = some (.int .i64 c.1) ∧ w'.cell? ⟨w.heap.size, 5, none⟩ = some (.int .i64 c.2) ∧ w'.cell? ⟨w.heap.size, 6, none⟩ = some (.int .i64 d.1) ∧ w'.cell? ⟨w.heap.size, 7, none⟩ = some (.int .i64 d.2) := fun w' h =>
    ⟨h.get (by simp), h.get (by simp), h.get (by simp), h.get (by simp), h.get (by simp), h.get (by simp), h.get (by simp), h.get (by simp)⟩
  have hps : ∀ w', Ext (w.alloc (.cells #[.int .i64 a.1, .int .i64 a.2, .int .i64 b.1, .int .i64 b.2, .int .i64 c.1, .int .i64 c.2, .int .i64 d.1, .int .i64 d.2] 64)) w' → PtsAt w' w.heap.size 0 [a, b, c, d] := fun w' h => by
    obtain ⟨h0, h1, h2, h3, h4, h5, h6, h7⟩ := g w' h
    exact pts4 h0 h1 h2 h3 h4 h5 h6 h7
  have HP := zH hps
  clear hps
  go_enter Try.func35, Try.ntmps35
  go_wp2_with fail
  go_region_held3 (fun w' => Ext (w.alloc (.cells #[.int .i64 a.1, .int .i64 a.2, .int .i64 b.1, .int .i64 b.2, .int .i64 c.1, .int .i64 c.2, .int .i64 d.1, .int .i64 d.2] 64)) w') (first | assumption | exact Ext.drew (Ext.refl _) | (apply Ext.via; assumption; assumption))
    (first | (go_at_call 19; refine (square_any (_, _) (_, _) (_, _) _).mono ?_; rintro e w' ⟨n, rfl, hn, hb⟩) | (go_at_call 18; refine (pieces_len _ tol 4 w.heap.size 0 4 [a, b, c, d] _ rfl (by omega) (HP.out _ (by assumption))).mono ?_; rintro e w' ⟨rfl, hb2⟩))
  go_wp2_with fail
  go_ret2
  rw [cubic_close (a := a) (b := b) (c := c) (d := d) (by assumption) (by assumption)]
  exact ⟨rfl, ((Ext.refl _).alloc _).trans ‹_›⟩
end Go.Proofs.Ytjkddchkjkocbaa

namespace Go.Proofs.Ytjkddchkjkocbaa
open Go.RowKit
attribute [local go_sem ↓] Go.wp_at_zero Go.wp_at_succ run_eql_point run_neq_point run_max_ii run_min_ii

theorem validTol_any (t : Int) (w : World) :
    Calls Try.prog 16 #[.int .i64 t] w fun e w' => e = .returned (.bool (decide (1 ≤ t) && decide (t ≤ 256))) ∧ w = w' := by
  by_cases h1 : 1 ≤ t
  · by_cases h2 : t ≤ 256
    · go_enter Try.func16, Try.ntmps16
      go_wp2_with fail
      go_ret
      exact ⟨ret_bool (by simp; omega), rfl⟩
    · go_enter Try.func16, Try.ntmps16
      go_wp2_with fail
      go_ret
      exact ⟨ret_bool (by simp; omega), rfl⟩
  · go_enter Try.func16, Try.ntmps16
    go_wp2_with fail
    go_ret
    exact ⟨ret_bool (by simp; omega), rfl⟩

theorem bend_any (ax ay bx bt cx cy : Int) (w : World) (hv : okAll [(ax, ay), (bx, bt), (cx, cy)] = true) :
    Calls Try.prog 57 #[.agg #[.int .i64 ax, .int .i64 ay], .agg #[.int .i64 bx, .int .i64 bt], .agg #[.int .i64 cx, .int .i64 cy]] w fun e w' =>
      e = .returned (.int .i64 (sqD (ax, ay) (bx, bt) (cx, cy))) ∧ Ext w w' := by
  have hb : ((-1048576 ≤ ax ∧ ax ≤ 1048576) ∧ -1048576 ≤ ay ∧ ay ≤ 1048576) ∧ ((-1048576 ≤ bx ∧ bx ≤ 1048576) ∧ -1048576 ≤ bt ∧ bt ≤ 1048576) ∧ ((-1048576 ≤ cx ∧ cx ≤ 1048576) ∧ -1048576 ≤ cy ∧ cy ≤ 1048576) := by
    simpa [okAll, okPt_iff] using hv
  have b1 := sq_bound (ax - 2 * bx + cx) (by omega) (by omega)
  have b2 := sq_bound (ay - 2 * bt + cy) (by omega) (by omega)
  clear hv
  go_enter Try.func57, Try.ntmps57
  go_wp2_with fail
  go_ret
  exact ⟨rfl, (((Ext.refl _).alloc _).alloc _).alloc _⟩

theorem bend_pts (a b c : Int × Int) (w : World) (hv : okAll [a, b, c] = true) :
    Calls Try.prog 57 #[.agg #[.int .i64 a.1, .int .i64 a.2], .agg #[.int .i64 b.1, .int .i64 b.2], .agg #[.int .i64 c.1, .int .i64 c.2]] w fun e w' =>
      e = .returned (.int .i64 (sqD a b c)) ∧ Ext w w' := bend_any a.1 a.2 b.1 b.2 c.1 c.2 w hv

theorem pts3_get {w w' : World} {g : Nat} {a b c : Int × Int} (hp : PtsAt w g 0 [a, b, c]) (h : Ext w w') :
    w'.cell? ⟨g, 0, none⟩ = some (.int .i64 a.1) ∧ w'.cell? ⟨g, 1, none⟩ = some (.int .i64 a.2) ∧ w'.cell? ⟨g, 2, none⟩ = some (.int .i64 b.1) ∧
      w'.cell? ⟨g, 3, none⟩ = some (.int .i64 b.2) ∧ w'.cell? ⟨g, 4, none⟩ = some (.int .i64 c.1) ∧ w'.cell? ⟨g, 5, none⟩ = some (.int .i64 c.2) := by
  have q := hp.ext h
  have q0 := q 0 (by simp)
  have q1 := q 1 (by simp)
  have q2 := q 2 (by simp)
  exact ⟨q0.1, q0.2, q1.1, q1.2, q2.1, q2.2⟩
theorem pts4_get {w w' : World} {g : Nat} {a b c d : Int × Int} (hp : PtsAt w g 0 [a, b, c, d]) (h : Ext w w') :
    w'.cell? ⟨g, 0, none⟩ = some (.int .i64 a.1) ∧ w'.cell? ⟨g, 1, none⟩ = some (.int .i64 a.2) ∧ w'.cell? ⟨g, 2, none⟩ = some (.int .i64 b.1) ∧
      w'.cell? ⟨g, 3, none⟩ = some (.int .i64 b.2) ∧ w'.cell? ⟨g, 4, none⟩ = some (.int .i64 c.1) ∧ w'.cell? ⟨g, 5, none⟩ = some (.int .i64 c.2) ∧
      w'.cell? ⟨g, 6, none⟩ = some (.int .i64 d.1) ∧ w'.cell? ⟨g, 7, none⟩ = some (.int .i64 d.2) := by
  have q := hp.ext h
  have q0 := q 0 (by simp)
  have q1 := q 1 (by simp)
  have q2 := q 2 (by simp)
  have q3 := q 3 (by simp)
  exact ⟨q0.1, q0.2, q1.1, q1.2, q2.1, q2.2, q3.1, q3.2⟩

theorem piecesV_some {need tol : Int} {ps : List (Int × Int)} {k : Nat} (t1 : 1 ≤ tol) (t2 : tol ≤ 256) (h : okAll ps = true) (hl : least need tol 1 64 = some k) : piecesV need tol ps = ((k : Int), 0) := by
  unfold piecesV
  rw [if_neg (by omega), if_neg (by simp [h]), hl]
theorem piecesV_none {need tol : Int} {ps : List (Int × Int)} (t1 : 1 ≤ tol) (t2 : tol ≤ 256) (h : okAll ps = true) (hl : least need tol 1 64 = none) : piecesV need tol ps = (0, 11) := by
  unfold piecesV
  rw [if_neg (by omega), if_neg (by simp [h]), hl]

theorem segs3 (a b c : Int × Int) (tol : Int) (g cap : Nat) (w : World) (hp : PtsAt w g 0 [a, b, c]) :
    Calls Try.prog 52 #[.slice (some ⟨g, 0, none⟩) 3 cap, .int .i64 tol, .int .i64 1] w fun e w' =>
      e = .returned (.tuple #[.int .i64 (quadSegV a b c tol).1, .int .i64 (quadSegV a b c tol).2]) ∧ Ext w w' := by
  unfold quadSegV
  by_cases ht : tol < 1 ∨ 256 < tol
  · have hv : piecesV (sqD a b c) tol [a, b, c] = (0, 2) := by unfold piecesV; rw [if_pos ht]
    rw [hv]
    clear hv
    have hd : (!(decide (1 ≤ tol) && decide (tol ≤ 256))) = true := by rcases ht with h | h <;> simp <;> omega
    go_enter Try.func52, Try.ntmps52
    go_wp2_with (go_at_call 16; refine (validTol_any _ _).mono ?_; rintro e w' ⟨rfl, rfl⟩)
    go_ret2
    exact ⟨rfl, Ext.refl _⟩
  have t1 : 1 ≤ tol := by omega
  have t2 : tol ≤ 256 := by omega
  have d1 : decide (1 ≤ tol) = true := by simpa using t1
  have d2 : decide (tol ≤ 256) = true := by simpa using t2
  by_cases hv : okAll [a, b, c] = true
  · have g0 : ∀ w', Ext w w' → w'.cell? ⟨g, 0, none⟩ = some (.int .i64 a.1) ∧ w'.cell? ⟨g, 1, none⟩ = some (.int .i64 a.2) ∧ w'.cell? ⟨g, 2, none⟩ = some (.int .i64 b.1) ∧
      w'.cell? ⟨g, 3, none⟩ = some (.int .i64 b.2) ∧ w'.cell? ⟨g, 4, none⟩ = some (.int .i64 c.1) ∧ w'.cell? ⟨g, 5, none⟩ = some (.int .i64 c.2) := fun w' h => pts3_get hp h
    have HV := zH hv
    have b0 := sqD_bound a b c hv
    clear ht
    go_enter Try.func52, Try.ntmps52
    go_wp2_with (first | (go_at_call 16; refine (validTol_any _ _).mono ?_; rintro e w' ⟨rfl, rfl⟩) | (go_at_call 54; refine (allValid_any g 0 cap [a, b, c] _ (by simp) hp).mono ?_; rintro e w' ⟨rfl, hb⟩))
    go_region_held3 (fun w' => Ext w w') (first | assumption | (exact Ext.drew (by assumption)) | (apply Ext.via; assumption; assumption))
      (first | (go_at_call 57; refine (bend_pts a b c _ HV.out).mono ?_; rintro e w' ⟨rfl, hb⟩))
    go_wp2_with fail
    go_loop [9] (fun i => ∃ j : Nat, 1 ≤ j ∧ j ≤ 65 ∧ i = .int .i64 j ∧ least (sqD a b c) tol 1 64 = least (sqD a b c) tol j (65 - j)) (fun i => 65 - (intOf i).toNat)
    case atStart => exact ⟨1, Nat.le_refl _, by omega, rfl, rfl⟩
    case round =>
      obtain ⟨j, hj1, hj2, rfl, hl⟩ := hrel
      have HL := zH hl
      clear hl
      by_cases hj : j ≤ 64
      · have bd := least_bounds j tol hj t1 t2
        by_cases hit : sqD a b c ≤ 16 * (j : Int) * j * j * j * tol * tol
        · have hr : least (sqD a b c) tol 1 64 = some j := by
            rw [HL.out, show 65 - j = (64 - j) + 1 by omega]; exact least_hit _ _ _ _ hit
          have HR := zH (piecesV_some t1 t2 HV.out hr)
          clear hr
          go_wp2_with fail
          go_ret2
          rw [HR.out]
          exact ⟨rfl, by assumption⟩
        · have hr : least (sqD a b c) tol 1 64 = least (sqD a b c) tol (j + 1) (65 - (j + 1)) := by
            rw [HL.out, show 65 - j = (64 - j) + 1 by omega, least_step _ _ _ _ hit, show 64 - j = 65 - (j + 1) by omega]
          have HR := zH hr
          clear hr
          go_wp2_with fail
          go_round
          case rel => exact ⟨j + 1, by omega, by omega, by go_num, HR.out⟩
          case measure => simp [intOf]; omega
      · have hr : least (sqD a b c) tol 1 64 = none := by
          rw [HL.out, show 65 - j = 0 by omega]; rfl
        have HR := zH (piecesV_none t1 t2 HV.out hr)
        clear hr
        go_wp2_with fail
        go_ret2
        rw [HR.out]
        exact ⟨rfl, by assumption⟩
  · have hvf : okAll [a, b, c] = false := by simpa using hv
    have hr : piecesV (sqD a b c) tol [a, b, c] = (0, 6) := by unfold piecesV; rw [if_neg ht, if_pos hvf]
    rw [hr]
    clear hr ht hv
    go_enter Try.func52, Try.ntmps52
    go_wp2_with (first | (go_at_call 16; refine (validTol_any _ _).mono ?_; rintro e w' ⟨rfl, rfl⟩) | (go_at_call 54; refine (allValid_any g 0 cap [a, b, c] _ (by simp) hp).mono ?_; rintro e w' ⟨rfl, hb⟩))
    go_ret2
    exact ⟨rfl, ‹_›⟩
theorem segs4 (a b c d : Int × Int) (tol : Int) (g cap : Nat) (w : World) (hp : PtsAt w g 0 [a, b, c, d]) :
    Calls Try.prog 52 #[.slice (some ⟨g, 0, none⟩) 4 cap, .int .i64 tol, .int .i64 9] w fun e w' =>
      e = .returned (.tuple #[.int .i64 (cubicSegV a b c d tol).1, .int .i64 (cubicSegV a b c d tol).2]) ∧ Ext w w' := by
  unfold cubicSegV
  by_cases ht : tol < 1 ∨ 256 < tol
  · have hv : piecesV (9 * max (sqD a b c) (sqD b c d)) tol [a, b, c, d] = (0, 2) := by unfold piecesV; rw [if_pos ht]
    rw [hv]
    clear hv
    have hd : (!(decide (1 ≤ tol) && decide (tol ≤ 256))) = true := by rcases ht with h | h <;> simp <;> omega
    go_enter Try.func52, Try.ntmps52
    go_wp2_with (go_at_call 16; refine (validTol_any _ _).mono ?_; rintro e w' ⟨rfl, rfl⟩)
    go_ret2
    exact ⟨rfl, Ext.refl _⟩
  have t1 : 1 ≤ tol := by omega
  have t2 : tol ≤ 256 := by omega
  have d1 : decide (1 ≤ tol) = true := by simpa using t1
  have d2 : decide (tol ≤ 256) = true := by simpa using t2
  by_cases hv : okAll [a, b, c, d] = true
  · have g0 : ∀ w', Ext w w' → w'.cell? ⟨g, 0, none⟩ = some (.int .i64 a.1) ∧ w'.cell? ⟨g, 1, none⟩ = some (.int .i64 a.2) ∧ w'.cell? ⟨g, 2, none⟩ = some (.int .i64 b.1) ∧
      w'.cell? ⟨g, 3, none⟩ = some (.int .i64 b.2) ∧ w'.cell? ⟨g, 4, none⟩ = some (.int .i64 c.1) ∧ w'.cell? ⟨g, 5, none⟩ = some (.int .i64 c.2) ∧
      w'.cell? ⟨g, 6, none⟩ = some (.int .i64 d.1) ∧ w'.cell? ⟨g, 7, none⟩ = some (.int .i64 d.2) := fun w' h => pts4_get hp h
    have HV := zH hv
    have v1 : okAll [a, b, c] = true := by simp [okAll] at hv ⊢; simp [hv]
    have v2 : okAll [b, c, d] = true := by simp [okAll] at hv ⊢; simp [hv]
    have b0 := sqD_bound a b c v1
    have b1 := sqD_bound b c d v2
    have V1 := zH v1
    have V2 := zH v2
    clear v1 v2
    clear ht
    go_enter Try.func52, Try.ntmps52
    go_wp2_with (first | (go_at_call 16; refine (validTol_any _ _).mono ?_; rintro e w' ⟨rfl, rfl⟩) | (go_at_call 54; refine (allValid_any g 0 cap [a, b, c, d] _ (by simp) hp).mono ?_; rintro e w' ⟨rfl, hb⟩))
    go_region_held3 (fun w' => Ext w w') (first | assumption | (exact Ext.drew (by assumption)) | (apply Ext.via; assumption; assumption))
      (first | (go_at_call 57; refine (bend_pts a b c _ V1.out).mono ?_; rintro e w' ⟨rfl, hb⟩))
    go_wp2_with fail

    go_region_held3 (fun w' => Ext w w') (first | assumption | (exact Ext.drew (by assumption)) | (apply Ext.via; assumption; assumption))
      (first | (go_at_call 57; refine (bend_pts b c d _ V2.out).mono ?_; rintro e w' ⟨rfl, hb⟩))
    go_wp2_with fail
    go_loop [9] (fun i => ∃ j : Nat, 1 ≤ j ∧ j ≤ 65 ∧ i = .int .i64 j ∧ least (9 * max (sqD a b c) (sqD b c d)) tol 1 64 = least (9 * max (sqD a b c) (sqD b c d)) tol j (65 - j)) (fun i => 65 - (intOf i).toNat)
    case atStart => exact ⟨1, Nat.le_refl _, by omega, rfl, rfl⟩
    case round =>
      obtain ⟨j, hj1, hj2, rfl, hl⟩ := hrel
      have HL := zH hl
      clear hl
      by_cases hj : j ≤ 64
      · have bd := least_bounds j tol hj t1 t2
        by_cases hit : 9 * max (sqD a b c) (sqD b c d) ≤ 16 * (j : Int) * j * j * j * tol * tol
        · have hr : least (9 * max (sqD a b c) (sqD b c d)) tol 1 64 = some j := by
            rw [HL.out, show 65 - j = (64 - j) + 1 by omega]; exact least_hit _ _ _ _ hit
          have HR := zH (piecesV_some t1 t2 HV.out hr)
          clear hr
          go_wp2_with fail
          go_ret2
          rw [HR.out]
          exact ⟨rfl, by assumption⟩
        · have hr : least (9 * max (sqD a b c) (sqD b c d)) tol 1 64 = least (9 * max (sqD a b c) (sqD b c d)) tol (j + 1) (65 - (j + 1)) := by
            rw [HL.out, show 65 - j = (64 - j) + 1 by omega, least_step _ _ _ _ hit, show 64 - j = 65 - (j + 1) by omega]
          have HR := zH hr
          clear hr
          go_wp2_with fail
          go_round
          case rel => exact ⟨j + 1, by omega, by omega, by go_num, HR.out⟩
          case measure => simp [intOf]; omega
      · have hr : least (9 * max (sqD a b c) (sqD b c d)) tol 1 64 = none := by
          rw [HL.out, show 65 - j = 0 by omega]; rfl
        have HR := zH (piecesV_none t1 t2 HV.out hr)
        clear hr
        go_wp2_with fail
        go_ret2
        rw [HR.out]
        exact ⟨rfl, by assumption⟩
  · have hvf : okAll [a, b, c, d] = false := by simpa using hv
    have hr : piecesV (9 * max (sqD a b c) (sqD b c d)) tol [a, b, c, d] = (0, 6) := by unfold piecesV; rw [if_neg ht, if_pos hvf]
    rw [hr]
    clear hr ht hv
    go_enter Try.func52, Try.ntmps52
    go_wp2_with (first | (go_at_call 16; refine (validTol_any _ _).mono ?_; rintro e w' ⟨rfl, rfl⟩) | (go_at_call 54; refine (allValid_any g 0 cap [a, b, c, d] _ (by simp) hp).mono ?_; rintro e w' ⟨rfl, hb⟩))
    go_ret2
    exact ⟨rfl, ‹_›⟩
end Go.Proofs.Ytjkddchkjkocbaa

namespace Go.Proofs.Ytjkddchkjkocbaa
open Go.RowKit
attribute [local go_sem ↓] Go.wp_at_zero Go.wp_at_succ run_eql_point run_neq_point run_max_ii run_min_ii

theorem rquadSeg_any (a b c : Int × Int) (tol : Int) (w : World) :
    Calls Try.prog 47 #[.agg #[.int .i64 a.1, .int .i64 a.2, .int .i64 b.1, .int .i64 b.2, .int .i64 c.1, .int .i64 c.2], .int .i64 tol] w fun e w' =>
      e = .returned (.tuple #[.int .i64 (quadSegV a b c tol).1, .int .i64 (quadSegV a b c tol).2]) ∧ Ext w w' := by
  go_enter Try.func47, Try.ntmps47
  go_wp2_with (go_at_call 52; refine (segs3 a b c tol _ 3 _ (pts3 (by simp) (by simp) (by simp) (by simp) (by simp) (by simp))).mono ?_; rintro e w' ⟨rfl, hb⟩)
  go_ret2
  exact ⟨rfl, (((Ext.refl _).alloc _).alloc _).trans ‹_›⟩

theorem rcubicSeg_any (a b c d : Int × Int) (tol : Int) (w : World) :
    Calls Try.prog 49 #[.agg #[.int .i64 a.1, .int .i64 a.2, .int .i64 b.1, .int .i64 b.2, .int .i64 c.1, .int .i64 c.2, .int .i64 d.1, .int .i64 d.2], .int .i64 tol] w fun e w' =>
      e = .returned (.tuple #[.int .i64 (cubicSegV a b c d tol).1, .int .i64 (cubicSegV a b c d tol).2]) ∧ Ext w w' := by
  go_enter Try.func49, Try.ntmps49
  go_wp2_with (go_at_call 52; refine (segs4 a b c d tol _ 4 _ (pts4 (by simp) (by simp) (by simp) (by simp) (by simp) (by simp) (by simp) (by simp))).mono ?_; rintro e w' ⟨rfl, hb⟩)
  go_ret2
  exact ⟨rfl, (((Ext.refl _).alloc _).alloc _).trans ‹_›⟩

def nearV (a b : Int) : Int := (2 * a + b) / (2 * b)

theorem quo_floor (x y : Int) (hy : 1 ≤ y) : (0 ≤ x.tmod y → x.tdiv y = x / y) ∧ (x.tmod y < 0 → x.tdiv y - 1 = x / y) ∧ (x.tmod y < 0 → x < 0) ∧ (0 ≤ x → x.tdiv y = x / y ∧ 0 ≤ x.tmod y) := by
  by_cases hx : 0 ≤ x
  · have h1 : x.tdiv y = x / y := Int.tdiv_eq_ediv_of_nonneg hx
    have h2 : 0 ≤ x.tmod y := Int.tmod_nonneg _ hx
    exact ⟨fun _ => h1, fun h => by omega, fun h => by omega, fun _ => ⟨h1, h2⟩⟩
  · have e := Int.mul_tdiv_add_tmod x y
    have e2 := Int.mul_ediv_add_emod x y
    have m0 := Int.emod_nonneg x (b := y) (by omega)
    have m1 := Int.emod_lt_of_pos x (b := y) (by omega)
    have t0 : x.tmod y ≤ 0 := by
      have := Int.tmod_nonneg (a := -x) y (by omega)
      rw [Int.neg_tmod] at this
      omega
    have t1 : -y < x.tmod y := by
      have := Int.tmod_lt_of_pos (-x) (b := y) (by omega)
      rw [Int.neg_tmod] at this
      omega
    refine ⟨fun h => ?_, fun h => ?_, fun _ => by omega, fun h => by omega⟩
    · have h0 : x.tmod y = 0 := by omega
      have hm : y * (x.tdiv y - x / y) = x % y := by rw [Int.mul_sub]; omega
      have : x.tdiv y - x / y = 0 := by
        by_cases hp : 1 ≤ x.tdiv y - x / y
        · have := Int.mul_le_mul_of_nonneg_left hp (show 0 ≤ y by omega); omega
        · by_cases hn : x.tdiv y - x / y ≤ -1
          · have := Int.mul_le_mul_of_nonneg_left hn (show 0 ≤ y by omega); omega
          · omega
      omega
    · have hm : y * (x.tdiv y - x / y) = x % y - x.tmod y := by rw [Int.mul_sub]; omega
      have : x.tdiv y - x / y = 1 := by
        by_cases hp : 2 ≤ x.tdiv y - x / y
        · have := Int.mul_le_mul_of_nonneg_left hp (show 0 ≤ y by omega); omega
        · by_cases hn : x.tdiv y - x / y ≤ 0
          · have := Int.mul_le_mul_of_nonneg_left hn (show 0 ≤ y by omega); omega
          · omega
      omega

theorem tdiv_bound (x y B : Int) (h1 : -B ≤ x) (h2 : x ≤ B) : -B ≤ x.tdiv y ∧ x.tdiv y ≤ B := by
  have := Int.natAbs_tdiv_le_natAbs x y
  omega

theorem near_any (a b : Int) (w : World) (h1 : 1 ≤ b) (h2 : b ≤ 1099511627776) (h3 : -1152921504606846976 ≤ a) (h4 : a ≤ 1152921504606846976) :
    Calls Try.prog 25 #[.int .i64 a, .int .i64 b] w fun e w' => e = .returned (.int .i64 (nearV a b)) ∧ w = w' := by
  have q := quo_floor (2 * a + b) (2 * b) (by omega)
  have bq := tdiv_bound (2 * a + b) (2 * b) 3458764513820540928 (by omega) (by omega)
  have e1 : (2 * a + b).tmod (2 * b) < 0 → nearV a b = (2 * a + b).tdiv (2 * b) - 1 := fun h => (q.2.1 h).symm
  have e2 : 0 ≤ (2 * a + b).tmod (2 * b) → nearV a b = (2 * a + b).tdiv (2 * b) := fun h => (q.1 h).symm
  have E1 := zH e1
  have E2 := zH e2
  clear e1 e2 q
  by_cases hr : (2 * a + b).tmod (2 * b) < 0
  · have d0 : ((2 * b) == 0) = false := by simp; omega
    go_enter Try.func25, Try.ntmps25
    go_wp2_with fail
    go_ret
    exact ⟨ret_int (E1.out hr).symm, rfl⟩
  · have d0 : ((2 * b) == 0) = false := by simp; omega
    go_enter Try.func25, Try.ntmps25
    go_wp2_with fail
    go_ret
    exact ⟨ret_int (E2.out (by omega)).symm, rfl⟩

theorem round_any (n d : Int) (w : World) (h1 : 1 ≤ d) (h2 : d ≤ 1099511627776) (h3 : -1152921504606846976 ≤ n) (h4 : n ≤ 1152921504606846976) :
    Calls Try.prog 55 #[.int .i64 n, .int .i64 d] w fun e w' => e = .returned (.int .i64 (nearV n d)) ∧ w = w' := by
  have q := quo_floor (2 * n + d) (2 * d) (by omega)
  have bq := tdiv_bound (2 * n + d) (2 * d) 3458764513820540928 (by omega) (by omega)
  have d0 : ((2 * d) == 0) = false := by simp; omega
  by_cases hx : 2 * n + d < 0
  · by_cases hr : (2 * n + d).tmod (2 * d) = 0
    · have E1 := zH (show nearV n d = (2 * n + d).tdiv (2 * d) from (q.1 (by omega)).symm)
      clear q
      have r0 : ((2 * n + d).tmod (2 * d) == 0) = true := by simpa using hr
      have r1 : ((2 * n + d).tmod (2 * d) != 0) = false := by simpa using hr
      clear hr
      go_enter Try.func55, Try.ntmps55
      go_wp2_with fail
      go_ret
      exact ⟨ret_int E1.out.symm, rfl⟩
    · have E1 := zH (show nearV n d = (2 * n + d).tdiv (2 * d) - 1 from (q.2.1 (by
        have := Int.tmod_nonneg (a := -(2 * n + d)) (2 * d) (by omega)
        rw [Int.neg_tmod] at this
        omega)).symm)
      clear q
      have r0 : ((2 * n + d).tmod (2 * d) == 0) = false := by simpa using hr
      have r1 : ((2 * n + d).tmod (2 * d) != 0) = true := by simpa using hr
      clear hr
      go_enter Try.func55, Try.ntmps55
      go_wp2_with fail
      go_ret
      exact ⟨ret_int E1.out.symm, rfl⟩
  · have E1 := zH (show nearV n d = (2 * n + d) / (2 * d) from rfl)
    clear q bq
    go_enter Try.func55, Try.ntmps55
    go_wp2_with fail
    go_ret
    exact ⟨ret_int E1.out.symm, rfl⟩
end Go.Proofs.Ytjkddchkjkocbaa

namespace Go.Proofs.Ytjkddchkjkocbaa
open Go.RowKit
attribute [local go_sem ↓] Go.wp_at_zero Go.wp_at_succ run_eql_point run_neq_point run_max_ii run_min_ii

def parV (i n : Int) : Bool := decide (1 ≤ n) && (decide (n ≤ 64) && (decide (0 ≤ i) && decide (i ≤ n)))

theorem parV_iff (i n : Int) : parV i n = true ↔ 1 ≤ n ∧ n ≤ 64 ∧ 0 ≤ i ∧ i ≤ n := by simp [parV]

theorem par_any (i n : Int) (w : World) :
    Calls Try.prog 53 #[.int .i64 i, .int .i64 n] w fun e w' => e = .returned (.bool (parV i n)) ∧ w = w' := by
  by_cases h : 1 ≤ n ∧ n ≤ 64 ∧ 0 ≤ i ∧ i ≤ n
  · rw [show parV i n = true from (parV_iff i n).2 h]
    obtain ⟨h1, h2, h3, h4⟩ := h
    go_enter Try.func53, Try.ntmps53
    go_wp2_with fail
    go_ret
    exact ⟨ret_bool (by simp <;> omega), rfl⟩
  · rw [show parV i n = false by rw [← Bool.not_eq_true, parV_iff]; exact h]
    by_cases h1 : 1 ≤ n
    · by_cases h2 : n ≤ 64
      · by_cases h3 : 0 ≤ i
        · have h4 : ¬ i ≤ n := by omega
          clear h
          go_enter Try.func53, Try.ntmps53
          go_wp2_with fail
          go_ret
          exact ⟨ret_bool (by simp <;> omega), rfl⟩
        · clear h
          go_enter Try.func53, Try.ntmps53
          go_wp2_with fail
          go_ret
          exact ⟨ret_bool (by simp <;> omega), rfl⟩
      · clear h
        go_enter Try.func53, Try.ntmps53
        go_wp2_with fail
        go_ret
        exact ⟨ret_bool (by simp <;> omega), rfl⟩
    · clear h
      go_enter Try.func53, Try.ntmps53
      go_wp2_with fail
      go_ret
      exact ⟨ret_bool (by simp <;> omega), rfl⟩

def MayB (ps : List (Int × Int)) (i n : Int) : Bool := okAll ps && parV i n

theorem may_any (b off cap : Nat) (ps : List (Int × Int)) (i n : Int) (w : World) (hn : ps.length ≤ 4096) (hp : PtsAt w b off ps) :
    Calls Try.prog 23 #[.slice (some ⟨b, off, none⟩) ps.length cap, .int .i64 i, .int .i64 n] w fun e w' => e = .returned (.bool (MayB ps i n)) ∧ Ext w w' := by
  go_enter Try.func23, Try.ntmps23
  go_wp2_with fail
  go_loopw [11] (fun x wr => ∃ k : Nat, k ≤ ps.length ∧ x = .int .i64 k ∧ okAll (ps.take k) = true ∧ Ext w wr) (fun x _ => ps.length - (intOf x).toNat)
  case atStart => exact ⟨0, Nat.zero_le _, rfl, rfl, Ext.refl _⟩
  case round =>
    obtain ⟨k, hk, rfl, ho, he⟩ := hrel
    have HO := zH ho
    clear ho
    by_cases hlt : k < ps.length
    · obtain ⟨c0, c1⟩ := hp.ext he k hlt
      go_wp2_with (go_at_call 31; refine (valid_any _ _ _).mono ?_; rintro e w' ⟨rfl, hb⟩)
      · have hf : (!okPt ps[k].1 ps[k].2) = true := by assumption
        go_ret
        exact ⟨ret_bool (by unfold MayB; rw [okAll_stop ps k hlt (by simpa using hf)]; rfl), (he.alloc _).trans ‹_›⟩
      · have hf : (!okPt ps[k].1 ps[k].2) = false := by assumption
        go_roundw
        case rel => exact ⟨k + 1, hlt, by go_num, okAll_step ps k hlt HO.out (by simpa using hf), (he.alloc _).trans ‹_›⟩
        case measure => simp [intOf]; omega
    · have e : MayB ps i n = parV i n := by unfold MayB; rw [okAll_end ps k hk hlt HO.out]; rfl
      have E := zH e
      clear HO e
      by_cases h1 : 1 ≤ n
      · by_cases h2 : n ≤ 64
        · by_cases h3 : 0 ≤ i
          · go_wp2_with fail
            all_goals go_ret
            all_goals exact ⟨ret_bool (by rw [E.out]; simp [parV, h1, h2, h3]), he⟩
          · go_wp2_with fail
            all_goals go_ret
            all_goals exact ⟨ret_bool (by rw [E.out]; simp [parV] <;> omega), he⟩
        · go_wp2_with fail
          all_goals go_ret
          all_goals exact ⟨ret_bool (by rw [E.out]; simp [parV] <;> omega), he⟩
      · go_wp2_with fail
        all_goals go_ret
        all_goals exact ⟨ret_bool (by rw [E.out]; simp [parV] <;> omega), he⟩

def MaySays (ps : List (Int × Int)) (i n : Int) (w : World) (e : Ending) (w' : World) : Prop := e = .returned (.bool (MayB ps i n)) ∧ Ext w w'

theorem may_len (l b off cap : Nat) (ps : List (Int × Int)) (i n : Int) (w : World) (hl : ps.length = l) (hn : l ≤ 4096) (hp : PtsAt w b off ps) :
    Calls Try.prog 23 #[.slice (some ⟨b, off, none⟩) l cap, .int .i64 i, .int .i64 n] w (MaySays ps i n w) := by
  subst hl
  exact may_any b off cap ps i n w hn hp
end Go.Proofs.Ytjkddchkjkocbaa

namespace Go.Proofs.Ytjkddchkjkocbaa
open Go.RowKit
attribute [local go_sem ↓] Go.wp_at_zero Go.wp_at_succ run_eql_point run_neq_point run_max_ii run_min_ii

theorem mulB (x y X Y : Int) (h1 : -X ≤ x) (h2 : x ≤ X) (h3 : -Y ≤ y) (h4 : y ≤ Y) : -(X * Y) ≤ x * y ∧ x * y ≤ X * Y := by
  have a := Int.natAbs_mul x y
  have b : x.natAbs * y.natAbs ≤ X.natAbs * Y.natAbs := Nat.mul_le_mul (by omega) (by omega)
  have c : ((X.natAbs * Y.natAbs : Nat) : Int) = X * Y := by
    rw [Int.natCast_mul, Int.natAbs_of_nonneg (by omega), Int.natAbs_of_nonneg (by omega)]
  omega

def qv (i n a b c : Int) : Int := nearV ((n - i) * (n - i) * a + 2 * i * (n - i) * b + i * i * c) (n * n)

theorem sq64 (i : Int) (h0 : 0 ≤ i) (h1 : i ≤ 64) : 0 ≤ i * i ∧ i * i ≤ 4096 := by
  have := mulB i i 64 64 (by omega) h1 (by omega) h1
  exact ⟨Int.mul_nonneg h0 h0, by omega⟩

theorem qbounds (i k n a b c : Int) (hi : 0 ≤ i ∧ i ≤ 64) (hk : 0 ≤ k ∧ k ≤ 64) (hn : 1 ≤ n ∧ n ≤ 64) (ha : -1048576 ≤ a ∧ a ≤ 1048576) (hb : -1048576 ≤ b ∧ b ≤ 1048576) (hc : -1048576 ≤ c ∧ c ≤ 1048576) :
    (0 ≤ k * k ∧ k * k ≤ 4096) ∧ (-4294967296 ≤ k * k * a ∧ k * k * a ≤ 4294967296) ∧ (-8192 ≤ 2 * i * k ∧ 2 * i * k ≤ 8192) ∧ (-8589934592 ≤ 2 * i * k * b ∧ 2 * i * k * b ≤ 8589934592) ∧
    (0 ≤ i * i ∧ i * i ≤ 4096) ∧ (-4294967296 ≤ i * i * c ∧ i * i * c ≤ 4294967296) ∧ (1 ≤ n * n ∧ n * n ≤ 4096) := by
  have s1 := sq64 k hk.1 hk.2
  have s2 := sq64 i hi.1 hi.2
  have s3 := sq64 n (by omega) hn.2
  have m1 := mulB (k * k) a 4096 1048576 (by omega) s1.2 ha.1 ha.2
  have m2 := mulB (2 * i) k 128 64 (by omega) (by omega) (by omega) hk.2
  have m3 := mulB (2 * i * k) b 8192 1048576 (by omega) (by omega) hb.1 hb.2
  have m4 := mulB (i * i) c 4096 1048576 (by omega) s2.2 hc.1 hc.2
  have m5 : 1 * 1 ≤ n * n := Int.mul_le_mul hn.1 hn.1 (by omega) (by omega)
  omega

theorem quadAt1_any (i k n a b c : Int) (pk pi pn : Addr) (w : World) (hi : 0 ≤ i ∧ i ≤ 64) (hk : 0 ≤ k ∧ k ≤ 64) (hn : 1 ≤ n ∧ n ≤ 64) (ha : -1048576 ≤ a ∧ a ≤ 1048576) (hb : -1048576 ≤ b ∧ b ≤ 1048576) (hc : -1048576 ≤ c ∧ c ≤ 1048576)
    (ck : w.cell? pk = some (.int .i64 k)) (ci : w.cell? pi = some (.int .i64 i)) (cn : w.cell? pn = some (.int .i64 n)) :
    Calls Try.prog 24 #[.int .i64 a, .int .i64 b, .int .i64 c, .pointer (some pk), .pointer (some pi), .pointer (some pn)] w fun e w' =>
      e = .returned (.int .i64 (nearV (k * k * a + 2 * i * k * b + i * i * c) (n * n))) ∧ w = w' := by
  have B := qbounds i k n a b c hi hk hn ha hb hc
  clear ha hb hc
  go_enter Try.func24, Try.ntmps24
  go_wp2_with (go_at_call 25; refine (near_any _ _ _ (by omega) (by omega) (by omega) (by omega)).mono ?_; rintro e w' ⟨rfl, rfl⟩)
  go_ret
  exact ⟨rfl, rfl⟩

def quadAtV (a b c : Int × Int) (i n : Int) : Int × Int := if MayB [a, b, c] i n = true then (qv i n a.1 b.1 c.1, qv i n a.2 b.2 c.2) else (0, 0)

theorem quadAt_any (a b c : Int × Int) (i n : Int) (w : World) :
    Calls Try.prog 11 #[.agg #[.int .i64 a.1, .int .i64 a.2, .int .i64 b.1, .int .i64 b.2, .int .i64 c.1, .int .i64 c.2], .int .i64 i, .int .i64 n] w fun e w' =>
      e = .returned (.agg #[.int .i64 (quadAtV a b c i n).1, .int .i64 (quadAtV a b c i n).2]) ∧ Ext w w' := by
  have g : ∀ w', Ext ((((w.alloc (.cells #[.int .i64 a.1, .int .i64 a.2, .int .i64 b.1, .int .i64 b.2, .int .i64 c.1, .int .i64 c.2] 37)).alloc (.cells #[.int .i64 i] 3)).alloc (.cells #[.int .i64 n] 3)).alloc (.cells #[.int .i64 0, .int .i64 0] 33)) w' →
      w'.cell? ⟨w.heap.size, 0, none⟩ = some (.int .i64 a.1) ∧ w'.cell? ⟨w.heap.size, 1, none⟩ = some (.int .i64 a.2) ∧ w'.cell? ⟨w.heap.size, 2, none⟩ = some (.int .i64 b.1) ∧
      w'.cell? ⟨w.heap.size, 3, none⟩ = some (.int .i64 b.2) ∧ w'.cell? ⟨w.heap.size, 4, none⟩ = some (.int .i64 c.1) ∧ w'.cell? ⟨w.heap.size, 5, none⟩ = some (.int .i64 c.2) ∧
      w'.cell? ⟨w.heap.size + 1, 0, none⟩ = some (.int .i64 i) ∧ w'.cell? ⟨w.heap.size + 2, 0, none⟩ = some (.int .i64 n) ∧
      w'.cell? ⟨w.heap.size + 3, 0, none⟩ = some (.int .i64 0) ∧ w'.cell? ⟨w.heap.size + 3, 1, none⟩ = some (.int .i64 0) ∧
      w'.frozen? ⟨w.heap.size + 3, 0, none⟩ = false ∧ w'.frozen? ⟨w.heap.size + 3, 1, none⟩ = false := fun w' h => by
    have e1 : Ext (w.alloc (.cells #[.int .i64 a.1, .int .i64 a.2, .int .i64 b.1, .int .i64 b.2, .int .i64 c.1, .int .i64 c.2] 37)) w' := ((((Ext.refl _).alloc _).alloc _).alloc _).trans h
    have e2 : Ext ((w.alloc (.cells #[.int .i64 a.1, .int .i64 a.2, .int .i64 b.1, .int .i64 b.2, .int .i64 c.1, .int .i64 c.2] 37)).alloc (.cells #[.int .i64 i] 3)) w' := (((Ext.refl _).alloc _).alloc _).trans h
    have e3 : Ext (((w.alloc (.cells #[.int .i64 a.1, .int .i64 a.2, .int .i64 b.1, .int .i64 b.2, .int .i64 c.1, .int .i64 c.2] 37)).alloc (.cells #[.int .i64 i] 3)).alloc (.cells #[.int .i64 n] 3)) w' := ((Ext.refl _).alloc _).trans h
    exact ⟨e1.get (by simp), e1.get (by simp), e1.get (by simp), e1.get (by simp), e1.get (by simp), e1.get (by simp), e2.get (by simp), e3.get (by rw [World.cell?_alloc_at _ _ _ _ (by simp)]; rfl), h.get (by rw [World.cell?_alloc_at _ _ _ _ (by simp)]; rfl), h.get (by rw [World.cell?_alloc_at _ _ _ _ (by simp)]; rfl), (h.frozen (by simp)).trans (World.frozen?_alloc_at _ _ _ _ (by simp)), (h.frozen (by simp)).trans (World.frozen?_alloc_at _ _ _ _ (by simp))⟩
  have HP := zH (fun w' h => have q := g w' h; pts3 q.1 q.2.1 q.2.2.1 q.2.2.2.1 q.2.2.2.2.1 q.2.2.2.2.2.1)
  by_cases hm : MayB [a, b, c] i n = true
  · have hv : quadAtV a b c i n = (qv i n a.1 b.1 c.1, qv i n a.2 b.2 c.2) := by unfold quadAtV; rw [if_pos hm]
    rw [hv]
    clear hv
    have ho : okAll [a, b, c] = true ∧ parV i n = true := by unfold MayB at hm; simpa using hm
    have bi := (parV_iff i n).1 ho.2
    have hb : ((-1048576 ≤ a.1 ∧ a.1 ≤ 1048576) ∧ -1048576 ≤ a.2 ∧ a.2 ≤ 1048576) ∧ ((-1048576 ≤ b.1 ∧ b.1 ≤ 1048576) ∧ -1048576 ≤ b.2 ∧ b.2 ≤ 1048576) ∧ ((-1048576 ≤ c.1 ∧ c.1 ≤ 1048576) ∧ -1048576 ≤ c.2 ∧ c.2 ≤ 1048576) := by
      simpa [okAll, okPt_iff] using ho.1
    have HB := zH hb
    clear hb ho
    go_enter Try.func11, Try.ntmps11
    go_wp2_with fail
    go_region_held3 (fun w' => Ext ((((w.alloc (.cells #[.int .i64 a.1, .int .i64 a.2, .int .i64 b.1, .int .i64 b.2, .int .i64 c.1, .int .i64 c.2] 37)).alloc (.cells #[.int .i64 i] 3)).alloc (.cells #[.int .i64 n] 3)).alloc (.cells #[.int .i64 0, .int .i64 0] 33)) w') (first | assumption | exact Ext.drew (Ext.refl _) | (apply Ext.via; assumption; assumption))
      (first | (go_at_call 23; refine (may_len 3 w.heap.size 0 3 [a, b, c] i n _ rfl (by omega) (HP.out _ (by assumption))).mono ?_; rintro e w' ⟨rfl, hb⟩))
    have hne : w.heap.size + 3 < w'.heap.size := by have := Ext.size (by assumption : Ext ((((w.alloc (.cells #[.int .i64 a.1, .int .i64 a.2, .int .i64 b.1, .int .i64 b.2, .int .i64 c.1, .int .i64 c.2] 37)).alloc (.cells #[.int .i64 i] 3)).alloc (.cells #[.int .i64 n] 3)).alloc (.cells #[.int .i64 0, .int .i64 0] 33)) w'); simp at this; omega
    have hne1 : ¬ w'.heap.size = w.heap.size + 3 := by omega
    have hne2 : ¬ w.heap.size + 3 = w'.heap.size := by omega
    go_wp2_with fail
    have gk := g _ (by assumption : Ext ((((w.alloc (.cells #[.int .i64 a.1, .int .i64 a.2, .int .i64 b.1, .int .i64 b.2, .int .i64 c.1, .int .i64 c.2] 37)).alloc (.cells #[.int .i64 i] 3)).alloc (.cells #[.int .i64 n] 3)).alloc (.cells #[.int .i64 0, .int .i64 0] 33)) w')
    have g2 : ∀ x, Own (w.heap.size + 3) w' x → x.cell? ⟨w.heap.size, 0, none⟩ = some (.int .i64 a.1) ∧ x.cell? ⟨w.heap.size, 1, none⟩ = some (.int .i64 a.2) ∧ x.cell? ⟨w.heap.size, 2, none⟩ = some (.int .i64 b.1) ∧
      x.cell? ⟨w.heap.size, 3, none⟩ = some (.int .i64 b.2) ∧ x.cell? ⟨w.heap.size, 4, none⟩ = some (.int .i64 c.1) ∧ x.cell? ⟨w.heap.size, 5, none⟩ = some (.int .i64 c.2) ∧
      x.cell? ⟨w.heap.size + 1, 0, none⟩ = some (.int .i64 i) ∧ x.cell? ⟨w.heap.size + 2, 0, none⟩ = some (.int .i64 n) := fun x h => by
      obtain ⟨k0, k1, k2, k3, k4, k5, k6, k7, _⟩ := gk
      exact ⟨h.get k0 (by simp), h.get k1 (by simp), h.get k2 (by simp), h.get k3 (by simp), h.get k4 (by simp), h.get k5 (by simp), h.get k6 (by simp), h.get k7 (by simp)⟩
    go_region_held3 (fun x => Own (w.heap.size + 3) w' x ∧ x.cell? ⟨w'.heap.size, 0, none⟩ = some (.int .i64 (n - i))) (first | assumption | (refine ⟨?_, ?_⟩ <;> (first | ((repeat (first | exact Own.refl _ _ | apply Own.drew | apply Own.alloc | apply Own.set_at)); done) | (simp; done) | (refine (cell_last _ _ _ _ _ (by simp [World.setCell])).trans rfl))))
      (first | (go_at_call 24; go_split_ands; refine (quadAt1_any i (n - i) n _ _ _ _ _ _ _ (by omega) (by omega) (by omega) ?_ ?_ ?_ (by simp [*]) (by simp [*]) (by simp [*])).mono ?_ <;> (first | (rintro e w' ⟨rfl, rfl⟩) | (have hb := HB.out; omega))))
    go_wp2_with fail
    refine bodyPost_ret (v := .agg #[.int .i64 (qv i n a.1 b.1 c.1), .int .i64 (qv i n a.2 b.2 c.2)]) ?_ rfl ⟨rfl, ?_⟩
    · unfold qv
      simp [results, Try.results11, go_sem, *]
    · refine Ext.drew (Ext.alloc (Ext.setCell (Ext.setCell ?_ (by simp; omega) _) (by simp; omega) _) _)
      exact ((Ext.refl w).alloc _ |>.alloc _ |>.alloc _ |>.alloc _ |>.drew).trans hb
  · have hv : quadAtV a b c i n = (0, 0) := by unfold quadAtV; rw [if_neg hm]
    rw [hv]
    clear hv
    have hmf : MayB [a, b, c] i n = false := by simpa using hm
    clear hm
    go_enter Try.func11, Try.ntmps11
    go_wp2_with fail
    go_region_held3 (fun w' => Ext ((((w.alloc (.cells #[.int .i64 a.1, .int .i64 a.2, .int .i64 b.1, .int .i64 b.2, .int .i64 c.1, .int .i64 c.2] 37)).alloc (.cells #[.int .i64 i] 3)).alloc (.cells #[.int .i64 n] 3)).alloc (.cells #[.int .i64 0, .int .i64 0] 33)) w') (first | assumption | exact Ext.drew (Ext.refl _) | (apply Ext.via; assumption; assumption))
      (first | (go_at_call 23; refine (may_len 3 w.heap.size 0 3 [a, b, c] i n _ rfl (by omega) (HP.out _ (by assumption))).mono ?_; rintro e w' ⟨rfl, hb⟩))
    go_wp2_with fail
    refine bodyPost_ret (v := .agg #[.int .i64 0, .int .i64 0]) ?_ rfl ⟨rfl, ?_⟩
    · simp [results, Try.results11, go_sem, *]
    · exact ((Ext.refl w).alloc _ |>.alloc _ |>.alloc _ |>.alloc _ |>.trans (by assumption)).setCell (by simp; omega) _ |>.setCell (by simp; omega) _
end Go.Proofs.Ytjkddchkjkocbaa

namespace Go.Proofs.Ytjkddchkjkocbaa
open Go.RowKit
attribute [local go_sem ↓] Go.wp_at_zero Go.wp_at_succ run_eql_point run_neq_point run_max_ii run_min_ii

def cv (i n a b c d : Int) : Int := nearV ((n - i) * (n - i) * (n - i) * a + 3 * i * (n - i) * (n - i) * b + 3 * i * i * (n - i) * c + i * i * i * d) (n * n * n)

theorem cbounds (i k n a b c d : Int) (hi : 0 ≤ i ∧ i ≤ 64) (hk : 0 ≤ k ∧ k ≤ 64) (hn : 1 ≤ n ∧ n ≤ 64) (ha : -1048576 ≤ a ∧ a ≤ 1048576) (hb : -1048576 ≤ b ∧ b ≤ 1048576) (hc : -1048576 ≤ c ∧ c ≤ 1048576) (hd : -1048576 ≤ d ∧ d ≤ 1048576) :
    (0 ≤ k * k ∧ k * k ≤ 4096) ∧ (0 ≤ k * k * k ∧ k * k * k ≤ 262144) ∧ (-274877906944 ≤ k * k * k * a ∧ k * k * k * a ≤ 274877906944) ∧
    (0 ≤ 3 * i * k ∧ 3 * i * k ≤ 12288) ∧ (0 ≤ 3 * i * k * k ∧ 3 * i * k * k ≤ 786432) ∧ (-824633720832 ≤ 3 * i * k * k * b ∧ 3 * i * k * k * b ≤ 824633720832) ∧
    (0 ≤ 3 * i * i ∧ 3 * i * i ≤ 12288) ∧ (0 ≤ 3 * i * i * k ∧ 3 * i * i * k ≤ 786432) ∧ (-824633720832 ≤ 3 * i * i * k * c ∧ 3 * i * i * k * c ≤ 824633720832) ∧
    (0 ≤ i * i ∧ i * i ≤ 4096) ∧ (0 ≤ i * i * i ∧ i * i * i ≤ 262144) ∧ (-274877906944 ≤ i * i * i * d ∧ i * i * i * d ≤ 274877906944) ∧ (1 ≤ n * n ∧ n * n ≤ 4096) ∧ (1 ≤ n * n * n ∧ n * n * n ≤ 262144) := by
  have mb : ∀ x y A B : Int, 0 ≤ x → x ≤ A → 0 ≤ y → y ≤ B → 0 ≤ x * y ∧ x * y ≤ A * B := fun x y A B hx hA hy hB =>
    ⟨Int.mul_nonneg hx hy, Int.mul_le_mul hA hB hy (by omega)⟩
  have k2 := mb k k 64 64 hk.1 hk.2 hk.1 hk.2
  have k3 := mb (k * k) k 4096 64 k2.1 (by omega) hk.1 hk.2
  have i2 := mb i i 64 64 hi.1 hi.2 hi.1 hi.2
  have i3 := mb (i * i) i 4096 64 i2.1 (by omega) hi.1 hi.2
  have n2 := mb n n 64 64 (by omega) hn.2 (by omega) hn.2
  have n3 := mb (n * n) n 4096 64 n2.1 (by omega) (by omega) hn.2
  have a1 := mb (3 * i) k 192 64 (by omega) (by omega) hk.1 hk.2
  have a2 := mb (3 * i * k) k 12288 64 a1.1 (by omega) hk.1 hk.2
  have c1 := mb (3 * i) i 192 64 (by omega) (by omega) hi.1 hi.2
  have c2 := mb (3 * i * i) k 12288 64 c1.1 (by omega) hk.1 hk.2
  have m1 := mulB (k * k * k) a 262144 1048576 (by omega) (by omega) ha.1 ha.2
  have m2 := mulB (3 * i * k * k) b 786432 1048576 (by omega) (by omega) hb.1 hb.2
  have m3 := mulB (3 * i * i * k) c 786432 1048576 (by omega) (by omega) hc.1 hc.2
  have m4 := mulB (i * i * i) d 262144 1048576 (by omega) (by omega) hd.1 hd.2
  have n4 : 1 * 1 ≤ n * n := Int.mul_le_mul hn.1 hn.1 (by omega) (by omega)
  have n5 : 1 * 1 ≤ n * n * n := Int.mul_le_mul (by omega) hn.1 (by omega) (by omega)
  omega

theorem cubicAt1_any (i k n a b c d : Int) (pk pi pn : Addr) (w : World) (hi : 0 ≤ i ∧ i ≤ 64) (hk : 0 ≤ k ∧ k ≤ 64) (hn : 1 ≤ n ∧ n ≤ 64) (ha : -1048576 ≤ a ∧ a ≤ 1048576) (hb : -1048576 ≤ b ∧ b ≤ 1048576) (hc : -1048576 ≤ c ∧ c ≤ 1048576) (hd : -1048576 ≤ d ∧ d ≤ 1048576)
    (ck : w.cell? pk = some (.int .i64 k)) (ci : w.cell? pi = some (.int .i64 i)) (cn : w.cell? pn = some (.int .i64 n)) :
    Calls Try.prog 42 #[.int .i64 a, .int .i64 b, .int .i64 c, .int .i64 d, .pointer (some pk), .pointer (some pi), .pointer (some pn)] w fun e w' =>
      e = .returned (.int .i64 (nearV (k * k * k * a + 3 * i * k * k * b + 3 * i * i * k * c + i * i * i * d) (n * n * n))) ∧ w = w' := by
  have B := cbounds i k n a b c d hi hk hn ha hb hc hd
  clear ha hb hc hd
  go_enter Try.func42, Try.ntmps42
  go_wp2_with (go_at_call 25; refine (near_any _ _ _ (by omega) (by omega) (by omega) (by omega)).mono ?_; rintro e w' ⟨rfl, rfl⟩)
  go_ret
  exact ⟨rfl, rfl⟩

def cubicAtV (a b c d : Int × Int) (i n : Int) : Int × Int := if MayB [a, b, c, d] i n = true then (cv i n a.1 b.1 c.1 d.1, cv i n a.2 b.2 c.2 d.2) else (0, 0)

set_option maxHeartbeats 1000000 in
theorem cubicAt_any (a b c d : Int × Int) (i n : Int) (w : World) :
    Calls Try.prog 37 #[.agg #[.int .i64 a.1, .int .i64 a.2, .int .i64 b.1, .int .i64 b.2, .int .i64 c.1, .int .i64 c.2, .int .i64 d.1, .int .i64 d.2], .int .i64 i, .int .i64 n] w fun e w' =>
      e = .returned (.agg #[.int .i64 (cubicAtV a b c d i n).1, .int .i64 (cubicAtV a b c d i n).2]) ∧ Ext w w' := by
  have g : ∀ w', Ext ((((w.alloc (.cells #[.int .i64 a.1, .int .i64 a.2, .int .i64 b.1, .int .i64 b.2, .int .i64 c.1, .int .i64 c.2, .int .i64 d.1, .int .i64 d.2] 64)).alloc (.cells #[.int .i64 i] 3)).alloc (.cells #[.int .i64 n] 3)).alloc (.cells #[.int .i64 0, .int .i64 0] 33)) w' →
      w'.cell? ⟨w.heap.size, 0, none⟩ = some (.int .i64 a.1) ∧ w'.cell? ⟨w.heap.size, 1, none⟩ = some (.int .i64 a.2) ∧ w'.cell? ⟨w.heap.size, 2, none⟩ = some (.int .i64 b.1) ∧
      w'.cell? ⟨w.heap.size, 3, none⟩ = some (.int .i64 b.2) ∧ w'.cell? ⟨w.heap.size, 4, none⟩ = some (.int .i64 c.1) ∧ w'.cell? ⟨w.heap.size, 5, none⟩ = some (.int .i64 c.2) ∧ w'.cell? ⟨w.heap.size, 6, none⟩ = some (.int .i64 d.1) ∧ w'.cell? ⟨w.heap.size, 7, none⟩ = some (.int .i64 d.2) ∧
      w'.cell? ⟨w.heap.size + 1, 0, none⟩ = some (.int .i64 i) ∧ w'.cell? ⟨w.heap.size + 2, 0, none⟩ = some (.int .i64 n) ∧
      w'.cell? ⟨w.heap.size + 3, 0, none⟩ = some (.int .i64 0) ∧ w'.cell? ⟨w.heap.size + 3, 1, none⟩ = some (.int .i64 0) ∧
      w'.frozen? ⟨w.heap.size + 3, 0, none⟩ = false ∧ w'.frozen? ⟨w.heap.size + 3, 1, none⟩ = false := fun w' h => by
    have e1 : Ext (w.alloc (.cells #[.int .i64 a.1, .int .i64 a.2, .int .i64 b.1, .int .i64 b.2, .int .i64 c.1, .int .i64 c.2, .int .i64 d.1, .int .i64 d.2] 64)) w' := ((((Ext.refl _).alloc _).alloc _).alloc _).trans h
    have e2 : Ext ((w.alloc (.cells #[.int .i64 a.1, .int .i64 a.2, .int .i64 b.1, .int .i64 b.2, .int .i64 c.1, .int .i64 c.2, .int .i64 d.1, .int .i64 d.2] 64)).alloc (.cells #[.int .i64 i] 3)) w' := (((Ext.refl _).alloc _).alloc _).trans h
    have e3 : Ext (((w.alloc (.cells #[.int .i64 a.1, .int .i64 a.2, .int .i64 b.1, .int .i64 b.2, .int .i64 c.1, .int .i64 c.2, .int .i64 d.1, .int .i64 d.2] 64)).alloc (.cells #[.int .i64 i] 3)).alloc (.cells #[.int .i64 n] 3)) w' := ((Ext.refl _).alloc _).trans h
    exact ⟨e1.get (by simp), e1.get (by simp), e1.get (by simp), e1.get (by simp), e1.get (by simp), e1.get (by simp), e1.get (by simp), e1.get (by simp), e2.get (by simp), e3.get (by rw [World.cell?_alloc_at _ _ _ _ (by simp)]; rfl), h.get (by rw [World.cell?_alloc_at _ _ _ _ (by simp)]; rfl), h.get (by rw [World.cell?_alloc_at _ _ _ _ (by simp)]; rfl), (h.frozen (by simp)).trans (World.frozen?_alloc_at _ _ _ _ (by simp)), (h.frozen (by simp)).trans (World.frozen?_alloc_at _ _ _ _ (by simp))⟩
  have HP := zH (fun w' h => have q := g w' h; pts4 q.1 q.2.1 q.2.2.1 q.2.2.2.1 q.2.2.2.2.1 q.2.2.2.2.2.1 q.2.2.2.2.2.2.1 q.2.2.2.2.2.2.2.1)
  by_cases hm : MayB [a, b, c, d] i n = true
  · have hv : cubicAtV a b c d i n = (cv i n a.1 b.1 c.1 d.1, cv i n a.2 b.2 c.2 d.2) := by unfold cubicAtV; rw [if_pos hm]
    rw [hv]
    clear hv
    have ho : okAll [a, b, c, d] = true ∧ parV i n = true := by unfold MayB at hm; simpa using hm
    have bi := (parV_iff i n).1 ho.2
    have hb : ((-1048576 ≤ a.1 ∧ a.1 ≤ 1048576) ∧ -1048576 ≤ a.2 ∧ a.2 ≤ 1048576) ∧ ((-1048576 ≤ b.1 ∧ b.1 ≤ 1048576) ∧ -1048576 ≤ b.2 ∧ b.2 ≤ 1048576) ∧ ((-1048576 ≤ c.1 ∧ c.1 ≤ 1048576) ∧ -1048576 ≤ c.2 ∧ c.2 ≤ 1048576) ∧ ((-1048576 ≤ d.1 ∧ d.1 ≤ 1048576) ∧ -1048576 ≤ d.2 ∧ d.2 ≤ 1048576) := by
      simpa [okAll, okPt_iff] using ho.1
    have HB := zH hb
    clear hb ho
    go_enter Try.func37, Try.ntmps37
    go_wp2_with fail
    go_region_held3 (fun w' => Ext ((((w.alloc (.cells #[.int .i64 a.1, .int .i64 a.2, .int .i64 b.1, .int .i64 b.2, .int .i64 c.1, .int .i64 c.2, .int .i64 d.1, .int .i64 d.2] 64)).alloc (.cells #[.int .i64 i] 3)).alloc (.cells #[.int .i64 n] 3)).alloc (.cells #[.int .i64 0, .int .i64 0] 33)) w') (first | assumption | exact Ext.drew (Ext.refl _) | (apply Ext.via; assumption; assumption))
      (first | (go_at_call 23; refine (may_len 4 w.heap.size 0 4 [a, b, c, d] i n _ rfl (by omega) (HP.out _ (by assumption))).mono ?_; rintro e w' ⟨rfl, hb⟩))
    have hne : w.heap.size + 3 < w'.heap.size := by have := Ext.size (by assumption : Ext ((((w.alloc (.cells #[.int .i64 a.1, .int .i64 a.2, .int .i64 b.1, .int .i64 b.2, .int .i64 c.1, .int .i64 c.2, .int .i64 d.1, .int .i64 d.2] 64)).alloc (.cells #[.int .i64 i] 3)).alloc (.cells #[.int .i64 n] 3)).alloc (.cells #[.int .i64 0, .int .i64 0] 33)) w'); simp at this; omega
    have hne1 : ¬ w'.heap.size = w.heap.size + 3 := by omega
    have hne2 : ¬ w.heap.size + 3 = w'.heap.size := by omega
    go_wp2_with fail
    have gk := g _ (by assumption : Ext ((((w.alloc (.cells #[.int .i64 a.1, .int .i64 a.2, .int .i64 b.1, .int .i64 b.2, .int .i64 c.1, .int .i64 c.2, .int .i64 d.1, .int .i64 d.2] 64)).alloc (.cells #[.int .i64 i] 3)).alloc (.cells #[.int .i64 n] 3)).alloc (.cells #[.int .i64 0, .int .i64 0] 33)) w')
    have g2 : ∀ x, Own (w.heap.size + 3) w' x → x.cell? ⟨w.heap.size, 0, none⟩ = some (.int .i64 a.1) ∧ x.cell? ⟨w.heap.size, 1, none⟩ = some (.int .i64 a.2) ∧ x.cell? ⟨w.heap.size, 2, none⟩ = some (.int .i64 b.1) ∧
      x.cell? ⟨w.heap.size, 3, none⟩ = some (.int .i64 b.2) ∧ x.cell? ⟨w.heap.size, 4, none⟩ = some (.int .i64 c.1) ∧ x.cell? ⟨w.heap.size, 5, none⟩ = some (.int .i64 c.2) ∧ x.cell? ⟨w.heap.size, 6, none⟩ = some (.int .i64 d.1) ∧ x.cell? ⟨w.heap.size, 7, none⟩ = some (.int .i64 d.2) ∧
      x.cell? ⟨w.heap.size + 1, 0, none⟩ = some (.int .i64 i) ∧ x.cell? ⟨w.heap.size + 2, 0, none⟩ = some (.int .i64 n) := fun x h => by
      obtain ⟨k0, k1, k2, k3, k4, k5, k6, k7, k8, k9, _⟩ := gk
      exact ⟨h.get k0 (by simp), h.get k1 (by simp), h.get k2 (by simp), h.get k3 (by simp), h.get k4 (by simp), h.get k5 (by simp), h.get k6 (by simp), h.get k7 (by simp), h.get k8 (by simp), h.get k9 (by simp)⟩
    go_region_held3 (fun x => Own (w.heap.size + 3) w' x ∧ x.cell? ⟨w'.heap.size, 0, none⟩ = some (.int .i64 (n - i))) (first | assumption | (refine ⟨?_, ?_⟩ <;> (first | ((repeat (first | exact Own.refl _ _ | apply Own.drew | apply Own.alloc | apply Own.set_at)); done) | (simp; done) | (refine (cell_last _ _ _ _ _ (by simp [World.setCell])).trans rfl))))
      (first | (go_at_call 42; go_split_ands; refine (cubicAt1_any i (n - i) n _ _ _ _ _ _ _ _ (by omega) (by omega) (by omega) ?_ ?_ ?_ ?_ (by simp [*]) (by simp [*]) (by simp [*])).mono ?_ <;> (first | (rintro e w' ⟨rfl, rfl⟩) | (have hb := HB.out; omega))))
    go_wp2_with fail
    refine bodyPost_ret (v := .agg #[.int .i64 (cv i n a.1 b.1 c.1 d.1), .int .i64 (cv i n a.2 b.2 c.2 d.2)]) ?_ rfl ⟨rfl, ?_⟩
    · unfold cv
      simp [results, Try.results37, go_sem, *]
    · refine Ext.drew (Ext.alloc (Ext.setCell (Ext.setCell ?_ (by simp; omega) _) (by simp; omega) _) _)
      exact ((Ext.refl w).alloc _ |>.alloc _ |>.alloc _ |>.alloc _ |>.drew).trans hb
  · have hv : cubicAtV a b c d i n = (0, 0) := by unfold cubicAtV; rw [if_neg hm]
    rw [hv]
    clear hv
    have hmf : MayB [a, b, c, d] i n = false := by simpa using hm
    clear hm
    go_enter Try.func37, Try.ntmps37
    go_wp2_with fail
    go_region_held3 (fun w' => Ext ((((w.alloc (.cells #[.int .i64 a.1, .int .i64 a.2, .int .i64 b.1, .int .i64 b.2, .int .i64 c.1, .int .i64 c.2, .int .i64 d.1, .int .i64 d.2] 64)).alloc (.cells #[.int .i64 i] 3)).alloc (.cells #[.int .i64 n] 3)).alloc (.cells #[.int .i64 0, .int .i64 0] 33)) w') (first | assumption | exact Ext.drew (Ext.refl _) | (apply Ext.via; assumption; assumption))
      (first | (go_at_call 23; refine (may_len 4 w.heap.size 0 4 [a, b, c, d] i n _ rfl (by omega) (HP.out _ (by assumption))).mono ?_; rintro e w' ⟨rfl, hb⟩))
    go_wp2_with fail
    refine bodyPost_ret (v := .agg #[.int .i64 0, .int .i64 0]) ?_ rfl ⟨rfl, ?_⟩
    · simp [results, Try.results37, go_sem, *]
    · exact ((Ext.refl w).alloc _ |>.alloc _ |>.alloc _ |>.alloc _ |>.trans (by assumption)).setCell (by simp; omega) _ |>.setCell (by simp; omega) _
end Go.Proofs.Ytjkddchkjkocbaa

namespace Go.Proofs.Ytjkddchkjkocbaa
open Go.RowKit
attribute [local go_sem ↓] Go.wp_at_zero Go.wp_at_succ run_eql_point run_neq_point run_max_ii run_min_ii

theorem allValid_len (l b off cap : Nat) (ps : List (Int × Int)) (w : World) (hl : ps.length = l) (hn : l ≤ 4096) (hp : PtsAt w b off ps) :
    Calls Try.prog 54 #[.slice (some ⟨b, off, none⟩) l cap] w fun e w' => e = .returned (.bool (okAll ps)) ∧ Ext w w' := by
  subst hl
  exact allValid_any b off cap ps w hn hp

set_option maxHeartbeats 1000000 in
theorem rquadAt_any (a b c : Int × Int) (i n : Int) (w : World) :
    Calls Try.prog 48 #[.agg #[.int .i64 a.1, .int .i64 a.2, .int .i64 b.1, .int .i64 b.2, .int .i64 c.1, .int .i64 c.2], .int .i64 i, .int .i64 n] w fun e w' =>
      e = .returned (.agg #[.int .i64 (quadAtV a b c i n).1, .int .i64 (quadAtV a b c i n).2]) ∧ Ext w w' := by
  have g : ∀ w', Ext ((w.alloc (.cells #[.int .i64 a.1, .int .i64 a.2, .int .i64 b.1, .int .i64 b.2, .int .i64 c.1, .int .i64 c.2] 37)).alloc (.cells #[.int .i64 0, .int .i64 0] 33)) w' → w'.cell? ⟨w.heap.size, 0, none⟩ = some (.int .i64 a.1) ∧ w'.cell? ⟨w.heap.size, 1, none⟩ = some (.int .i64 a.2) ∧ w'.cell? ⟨w.heap.size, 2, none⟩ = some (.int .i64 b.1) ∧ w'.cell? ⟨w.heap.size, 3, none⟩ = some (.int .i64 b.2) ∧ w'.cell? ⟨w.heap.size, 4, none⟩ = some (.int .i64 c.1) ∧ w'.cell? ⟨w.heap.size, 5, none⟩ = some (.int .i64 c.2) ∧ w'.cell? ⟨w.heap.size + 1, 0, none⟩ = some (.int .i64 0) ∧ w'.cell? ⟨w.heap.size + 1, 1, none⟩ = some (.int .i64 0) ∧
      w'.frozen? ⟨w.heap.size + 1, 0, none⟩ = false ∧ w'.frozen? ⟨w.heap.size + 1, 1, none⟩ = false := fun w' h => by
    have e1 : Ext (w.alloc (.cells #[.int .i64 a.1, .int .i64 a.2, .int .i64 b.1, .int .i64 b.2, .int .i64 c.1, .int .i64 c.2] 37)) w' := ((Ext.refl _).alloc _).trans h
    exact ⟨e1.get (by simp), e1.get (by simp), e1.get (by simp), e1.get (by simp), e1.get (by simp), e1.get (by simp), h.get (by simp), h.get (by simp), (h.frozen (by simp)).trans (World.frozen?_alloc_at _ _ _ _ (by simp)), (h.frozen (by simp)).trans (World.frozen?_alloc_at _ _ _ _ (by simp))⟩
  have HG := zH g
  clear g
  by_cases hp : parV i n = true
  · by_cases hm : okAll [a, b, c] = true
    · have hv : quadAtV a b c i n = (qv i n a.1 b.1 c.1, qv i n a.2 b.2 c.2) := by unfold quadAtV MayB; rw [if_pos (by simp [hm, hp])]
      rw [hv]
      clear hv
      have bi := (parV_iff i n).1 hp
      have hb : ((-1048576 ≤ a.1 ∧ a.1 ≤ 1048576) ∧ -1048576 ≤ a.2 ∧ a.2 ≤ 1048576) ∧ ((-1048576 ≤ b.1 ∧ b.1 ≤ 1048576) ∧ -1048576 ≤ b.2 ∧ b.2 ≤ 1048576) ∧ ((-1048576 ≤ c.1 ∧ c.1 ≤ 1048576) ∧ -1048576 ≤ c.2 ∧ c.2 ≤ 1048576) := by
        simpa [okAll, okPt_iff] using hm
      have B1 := qbounds i (n - i) n a.1 b.1 c.1 (by omega) (by omega) (by omega) hb.1.1 hb.2.1.1 hb.2.2.1
      have B2 := qbounds i (n - i) n a.2 b.2 c.2 (by omega) (by omega) (by omega) hb.1.2 hb.2.1.2 hb.2.2.2
      clear hb
      go_enter Try.func48, Try.ntmps48
      go_wp2_with (first | (go_at_call 53; refine (par_any _ _ _).mono ?_; rintro e w' ⟨rfl, rfl⟩) | (go_at_call 54; refine (allValid_len 3 _ 0 3 [a, b, c] _ rfl (by omega) (pts3 ((cell_last _ _ _ _ _ (by simp)).trans rfl) ((cell_last _ _ _ _ _ (by simp)).trans rfl) ((cell_last _ _ _ _ _ (by simp)).trans rfl) ((cell_last _ _ _ _ _ (by simp)).trans rfl) ((cell_last _ _ _ _ _ (by simp)).trans rfl) ((cell_last _ _ _ _ _ (by simp)).trans rfl))).mono ?_; rintro e w' ⟨rfl, hb⟩; have gk := HG.out _ (((Ext.refl _).alloc _).trans hb)) | (go_at_call 55; refine (round_any _ _ _ (by omega) (by omega) (by omega) (by omega)).mono ?_; rintro e w' ⟨rfl, rfl⟩))
      refine bodyPost_ret (v := .agg #[.int .i64 (qv i n a.1 b.1 c.1), .int .i64 (qv i n a.2 b.2 c.2)]) ?_ rfl ⟨rfl, ?_⟩
      · unfold qv
        simp [results, Try.results48, go_sem, *]
      · exact Ext.setCell (Ext.setCell (((((Ext.refl _).alloc _).alloc _).alloc _).trans (by assumption)) (by simp) _) (by simp) _
    · have hv : quadAtV a b c i n = (0, 0) := by unfold quadAtV MayB; rw [if_neg (by simp [hm])]
      rw [hv]
      clear hv
      have hmf : okAll [a, b, c] = false := by simpa using hm
      clear hm
      go_enter Try.func48, Try.ntmps48
      go_wp2_with (first | (go_at_call 53; refine (par_any _ _ _).mono ?_; rintro e w' ⟨rfl, rfl⟩) | (go_at_call 54; refine (allValid_len 3 _ 0 3 [a, b, c] _ rfl (by omega) (pts3 ((cell_last _ _ _ _ _ (by simp)).trans rfl) ((cell_last _ _ _ _ _ (by simp)).trans rfl) ((cell_last _ _ _ _ _ (by simp)).trans rfl) ((cell_last _ _ _ _ _ (by simp)).trans rfl) ((cell_last _ _ _ _ _ (by simp)).trans rfl) ((cell_last _ _ _ _ _ (by simp)).trans rfl))).mono ?_; rintro e w' ⟨rfl, hb⟩; have gk := HG.out _ (((Ext.refl _).alloc _).trans hb)) | (go_at_call 55; refine (round_any _ _ _ (by omega) (by omega) (by omega) (by omega)).mono ?_; rintro e w' ⟨rfl, rfl⟩))
      refine bodyPost_ret (v := .agg #[.int .i64 0, .int .i64 0]) ?_ rfl ⟨rfl, ?_⟩
      · simp [results, Try.results48, go_sem, *]
      · exact Ext.setCell (Ext.setCell (((((Ext.refl _).alloc _).alloc _).alloc _).trans (by assumption)) (by simp) _) (by simp) _
  · have hv : quadAtV a b c i n = (0, 0) := by unfold quadAtV MayB; rw [if_neg (by simp [hp])]
    rw [hv]
    clear hv
    have hpf : parV i n = false := by simpa using hp
    clear hp
    go_enter Try.func48, Try.ntmps48
    go_wp2_with (first | (go_at_call 53; refine (par_any _ _ _).mono ?_; rintro e w' ⟨rfl, rfl⟩) | (go_at_call 54; refine (allValid_len 3 _ 0 3 [a, b, c] _ rfl (by omega) (pts3 ((cell_last _ _ _ _ _ (by simp)).trans rfl) ((cell_last _ _ _ _ _ (by simp)).trans rfl) ((cell_last _ _ _ _ _ (by simp)).trans rfl) ((cell_last _ _ _ _ _ (by simp)).trans rfl) ((cell_last _ _ _ _ _ (by simp)).trans rfl) ((cell_last _ _ _ _ _ (by simp)).trans rfl))).mono ?_; rintro e w' ⟨rfl, hb⟩; have gk := HG.out _ (((Ext.refl _).alloc _).trans hb)) | (go_at_call 55; refine (round_any _ _ _ (by omega) (by omega) (by omega) (by omega)).mono ?_; rintro e w' ⟨rfl, rfl⟩))
    refine bodyPost_ret (v := .agg #[.int .i64 0, .int .i64 0]) ?_ rfl ⟨rfl, ?_⟩
    · simp [results, Try.results48, go_sem, *]
    · exact ((Ext.refl _).alloc _).alloc _

set_option maxHeartbeats 1000000 in
theorem rcubicAt_any (a b c d : Int × Int) (i n : Int) (w : World) :
    Calls Try.prog 50 #[.agg #[.int .i64 a.1, .int .i64 a.2, .int .i64 b.1, .int .i64 b.2, .int .i64 c.1, .int .i64 c.2, .int .i64 d.1, .int .i64 d.2], .int .i64 i, .int .i64 n] w fun e w' =>
      e = .returned (.agg #[.int .i64 (cubicAtV a b c d i n).1, .int .i64 (cubicAtV a b c d i n).2]) ∧ Ext w w' := by
  have g : ∀ w', Ext ((w.alloc (.cells #[.int .i64 a.1, .int .i64 a.2, .int .i64 b.1, .int .i64 b.2, .int .i64 c.1, .int .i64 c.2, .int .i64 d.1, .int .i64 d.2] 64)).alloc (.cells #[.int .i64 0, .int .i64 0] 33)) w' → w'.cell? ⟨w.heap.size, 0, none⟩ = some (.int .i64 a.1) ∧ w'.cell? ⟨w.heap.size, 1, none⟩ = some (.int .i64 a.2) ∧ w'.cell? ⟨w.heap.size, 2, none⟩ = some (.int .i64 b.1) ∧ w'.cell? ⟨w.heap.size, 3, none⟩ = some (.int .i64 b.2) ∧ w'.cell? ⟨w.heap.size, 4, none⟩ = some (.int .i64 c.1) ∧ w'.cell? ⟨w.heap.size, 5, none⟩ = some (.int .i64 c.2) ∧ w'.cell? ⟨w.heap.size, 6, none⟩ = some (.int .i64 d.1) ∧ w'.cell? ⟨w.heap.size, 7, none⟩ = some (.int .i64 d.2) ∧ w'.cell? ⟨w.heap.size + 1, 0, none⟩ = some (.int .i64 0) ∧ w'.cell? ⟨w.heap.size + 1, 1, none⟩ = some (.int .i64 0) ∧
      w'.frozen? ⟨w.heap.size + 1, 0, none⟩ = false ∧ w'.frozen? ⟨w.heap.size + 1, 1, none⟩ = false := fun w' h => by
    have e1 : Ext (w.alloc (.cells #[.int .i64 a.1, .int .i64 a.2, .int .i64 b.1, .int .i64 b.2, .int .i64 c.1, .int .i64 c.2, .int .i64 d.1, .int .i64 d.2] 64)) w' := ((Ext.refl _).alloc _).trans h
    exact ⟨e1.get (by simp), e1.get (by simp), e1.get (by simp), e1.get (by simp), e1.get (by simp), e1.get (by simp), e1.get (by simp), e1.get (by simp), h.get (by simp), h.get (by simp), (h.frozen (by simp)).trans (World.frozen?_alloc_at _ _ _ _ (by simp)), (h.frozen (by simp)).trans (World.frozen?_alloc_at _ _ _ _ (by simp))⟩
  have HG := zH g
  clear g
  by_cases hp : parV i n = true
  · by_cases hm : okAll [a, b, c, d] = true
    · have hv : cubicAtV a b c d i n = (cv i n a.1 b.1 c.1 d.1, cv i n a.2 b.2 c.2 d.2) := by unfold cubicAtV MayB; rw [if_pos (by simp [hm, hp])]
      rw [hv]
      clear hv
      have bi := (parV_iff i n).1 hp
      have hb : ((-1048576 ≤ a.1 ∧ a.1 ≤ 1048576) ∧ -1048576 ≤ a.2 ∧ a.2 ≤ 1048576) ∧ ((-1048576 ≤ b.1 ∧ b.1 ≤ 1048576) ∧ -1048576 ≤ b.2 ∧ b.2 ≤ 1048576) ∧ ((-1048576 ≤ c.1 ∧ c.1 ≤ 1048576) ∧ -1048576 ≤ c.2 ∧ c.2 ≤ 1048576) ∧ ((-1048576 ≤ d.1 ∧ d.1 ≤ 1048576) ∧ -1048576 ≤ d.2 ∧ d.2 ≤ 1048576) := by
        simpa [okAll, okPt_iff] using hm
      have B1 := cbounds i (n - i) n a.1 b.1 c.1 d.1 (by omega) (by omega) (by omega) hb.1.1 hb.2.1.1 hb.2.2.1.1 hb.2.2.2.1
      have B2 := cbounds i (n - i) n a.2 b.2 c.2 d.2 (by omega) (by omega) (by omega) hb.1.2 hb.2.1.2 hb.2.2.1.2 hb.2.2.2.2
      clear hb
      go_enter Try.func50, Try.ntmps50
      go_wp2_with (first | (go_at_call 53; refine (par_any _ _ _).mono ?_; rintro e w' ⟨rfl, rfl⟩) | (go_at_call 54; refine (allValid_len 4 _ 0 4 [a, b, c, d] _ rfl (by omega) (pts4 ((cell_last _ _ _ _ _ (by simp)).trans rfl) ((cell_last _ _ _ _ _ (by simp)).trans rfl) ((cell_last _ _ _ _ _ (by simp)).trans rfl) ((cell_last _ _ _ _ _ (by simp)).trans rfl) ((cell_last _ _ _ _ _ (by simp)).trans rfl) ((cell_last _ _ _ _ _ (by simp)).trans rfl) ((cell_last _ _ _ _ _ (by simp)).trans rfl) ((cell_last _ _ _ _ _ (by simp)).trans rfl))).mono ?_; rintro e w' ⟨rfl, hb⟩; have gk := HG.out _ (((Ext.refl _).alloc _).trans hb)) | (go_at_call 55; refine (round_any _ _ _ (by omega) (by omega) (by omega) (by omega)).mono ?_; rintro e w' ⟨rfl, rfl⟩))
      refine bodyPost_ret (v := .agg #[.int .i64 (cv i n a.1 b.1 c.1 d.1), .int .i64 (cv i n a.2 b.2 c.2 d.2)]) ?_ rfl ⟨rfl, ?_⟩
      · unfold cv
        simp [results, Try.results50, go_sem, *]
      · exact Ext.setCell (Ext.setCell (((((Ext.refl _).alloc _).alloc _).alloc _).trans (by assumption)) (by simp) _) (by simp) _
    · have hv : cubicAtV a b c d i n = (0, 0) := by unfold cubicAtV MayB; rw [if_neg (by simp [hm])]
      rw [hv]
      clear hv
      have hmf : okAll [a, b, c, d] = false := by simpa using hm
      clear hm
      go_enter Try.func50, Try.ntmps50
      go_wp2_with (first | (go_at_call 53; refine (par_any _ _ _).mono ?_; rintro e w' ⟨rfl, rfl⟩) | (go_at_call 54; refine (allValid_len 4 _ 0 4 [a, b, c, d] _ rfl (by omega) (pts4 ((cell_last _ _ _ _ _ (by simp)).trans rfl) ((cell_last _ _ _ _ _ (by simp)).trans rfl) ((cell_last _ _ _ _ _ (by simp)).trans rfl) ((cell_last _ _ _ _ _ (by simp)).trans rfl) ((cell_last _ _ _ _ _ (by simp)).trans rfl) ((cell_last _ _ _ _ _ (by simp)).trans rfl) ((cell_last _ _ _ _ _ (by simp)).trans rfl) ((cell_last _ _ _ _ _ (by simp)).trans rfl))).mono ?_; rintro e w' ⟨rfl, hb⟩; have gk := HG.out _ (((Ext.refl _).alloc _).trans hb)) | (go_at_call 55; refine (round_any _ _ _ (by omega) (by omega) (by omega) (by omega)).mono ?_; rintro e w' ⟨rfl, rfl⟩))
      refine bodyPost_ret (v := .agg #[.int .i64 0, .int .i64 0]) ?_ rfl ⟨rfl, ?_⟩
      · simp [results, Try.results50, go_sem, *]
      · exact Ext.setCell (Ext.setCell (((((Ext.refl _).alloc _).alloc _).alloc _).trans (by assumption)) (by simp) _) (by simp) _
  · have hv : cubicAtV a b c d i n = (0, 0) := by unfold cubicAtV MayB; rw [if_neg (by simp [hp])]
    rw [hv]
    clear hv
    have hpf : parV i n = false := by simpa using hp
    clear hp
    go_enter Try.func50, Try.ntmps50
    go_wp2_with (first | (go_at_call 53; refine (par_any _ _ _).mono ?_; rintro e w' ⟨rfl, rfl⟩) | (go_at_call 54; refine (allValid_len 4 _ 0 4 [a, b, c, d] _ rfl (by omega) (pts4 ((cell_last _ _ _ _ _ (by simp)).trans rfl) ((cell_last _ _ _ _ _ (by simp)).trans rfl) ((cell_last _ _ _ _ _ (by simp)).trans rfl) ((cell_last _ _ _ _ _ (by simp)).trans rfl) ((cell_last _ _ _ _ _ (by simp)).trans rfl) ((cell_last _ _ _ _ _ (by simp)).trans rfl) ((cell_last _ _ _ _ _ (by simp)).trans rfl) ((cell_last _ _ _ _ _ (by simp)).trans rfl))).mono ?_; rintro e w' ⟨rfl, hb⟩; have gk := HG.out _ (((Ext.refl _).alloc _).trans hb)) | (go_at_call 55; refine (round_any _ _ _ (by omega) (by omega) (by omega) (by omega)).mono ?_; rintro e w' ⟨rfl, rfl⟩))
    refine bodyPost_ret (v := .agg #[.int .i64 0, .int .i64 0]) ?_ rfl ⟨rfl, ?_⟩
    · simp [results, Try.results50, go_sem, *]
    · exact ((Ext.refl _).alloc _).alloc _

end Go.Proofs.Ytjkddchkjkocbaa

namespace Go.Proofs.Ytjkddchkjkocbaa
open Go.RowKit
attribute [local go_sem ↓] Go.wp_at_zero Go.wp_at_succ run_eql_point run_neq_point run_max_ii run_min_ii

theorem quad1_any (a b c : Int × Int) (i n : Int) (bp bn : Nat) (w : World) (h0 : w.cell? ⟨bp, 0, none⟩ = some (.int .i64 a.1)) (h1 : w.cell? ⟨bp, 1, none⟩ = some (.int .i64 a.2)) (h2 : w.cell? ⟨bp, 2, none⟩ = some (.int .i64 b.1))
    (h3 : w.cell? ⟨bp, 3, none⟩ = some (.int .i64 b.2)) (h4 : w.cell? ⟨bp, 4, none⟩ = some (.int .i64 c.1)) (h5 : w.cell? ⟨bp, 5, none⟩ = some (.int .i64 c.2)) (hn : w.cell? ⟨bn, 0, none⟩ = some (.int .i64 n)) :
    Calls Try.prog 22 #[.int .i64 i, .pointer (some ⟨bp, 0, none⟩), .pointer (some ⟨bn, 0, none⟩)] w fun e w' =>
      e = .returned (.agg #[.int .i64 (quadAtV a b c i n).1, .int .i64 (quadAtV a b c i n).2]) ∧ Ext w w' := by
  have g : ∀ w', Ext (w.alloc (.cells #[.int .i64 0, .int .i64 0] 33)) w' → w'.cell? ⟨w.heap.size, 0, none⟩ = some (.int .i64 0) ∧ w'.cell? ⟨w.heap.size, 1, none⟩ = some (.int .i64 0) ∧ w'.frozen? ⟨w.heap.size, 0, none⟩ = false ∧ w'.frozen? ⟨w.heap.size, 1, none⟩ = false := fun w' h =>
    ⟨h.get (by simp), h.get (by simp), (h.frozen (by simp)).trans (World.frozen?_alloc_at _ _ _ _ (by simp)), (h.frozen (by simp)).trans (World.frozen?_alloc_at _ _ _ _ (by simp))⟩
  have HG := zH g
  have q : ∀ p v, w.cell? p = some v → (w.alloc (.cells #[.int .i64 0, .int .i64 0] 33)).cell? p = some v := fun p v h => ((Ext.refl w).alloc _).get h
  have q0 := q _ _ h0
  have q1 := q _ _ h1
  have q2 := q _ _ h2
  have q3 := q _ _ h3
  have q4 := q _ _ h4
  have q5 := q _ _ h5
  have q6 := q _ _ hn
  clear g q
  go_enter Try.func22, Try.ntmps22
  go_wp2_with (first | (go_at_call 11; refine (quadAt_any a b c _ _ _).mono ?_; rintro e w' ⟨rfl, hb⟩; have gk := HG.out _ hb))
  refine bodyPost_ret (v := .agg #[.int .i64 (quadAtV a b c i n).1, .int .i64 (quadAtV a b c i n).2]) ?_ rfl ⟨rfl, ?_⟩
  · simp [results, Try.results22, go_sem, *]
  · exact Ext.setCell (Ext.setCell (((Ext.refl _).alloc _).trans (by assumption)) (by simp) _) (by simp) _
theorem cubic1_any (a b c d : Int × Int) (i n : Int) (bp bn : Nat) (w : World) (h0 : w.cell? ⟨bp, 0, none⟩ = some (.int .i64 a.1)) (h1 : w.cell? ⟨bp, 1, none⟩ = some (.int .i64 a.2)) (h2 : w.cell? ⟨bp, 2, none⟩ = some (.int .i64 b.1))
    (h3 : w.cell? ⟨bp, 3, none⟩ = some (.int .i64 b.2)) (h4 : w.cell? ⟨bp, 4, none⟩ = some (.int .i64 c.1)) (h5 : w.cell? ⟨bp, 5, none⟩ = some (.int .i64 c.2)) (h6 : w.cell? ⟨bp, 6, none⟩ = some (.int .i64 d.1)) (h7 : w.cell? ⟨bp, 7, none⟩ = some (.int .i64 d.2)) (hn : w.cell? ⟨bn, 0, none⟩ = some (.int .i64 n)) :
    Calls Try.prog 36 #[.int .i64 i, .pointer (some ⟨bp, 0, none⟩), .pointer (some ⟨bn, 0, none⟩)] w fun e w' =>
      e = .returned (.agg #[.int .i64 (cubicAtV a b c d i n).1, .int .i64 (cubicAtV a b c d i n).2]) ∧ Ext w w' := by
  have g : ∀ w', Ext (w.alloc (.cells #[.int .i64 0, .int .i64 0] 33)) w' → w'.cell? ⟨w.heap.size, 0, none⟩ = some (.int .i64 0) ∧ w'.cell? ⟨w.heap.size, 1, none⟩ = some (.int .i64 0) ∧ w'.frozen? ⟨w.heap.size, 0, none⟩ = false ∧ w'.frozen? ⟨w.heap.size, 1, none⟩ = false := fun w' h =>
    ⟨h.get (by simp), h.get (by simp), (h.frozen (by simp)).trans (World.frozen?_alloc_at _ _ _ _ (by simp)), (h.frozen (by simp)).trans (World.frozen?_alloc_at _ _ _ _ (by simp))⟩
  have HG := zH g
  have q : ∀ p v, w.cell? p = some v → (w.alloc (.cells #[.int .i64 0, .int .i64 0] 33)).cell? p = some v := fun p v h => ((Ext.refl w).alloc _).get h
  have q0 := q _ _ h0
  have q1 := q _ _ h1
  have q2 := q _ _ h2
  have q3 := q _ _ h3
  have q4 := q _ _ h4
  have q5 := q _ _ h5
  have q6 := q _ _ hn
  have q7 := q _ _ h6
  have q8 := q _ _ h7
  clear g q
  go_enter Try.func36, Try.ntmps36
  go_wp2_with (first | (go_at_call 37; refine (cubicAt_any a b c d _ _ _).mono ?_; rintro e w' ⟨rfl, hb⟩; have gk := HG.out _ hb))
  refine bodyPost_ret (v := .agg #[.int .i64 (cubicAtV a b c d i n).1, .int .i64 (cubicAtV a b c d i n).2]) ?_ rfl ⟨rfl, ?_⟩
  · simp [results, Try.results36, go_sem, *]
  · exact Ext.setCell (Ext.setCell (((Ext.refl _).alloc _).trans (by assumption)) (by simp) _) (by simp) _
end Go.Proofs.Ytjkddchkjkocbaa

namespace Go.Proofs.Ytjkddchkjkocbaa
open Go.RowKit Go.Shelf
attribute [local go_sem] Oper.semAt_some

def ptVal (x : Int × Int) : Value := .agg #[.int .i64 x.1, .int .i64 x.2]

def upTo (f : Int → Int × Int) (n : Nat) : List (Int × Int) := (List.range n).map fun k : Nat => f ((k : Int) + 1)
theorem upTo_length (f : Int → Int × Int) (n : Nat) : (upTo f n).length = n := by simp [upTo]
theorem upTo_succ (f : Int → Int × Int) (n : Nat) : upTo f (n + 1) = upTo f n ++ [f ((n : Int) + 1)] := by simp [upTo, List.range_succ]
theorem upTo_prefix (f : Int → Int × Int) (k n : Nat) (h : k ≤ n) : upTo f k <+: upTo f n := by
  unfold upTo
  obtain ⟨d, rfl⟩ := Nat.exists_eq_add_of_le h
  rw [List.range_add, List.map_append]
  exact List.prefix_append _ _

theorem grown_of_ext {A B : World} (h : Ext A B) : A.grownBy B none := ⟨h.os, h.tape, h.output, h.size, fun i hi _ => h.block i hi⟩

set_option maxRecDepth 100000 in
set_option maxHeartbeats 1000000 in
theorem stepsQ_in (F : Fence) (m : Nat) (hF : F.fn 32) (hF2 : F.fn 22) (hro : F.round = none) (hm : 1 ≤ m) (n : Nat) (hn : n ≤ 64) (f : Int → Int × Int) (bn ba n₀ : Nat) (p q : Addr) (l : Nat) (J Jx : List (Int × Int) → World → Prop) (w : World) (hbn : bn < n₀) (hba : ba < n₀)
    (cn : w.cell? ⟨bn, 0, none⟩ = some (.int .i64 n)) (ca : w.cell? ⟨ba, 0, none⟩ = some (.func (.func 22) #[] #[.pointer (some p), .pointer (some q)]))
    (hat : ∀ (i : Int) (W : World), Below n₀ w W → CallsIn F (m - 1) Try.prog 22 #[.int .i64 i, .pointer (some p), .pointer (some q)] W (fun e W' => e = .returned (ptVal (f i)) ∧ Ext W W'))
    (hJ : ∀ s A B, J s A → Ext A B → J s B) (hn₀ : n₀ ≤ w.heap.size)
    (hY : ∀ pre x W, J pre W → pre.length < n → YieldAt F (m - 1) Try.prog l #[ptVal x] W fun e W' =>
      (e = .returned (.bool true) ∧ J (pre ++ [x]) W' ∧ Below n₀ W W') ∨ (e = .returned (.bool false) ∧ Jx (pre ++ [x]) W')) (h0 : J [] w) :
    CallsIn F m Try.prog 32 #[.func (.yield l) #[] #[], .pointer (some ⟨bn, 0, none⟩), .pointer (some ⟨ba, 0, none⟩)] w fun e W' => (∃ v, e = .returned v) ∧
      ((∃ ys, ys = upTo f n ∧ J ys W') ∨ (∃ pre, pre <+: upTo f n ∧ Jx pre W')) := by
  refine callsIn_of_wp Try.func32 rfl hF ?_ hro
  simp only [Try.ntmps32, List.size_toArray, List.length_cons, List.length_nil, Nat.reduceAdd, Nat.reduceSub, Array.replicate_succ, Array.replicate_zero, List.push_toArray, List.append_toArray, List.nil_append, List.cons_append]
  gi_wp2
  gi_loopw [4] (fun i wr => ∃ k : Nat, k ≤ n ∧ i = .int .i64 ((k : Int) + 1) ∧ Below n₀ w wr ∧ J (upTo f k) wr) (fun i _ => n + 1 - (intOf i).toNat)
  case atStart => exact ⟨0, Nat.zero_le _, rfl, Below.refl _ _, h0⟩
  case round =>
    obtain ⟨k, hk, rfl, hb, hj⟩ := hrel
    have c1 := (hb.cell (p := ⟨bn, 0, none⟩) hbn).trans cn
    have c2 := (hb.cell (p := ⟨ba, 0, none⟩) hba).trans ca
    by_cases hlt : k < n
    · gi_wp2_with (gi_at_call 22; refine (hat _ _ hb).mono ?_; rintro e W1 ⟨rfl, hx⟩; obtain ⟨fn, tmps, assign, body, hy, hR⟩ := hY _ (f ((k : Int) + 1)) W1 (hJ _ _ _ hj hx) (by rw [upTo_length]; exact hlt))
      gi_wp2
      refine hR.mono ?_
      rintro e W3 (⟨rfl, hJ3, hk3⟩ | ⟨rfl, hJx3⟩)
      · gi_wp2
        go_roundw
        case rel => exact ⟨k + 1, hlt, by go_num, ((hb.trans (hx.below.mono (Nat.le_trans hn₀ hb.size))).trans hk3), by rw [upTo_succ]; exact hJ3⟩
        case measure => simp [intOf]; omega
      · gi_wp2
        refine bodyPost_ret (results_none rfl _ _ _) rfl ?_
        exact ⟨⟨_, rfl⟩, .inr ⟨_, by rw [← upTo_succ]; exact upTo_prefix f _ _ hlt, hJx3⟩⟩
    · gi_wp2
      go_end0
      have e : k = n := by omega
      subst e
      exact ⟨⟨_, rfl⟩, .inl ⟨_, rfl, hj⟩⟩

end Go.Proofs.Ytjkddchkjkocbaa

namespace Go.Proofs.Ytjkddchkjkocbaa
open Go.RowKit Go.Shelf
attribute [local go_sem] Oper.semAt_some

theorem infoPt : (Try.prog.info? 33).map (fun i => (i.zero, i.size, i.bytes)) = some (some (.agg #[.int .i64 0, .int .i64 0]), 2, 16) := by kernel_rfl

def ptCells (xs : List (Int × Int)) : List Value := xs.flatMap fun x => [Value.int .i64 x.1, Value.int .i64 x.2]
theorem ptCells_snoc (xs : List (Int × Int)) (x : Int × Int) : ptCells (xs ++ [x]) = ptCells xs ++ [Value.int .i64 x.1, Value.int .i64 x.2] := by simp [ptCells]
theorem ptCells_length (xs : List (Int × Int)) : (ptCells xs).length = xs.length * 2 := by
  induction xs with
  | nil => rfl
  | cons x xs ih => simp only [ptCells, List.flatMap_cons, List.length_append, List.length_cons, List.length_nil] at ih ⊢; omega

theorem two_new (w : World) (a b : Value) (t : TypeId) : ∀ (j : Nat) (u : Value), [a, b][j]? = some u → (w.alloc (.cells #[a, b] t)).cell? ((⟨w.heap.size, 0, none⟩ : Addr).add j) = some u := by
  intro j u hj
  match j, hj with
  | 0, hj => simp at hj; subst hj; simp [Addr.add]
  | 1, hj => simp at hj; subst hj; simp [Addr.add]

set_option maxRecDepth 100000 in
set_option maxHeartbeats 2000000 in
theorem all_in (F : Fence) (m : Nat) (hF : F.fn 20) (hF2 : F.fn 32) (hro : F.round = none) (hm : 3 ≤ m) (lb : Array Value) (xs : List (Int × Int)) (hlen : xs.length ≤ 64) (w : World)
    (hseq : ∀ W, Ext w W → SeqStopsK F (m - 1) Try.prog 32 lb (fun x : Int × Int => #[ptVal x]) (Below w.heap.size) (fun ys => ys = xs) (fun pre => pre <+: xs) xs.length W) :
    CallsIn F m Try.prog 20 #[.func (.func 32) #[] lb] w fun e W' => ∃ v, e = .returned v ∧ W'.ownsRow w.heap.size 33 2 v xs.length (ptCells xs) ∧ (v = .slice none 0 0 ↔ xs = []) ∧ Ext w W' := by
  have h1 : 1 ≤ m := by omega
  obtain ⟨i0, hi, hz0, hz1, hz2⟩ := info_parts infoPt
  refine callsIn_of_wp_marks Try.func20 rfl hF ?_ hro
  simp only [Try.ntmps20, List.size_toArray, List.length_cons, List.length_nil, Nat.reduceAdd, Nat.reduceSub, Array.replicate_succ, Array.replicate_zero, List.push_toArray, List.append_toArray, List.nil_append, List.cons_append]
  gi_wp2
  have bO := Boxed.new w 29 (.slice none 0 0)
  have hB0 : Below w.heap.size w (w.alloc (.cells #[.slice none 0 0] 29)) := (Below.refl _ w).alloc (Nat.le_refl _) _
  have hq := hseq _ hB0
  refine wpIn_rangeFunc_ownH hro h1 (gf := 32) (lb := lb) rfl hF2 (enters_of Try.func32 (by kernel_rfl) rfl)
    hq belowK_t (belowK_b (by simp)) (Below.refl _ _) (fun _ => rfl)
    (fun pre W => (∃ v, Boxed W w.heap.size 29 v ∧ W.ownsRow w.heap.size 33 2 v pre.length (ptCells pre) ∧ (v = .slice none 0 0 ↔ pre = [])) ∧ Below w.heap.size w W)
    (fun _ _ _ => False)
    (OwnFrom.and (Own.from (holdsRow_own w.heap.size w.heap.size 29 33 2 (fun pre => pre.length) (fun pre => ptCells pre) (fun pre v => v = .slice none 0 0 ↔ pre = [])) _) (ownFrom_below (Nat.le_refl _) (by simp)))
    (fun _ _ _ _ _ hs _ _ => hs)
    ⟨⟨_, bO, World.ownsRow_nil _ _ _ _, by simp⟩, hB0⟩
    (fun x a' W => ∃ Bx, w.heap.size < Bx ∧ W.heap[Bx]? = some (.cells #[.int .i64 x.1, .int .i64 x.2] 33 (0, 0)) ∧ a' = { tmps := #[.func (.func 32) #[] lb, undef, .slice none 0 0, .pointer (some ⟨w.heap.size, 0, none⟩), .pointer (some ⟨Bx, 0, none⟩), .func (.func 32) #[] lb, ptVal x, undef, undef, undef, undef, undef], defers := [] })
    (fun x a' _ X Y row hs hg hr => by
      obtain ⟨Bx, h1, h2, h3⟩ := hs
      refine ⟨Bx, h1, ?_, h3⟩
      exact (hg.block Bx (Array.getElem?_eq_some_iff.1 h2).1 (fun e => by obtain ⟨_, o, ho, hc⟩ := hr Bx e.symm; rw [h2] at ho; cases ho; cases hc)).trans h2)
    ?assign ?body ?done ?stop
  case assign =>
    rintro l pre x W K ⟨⟨v, hv, hrow, hnil⟩, hB⟩ hK
    unfold ptVal at hK ⊢
    gi_wp2
    exact hK _ _ ((KeepsOthers.alloc _ _).from _) ((Below.refl _ W).alloc hB.size _) ⟨⟨v, hv.alloc _, hrow.alloc _, hnil⟩, hB.alloc hB.size _⟩ ⟨W.heap.size, hv.lt, Blk.new W _ _, rfl⟩
  case body =>
    rintro l pre x a' W hl _ ⟨⟨v, hv, hrow, hnil⟩, hB⟩ ⟨Bx, hBx, hX, rfl⟩ hlt
    have hc := hv.cell
    have x0 : W.cell? ⟨Bx, 0, none⟩ = some (.int .i64 x.1) := cell_of_row W Bx 0 _ _ (0, 0) hX
    have x1 : W.cell? ⟨Bx, 1, none⟩ = some (.int .i64 x.2) := cell_of_row W Bx 1 _ _ (0, 0) hX
    have hln := ptCells_length pre
    have HL := zH hln
    clear hln
    gi_wp2_with (gi_at_builtin; refine wpListIn_append_own _ rfl _ _ 29 rfl w.heap.size 33 i0 (.agg #[.int .i64 0, .int .i64 0]) 2 16 Try.underlying29 hi hz0 hz1 hz2 rfl (by decide) _ _ _ rfl (hrow.alloc _) ⟨W.heap.size, 0, none⟩ 1 1 [.int .i64 x.1, .int .i64 x.2] rfl rfl (two_new _ _ _ _) (by simp [Value.oneCell']) (by unfold maxLen; omega) (by omega) (by have := hB.size; simp; omega) ?_; intro v' w1 hown' hgrow _; obtain ⟨g', cap', rfl⟩ := ownsRow_succ hown'; obtain ⟨hv1, hv2, hr2, hk2, hb2⟩ := hv.appended (by decide) hrow hB.size (Nat.le_refl _) hown' hgrow; have hc1 := hv1.cell; have hf1 := hv1.frozen)
    exact ⟨hk2.from _, hb2, ⟨_, hv2, by rw [ptCells_snoc]; simpa using hr2, by simp⟩, hB.trans hb2⟩
  case done =>
    rintro D ys W hD rfl ⟨⟨v, hv, hrow, hnil⟩, hB⟩ hK
    have hc := hv.cell
    gi_wp2
    refine ⟨by simp, .inl ⟨_, _, rfl, run_takeDeferred hK, ?_⟩⟩
    exact ⟨_, results_tmp rfl _ _ _, v, rfl, ownsRow_putObj hrow _ hK rfl, hnil, hB.trans (belowK_b (w := w) (Nat.le_refl _) W D _ _ (by simp at hD; omega) hK rfl rfl)⟩
  case stop =>
    rintro D c pre W _ _ h _
    exact h.elim
end Go.Proofs.Ytjkddchkjkocbaa

namespace Go.Proofs.Ytjkddchkjkocbaa
open Go.RowKit Go.Shelf
attribute [local go_sem ↓] Go.wp_at_zero Go.wp_at_succ run_eql_point run_neq_point run_max_ii run_min_ii

theorem steps_any (n : Int) (fn : Fn) (first cap : Array Value) (w : World) :
    Calls Try.prog 21 #[.int .i64 n, .func fn first cap] w fun e w' =>
      e = .returned (.func (.func 32) #[] #[.pointer (some ⟨w.heap.size, 0, none⟩), .pointer (some ⟨w.heap.size + 1, 0, none⟩)]) ∧
      (w.alloc (.cells #[.int .i64 n] 3)).alloc (.cells #[.func fn first cap] 57) = w' := by
  go_enter Try.func21, Try.ntmps21
  go_wp2_with fail
  go_ret
  exact ⟨rfl, rfl⟩

theorem least_range (need tol : Int) (k f j : Nat) (h : least need tol k f = some j) : k ≤ j ∧ j < k + f := by
  induction f generalizing k with
  | zero => cases h
  | succ f ih =>
    rw [least] at h
    split at h
    · injection h with h; omega
    · have := ih (k + 1) h; omega

theorem piecesV_range (need tol : Int) (ps : List (Int × Int)) (h : (piecesV need tol ps).2 = 0) : ∃ k : Nat, (piecesV need tol ps).1 = (k : Int) ∧ 1 ≤ k ∧ k ≤ 64 := by
  unfold piecesV at h ⊢
  split at h
  · cases h
  · split at h
    · cases h
    · rename_i h1 h2
      rw [if_neg h1, if_neg h2]
      split at h
      · rename_i k hk
        have := least_range _ _ _ _ _ hk
        exact ⟨k, rfl, by omega, by omega⟩
      · cases h

def quadPts (a b c : Int × Int) (tol : Int) : List (Int × Int) :=
  if (quadSegV a b c tol).2 = 0 then upTo (fun i => quadAtV a b c i (quadSegV a b c tol).1) (quadSegV a b c tol).1.toNat else []

def OwnsPts (w w' : World) (v : Value) (ps : List (Int × Int)) : Prop := w'.ownsRow w.heap.size 33 2 v ps.length (ptCells ps) ∧ (ps = [] → v = .slice none 0 0)

def CurveSays (pts : List (Int × Int)) (er : Int) (w : World) (e : Ending) (w' : World) : Prop :=
  ∃ v, e = .returned (.tuple #[v, .int .i64 er]) ∧ OwnsPts w w' v pts ∧ Ext w w'

def Box6 (w : World) (g : Nat) (a b c : Int × Int) : Prop :=
  w.cell? ⟨g, 0, none⟩ = some (.int .i64 a.1) ∧ w.cell? ⟨g, 1, none⟩ = some (.int .i64 a.2) ∧ w.cell? ⟨g, 2, none⟩ = some (.int .i64 b.1) ∧
  w.cell? ⟨g, 3, none⟩ = some (.int .i64 b.2) ∧ w.cell? ⟨g, 4, none⟩ = some (.int .i64 c.1) ∧ w.cell? ⟨g, 5, none⟩ = some (.int .i64 c.2)
theorem Box6.ext {w w' : World} {g : Nat} {a b c : Int × Int} (h : Box6 w g a b c) (e : Ext w w') : Box6 w' g a b c :=
  ⟨e.get h.1, e.get h.2.1, e.get h.2.2.1, e.get h.2.2.2.1, e.get h.2.2.2.2.1, e.get h.2.2.2.2.2⟩

theorem collectQ (a b c : Int × Int) (n : Nat) (hn2 : n ≤ 64) (bp bq bn ba : Nat) (w : World) (hp : Box6 w bp a b c) (hq : w.cell? ⟨bq, 0, none⟩ = some (.int .i64 n)) (cn : w.cell? ⟨bn, 0, none⟩ = some (.int .i64 n))
    (ca : w.cell? ⟨ba, 0, none⟩ = some (.func (.func 22) #[] #[.pointer (some ⟨bp, 0, none⟩), .pointer (some ⟨bq, 0, none⟩)])) :
    Calls Try.prog 20 #[.func (.func 32) #[] #[.pointer (some ⟨bn, 0, none⟩), .pointer (some ⟨ba, 0, none⟩)]] w fun e w' =>
      ∃ v, e = .returned v ∧ OwnsPts w w' v (upTo (fun i => quadAtV a b c i n) n) ∧ Ext w w' := by
  refine (callsIn_wide (n := 3)).1 ((all_in Fence.wide 3 trivial trivial rfl (by omega) _ (upTo (fun i => quadAtV a b c i n) n) (by rw [upTo_length]; exact hn2) w ?_).mono ?_)
  · intro W hW l J Jx W1 hW1 hJ _ hY h0
    have e1 : Ext w W1 := hW.trans hW1
    refine stepsQ_in Fence.wide 2 trivial trivial rfl (by omega) n hn2 (fun i => quadAtV a b c i n) bn ba w.heap.size ⟨bp, 0, none⟩ ⟨bq, 0, none⟩ l J Jx W1
      (World.block_lt_of_cell? w _ cn) (World.block_lt_of_cell? w _ ca) (e1.get cn) (e1.get ca) ?_ (fun s A B hj he => hJ s A B none hj (grown_of_ext he) (fun r e => by cases e)) e1.size ?_ h0
    · intro i W2 hb
      have e2 : Ext w W2 := (e1.below).trans hb
      obtain ⟨p0, p1, p2, p3, p4, p5⟩ := hp.ext e2
      exact callsIn_wide.2 (quad1_any a b c i n bp bq W2 p0 p1 p2 p3 p4 p5 (e2.get hq))
    · intro pre x W2 hj hlt
      exact hY pre x W2 hj (by rw [upTo_length]; exact hlt)
  · rintro e W' ⟨v, rfl, ho, hnil, hx⟩
    exact ⟨v, rfl, ⟨ho, hnil.2⟩, hx⟩

theorem OwnsPts.more {w w0 w' : World} {v : Value} {ps : List (Int × Int)} (h : OwnsPts w w' v ps) (hs : w0.heap.size ≤ w.heap.size) : OwnsPts w0 w' v ps := by
  refine ⟨?_, h.2⟩
  obtain ⟨h1, h2⟩ := h.1
  refine ⟨h1, ?_⟩
  rcases h2 with h2 | ⟨g, cap, cur, hv, hg, r⟩
  · exact Or.inl h2
  · exact Or.inr ⟨g, cap, cur, hv, by omega, r⟩

set_option maxHeartbeats 800000 in
theorem quad_any (a b c : Int × Int) (tol : Int) (w : World) :
    Calls Try.prog 9 #[.agg #[.int .i64 a.1, .int .i64 a.2, .int .i64 b.1, .int .i64 b.2, .int .i64 c.1, .int .i64 c.2], .int .i64 tol] w (CurveSays (quadPts a b c tol) (quadSegV a b c tol).2 w) := by
  have g : ∀ w', Ext (w.alloc (.cells #[.int .i64 a.1, .int .i64 a.2, .int .i64 b.1, .int .i64 b.2, .int .i64 c.1, .int .i64 c.2] 37)) w' →
      w'.cell? ⟨w.heap.size, 0, none⟩ = some (.int .i64 a.1) ∧ w'.cell? ⟨w.heap.size, 1, none⟩ = some (.int .i64 a.2) ∧ w'.cell? ⟨w.heap.size, 2, none⟩ = some (.int .i64 b.1) ∧
      w'.cell? ⟨w.heap.size, 3, none⟩ = some (.int .i64 b.2) ∧ w'.cell? ⟨w.heap.size, 4, none⟩ = some (.int .i64 c.1) ∧ w'.cell? ⟨w.heap.size, 5, none⟩ = some (.int .i64 c.2) := fun w' h =>
    ⟨h.get (by simp), h.get (by simp), h.get (by simp), h.get (by simp), h.get (by simp), h.get (by simp)⟩
  have HG := zH g
  clear g
  by_cases he : (quadSegV a b c tol).2 = 0
  · obtain ⟨n, hn, hn1, hn2⟩ := piecesV_range (sqD a b c) tol [a, b, c] he
    have hp : quadPts a b c tol = upTo (fun i => quadAtV a b c i n) n := by
      unfold quadPts
      rw [if_pos he, show (quadSegV a b c tol).1 = (n : Int) from hn, Int.toNat_natCast]
    rw [hp]
    have HN := zH (show quadSegV a b c tol = ((n : Int), 0) from Prod.ext hn he)
    clear hn hp he
    rw [HN.out]
    go_enter Try.func9, Try.ntmps9
    go_wp2_with (first | (go_at_call 8; refine (quadSeg_any a b c _ _).mono ?_; rw [HN.out]; rintro e w' ⟨rfl, hb⟩) | (go_at_call 21; refine (steps_any _ _ _ _ _).mono ?_; rintro e w1 ⟨rfl, rfl⟩))
    refine (collectQ a b c n hn2 w.heap.size w'.heap.size (w'.heap.size + 1) (w'.heap.size + 1 + 1) _ (Box6.ext (HG.out w' hb) ((((Ext.refl w').alloc _).alloc _).alloc _))
      ((((Ext.refl (w'.alloc _)).alloc _).alloc _).get (by simp)) (((Ext.refl ((w'.alloc _).alloc _)).alloc _).get (by simp)) ((cell_last _ _ _ _ _ (by simp)).trans rfl)).mono ?_
    rintro e w2 ⟨v, rfl, ho, hx⟩
    have hs := hb.size
    go_wp2_with fail
    go_ret2
    exact ⟨v, rfl, ho.more (by simp at hs ⊢; omega), ((((((Ext.refl w).alloc _).trans hb).alloc _).alloc _).alloc _).trans hx⟩
  · have hp : quadPts a b c tol = [] := by unfold quadPts; rw [if_neg he]
    rw [hp]
    have hne : ((quadSegV a b c tol).2 != 0) = true := by simpa using he
    have hne2 : ((quadSegV a b c tol).2 == 0) = false := by simpa using he
    clear he hp
    go_enter Try.func9, Try.ntmps9
    go_wp2_with (first | (go_at_call 8; refine (quadSeg_any a b c _ _).mono ?_; rintro e w' ⟨rfl, hb⟩))
    go_ret2
    exact ⟨_, rfl, ⟨World.ownsRow_nil _ _ _ _, fun _ => rfl⟩, (((Ext.refl _).alloc _).trans ‹_›).alloc _⟩
end Go.Proofs.Ytjkddchkjkocbaa

namespace Go.Proofs.Ytjkddchkjkocbaa
open Go.RowKit
attribute [local go_sem ↓] Go.wp_at_zero Go.wp_at_succ run_eql_point run_neq_point run_max_ii run_min_ii

def PtsV (w : World) (v : Value) (ps : List (Int × Int)) : Prop :=
  ∃ (A : Option Addr) (cap : Nat), v = .slice A ps.length cap ∧ (ps ≠ [] → ∃ g off, A = some ⟨g, off, none⟩ ∧ PtsAt w g off ps)

theorem PtsV.ext {w w' : World} {v : Value} {ps : List (Int × Int)} (h : PtsV w v ps) (e : Ext w w') : PtsV w' v ps := by
  obtain ⟨A, cap, hv, ha⟩ := h
  exact ⟨A, cap, hv, fun hn => by obtain ⟨g, off, hA, hp⟩ := ha hn; exact ⟨g, off, hA, hp.ext e⟩⟩

theorem ptCells_get (ps : List (Int × Int)) (i : Nat) (hi : i < ps.length) : (ptCells ps)[i * 2]? = some (.int .i64 (ps.getD i (0, 0)).1) ∧ (ptCells ps)[i * 2 + 1]? = some (.int .i64 (ps.getD i (0, 0)).2) := by
  induction ps generalizing i with
  | nil => simp at hi
  | cons x xs ih =>
    cases i with
    | zero => simp [ptCells]
    | succ i =>
      have := ih i (by simpa using hi)
      have e : ptCells (x :: xs) = Value.int .i64 x.1 :: Value.int .i64 x.2 :: ptCells xs := by simp [ptCells]
      rw [e, show (i + 1) * 2 = i * 2 + 1 + 1 by omega, show i * 2 + 1 + 1 + 1 = (i * 2 + 1) + 1 + 1 by omega]
      simpa using this

theorem add_off (g j : Nat) : (⟨g, 0, none⟩ : Addr).add j = ⟨g, j, none⟩ := by
  unfold Addr.add
  by_cases h : j = 0
  · simp [h]
  · simp [h]

theorem OwnsPts.read {w w' : World} {v : Value} {ps : List (Int × Int)} (h : OwnsPts w w' v ps) : PtsV w' v ps := by
  rcases h.1.2 with ⟨rfl, hx⟩ | ⟨g, cap, cur, rfl, hg, hh, hc⟩
  · have : ps = [] := by
      have := ptCells_length ps
      exact List.eq_nil_of_length_eq_zero (by first | omega | (rw [hx] at this; simp at this; omega))
    subst this
    exact ⟨none, 0, rfl, fun hn => absurd rfl hn⟩
  · refine ⟨_, cap, rfl, fun _ => ⟨g, 0, rfl, fun i hi => ?_⟩⟩
    have q := ptCells_get ps i hi
    have c := World.ownsRow.cells h.1 (g := g) rfl
    have c0 := c _ _ q.1
    have c1 := c _ _ q.2
    rw [add_off] at c0 c1
    exact ⟨by rw [Nat.zero_add]; exact c0, by rw [Nat.zero_add]; exact c1⟩

theorem take_eq_succ (ps qs : List (Int × Int)) (k : Nat) (h : k < ps.length) (h' : k < qs.length) (ht : ps.take k = qs.take k) (he : ps.getD k (0, 0) = qs.getD k (0, 0)) : ps.take (k + 1) = qs.take (k + 1) := by
  rw [List.take_succ_eq_append_getElem h, List.take_succ_eq_append_getElem h', ht]
  simp [List.getD, h, h'] at he
  rw [he]

theorem samePts_any (u v : Value) (ps qs : List (Int × Int)) (w : World) (hu : PtsV w u ps) (hv : PtsV w v qs) (h1 : ps.length ≤ 100000) (h2 : qs.length ≤ 100000) :
    Calls Try.prog 10 #[u, v] w fun e w' => e = .returned (.bool (decide (ps = qs))) ∧ Ext w w' := by
  obtain ⟨A, ca, rfl, hA⟩ := hu
  obtain ⟨B, cb, rfl, hB⟩ := hv
  by_cases hl : ps.length = qs.length
  · have hne : ((ps.length : Int) != (qs.length : Int)) = false := by simp [hl]
    have hne2 : ((ps.length : Int) == (qs.length : Int)) = true := by simp [hl]
    have HL := zH hl
    clear hl
    by_cases h0 : ps.length = 0
    · have e0 : ps = [] := List.eq_nil_of_length_eq_zero h0
      have e1 : qs = [] := List.eq_nil_of_length_eq_zero (by rw [← HL.out]; exact h0)
      subst e0 e1
      clear h0
      go_enter Try.func10, Try.ntmps10
      go_wp2_with fail
      refine wp_loop_rounds 1 ?_
      rw [rounds_succ]
      go_wp2_with fail
      go_ret
      exact ⟨ret_bool (by simp), Ext.refl _⟩
    · obtain ⟨g, o, rfl, hp⟩ := hA (by rintro rfl; exact h0 rfl)
      obtain ⟨g', o', rfl, hp'⟩ := hB (by rintro rfl; exact h0 HL.out)
      clear hA hB h0
      go_enter Try.func10, Try.ntmps10
      go_wp2_with fail
      go_loopw [5] (fun i wr => ∃ k : Nat, k ≤ ps.length ∧ i = .int .i64 k ∧ ps.take k = qs.take k ∧ Ext w wr) (fun i _ => ps.length - (intOf i).toNat)
      case atStart => exact ⟨0, Nat.zero_le _, rfl, rfl, Ext.refl _⟩
      case round =>
        obtain ⟨k, hk, rfl, ht, he⟩ := hrel
        have HT := zH ht
        clear ht
        by_cases hlt : k < ps.length
        · have hlt' : k < qs.length := by rw [← HL.out]; exact hlt
          obtain ⟨c0, c1⟩ := hp.ext he k hlt
          obtain ⟨d0, d1⟩ := hp'.ext he k hlt'
          have HE1 := zH (fun heq => take_eq_succ ps qs k hlt hlt' HT.out heq)
          have HE2 := zH (show ps.getD k (0, 0) ≠ qs.getD k (0, 0) → decide (ps = qs) = false by intro hne; simp; intro e; exact hne (by rw [e]))
          generalize ps.getD k (0, 0) = x at c0 c1 HE1 HE2
          generalize qs.getD k (0, 0) = y at d0 d1 HE1 HE2
          by_cases heq : x = y
          · subst heq
            go_wp2_with fail
            go_quiet (fail)
            go_wp2_with fail
            go_roundw
            case rel => exact ⟨k + 1, hlt, by go_num, HE1.out (by simp), he.drewN _⟩
            case measure => simp [intOf]; omega
          · by_cases hx1 : x.1 = y.1
            · have b1 : (x.1 == y.1) = true := by simpa using hx1
              have b2 : (x.2 == y.2) = false := by
                rw [← Bool.not_eq_true]; intro hh; exact heq (Prod.ext hx1 (by simpa using hh))
              have HE := zH (HE2.out heq)
              clear heq hx1
              go_wp2_with fail
              go_quiet (fail)
              go_wp2_with fail
              go_ret
              exact ⟨ret_bool HE.out.symm, he.drewN _⟩
            · have b1 : (x.1 == y.1) = false := by simpa using hx1
              have HE := zH (HE2.out heq)
              clear heq hx1
              go_wp2_with fail
              go_quiet (fail)
              go_wp2_with fail
              go_ret
              exact ⟨ret_bool HE.out.symm, he.drewN _⟩
        · have HE := zH (show decide (ps = qs) = true by
            have := HT.out
            rw [List.take_of_length_le (by omega), List.take_of_length_le (by rw [← HL.out]; omega)] at this
            simpa using this)
          go_wp2_with fail
          go_ret
          exact ⟨ret_bool HE.out.symm, he⟩
  · have hne : ((ps.length : Int) != (qs.length : Int)) = true := by simp; omega
    have hne2 : ((ps.length : Int) == (qs.length : Int)) = false := by simp; omega
    have HD := zH (show decide (ps = qs) = false by simp; intro e; exact hl (by rw [e]))
    clear hl
    go_enter Try.func10, Try.ntmps10
    go_wp2_with fail
    go_ret
    exact ⟨ret_bool HD.out.symm, Ext.refl _⟩
end Go.Proofs.Ytjkddchkjkocbaa

namespace Go.Proofs.Ytjkddchkjkocbaa
open Go.RowKit
attribute [local go_sem ↓] Go.wp_at_zero Go.wp_at_succ run_eql_point run_neq_point run_max_ii run_min_ii

structure Sg where
  v : Int
  a : Int × Int
  b : Int × Int
  c : Int × Int
def namedV (v : Int) : Int := if v = 1 ∨ v = 2 then 1 else if v = 3 then 2 else if v = 4 then 3 else if v = 5 then 0 else -1
def okAt (n i : Int) (p : Int × Int) : Bool := okPt p.1 p.2 && (decide (i < n) || decide (p = (0, 0)))
def fitsV (s : Sg) : Bool := okAt (namedV s.v) 0 s.a && okAt (namedV s.v) 1 s.b && okAt (namedV s.v) 2 s.c
def standsV (last v : Int) : Bool := (v == 1) || ((last != 5) && ((v != 5) || (last != 1)))
def okSg (last : Int) (s : Sg) : Bool := decide (0 ≤ namedV s.v) && standsV last s.v && fitsV s
def lastV (l : List Sg) (k : Nat) : Int := if k = 0 then 5 else (l.getD (k - 1) ⟨0, (0, 0), (0, 0), (0, 0)⟩).v
abbrev sg0 : Sg := ⟨0, (0, 0), (0, 0), (0, 0)⟩

theorem named_any (v : Int) (w : World) :
    Calls Try.prog 33 #[.int .i64 v] w fun e w' => e = .returned (.int .i64 (namedV v)) ∧ w = w' := by
  go_enter Try.func33, Try.ntmps33
  by_cases h4 : v = 4
  · subst h4
    go_wp2_with fail
    go_ret
    exact ⟨rfl, rfl⟩
  · have b4 : (v == 4) = false := by simpa using h4
    by_cases h3 : v = 3
    · subst h3
      go_wp2_with fail
      go_ret
      exact ⟨rfl, rfl⟩
    · have b3 : (v == 3) = false := by simpa using h3
      by_cases h1 : v = 1
      · subst h1
        go_wp2_with fail
        go_ret
        exact ⟨rfl, rfl⟩
      · have b1 : (v == 1) = false := by simpa using h1
        by_cases h2 : v = 2
        · subst h2
          go_wp2_with fail
          go_ret
          exact ⟨rfl, rfl⟩
        · have b2 : (v == 2) = false := by simpa using h2
          by_cases h5 : v = 5
          · subst h5
            go_wp2_with fail
            go_ret
            exact ⟨rfl, rfl⟩
          · have b5 : (v == 5) = false := by simpa using h5
            have hn : namedV v = -1 := by unfold namedV; simp [h1, h2, h3, h4, h5]
            rw [hn]
            clear h1 h2 h3 h4 h5 hn
            go_wp2_with fail
            go_ret
            exact ⟨rfl, rfl⟩
end Go.Proofs.Ytjkddchkjkocbaa

namespace Go.Proofs.Ytjkddchkjkocbaa
open Go.RowKit
attribute [local go_sem ↓] Go.wp_at_zero Go.wp_at_succ run_eql_point run_neq_point run_max_ii run_min_ii

theorem okAt_f1 {n i : Int} {p : Int × Int} (h : okPt p.1 p.2 = false) : okAt n i p = false := by unfold okAt; simp [h]
theorem okAt_t1 {n i : Int} {p : Int × Int} (h : okPt p.1 p.2 = true) (k : ¬ n ≤ i) : okAt n i p = true := by unfold okAt; simp [h]; left; omega
theorem okAt_t2 {n i : Int} {p : Int × Int} (h : okPt p.1 p.2 = true) (k : p = (0, 0)) : okAt n i p = true := by unfold okAt; rw [h]; simp [k]
theorem okAt_f2 {n i : Int} {p : Int × Int} (k : n ≤ i) (h : p ≠ (0, 0)) : okAt n i p = false := by
  unfold okAt
  have h2 : decide (i < n) = false := by simp; omega
  simp [h, h2]
set_option maxRecDepth 20000 in
set_option maxHeartbeats 4000000 in
theorem fits_any (v a1 a2 b1 b2 c1 c2 : Int) (w : World) :
    Calls Try.prog 34 #[.agg #[.int .i64 v, .int .i64 a1, .int .i64 a2, .int .i64 b1, .int .i64 b2, .int .i64 c1, .int .i64 c2]] w fun e w' => e = .returned (.bool (fitsV ⟨v, (a1, a2), (b1, b2), (c1, c2)⟩)) ∧ Ext w w' := by
  have hB : Blk (w.alloc (.cells #[.int .i64 v, .int .i64 a1, .int .i64 a2, .int .i64 b1, .int .i64 b2, .int .i64 c1, .int .i64 c2] 35)) w.heap.size 35 #[.int .i64 v, .int .i64 a1, .int .i64 a2, .int .i64 b1, .int .i64 b2, .int .i64 c1, .int .i64 c2] := Blk.new _ _ _
  have HN := zH (fun W => named_any v W)
  generalize hnv : namedV v = n at HN
  have HF := zH (show okAt n 0 (a1, a2) = false ∨ okAt n 1 (b1, b2) = false ∨ okAt n 2 (c1, c2) = false → fitsV ⟨v, (a1, a2), (b1, b2), (c1, c2)⟩ = false by subst hnv; unfold fitsV; rintro (h | h | h) <;> simp [h])
  have HT := zH (show okAt n 0 (a1, a2) = true → okAt n 1 (b1, b2) = true → okAt n 2 (c1, c2) = true → fitsV ⟨v, (a1, a2), (b1, b2), (c1, c2)⟩ = true by subst hnv; unfold fitsV; intro h1 h2 h3; simp [h1, h2, h3])
  clear hnv
  go_enter Try.func34, Try.ntmps34
  go_wp2_with fail
  have hP : Blk ((w.alloc (.cells #[.int .i64 v, .int .i64 a1, .int .i64 a2, .int .i64 b1, .int .i64 b2, .int .i64 c1, .int .i64 c2] 35)).alloc (.cells #[.int .i64 a1, .int .i64 a2, .int .i64 b1, .int .i64 b2, .int .i64 c1, .int .i64 c2] 33)) (w.heap.size + 1) 33 #[.int .i64 a1, .int .i64 a2, .int .i64 b1, .int .i64 b2, .int .i64 c1, .int .i64 c2] := by simpa using Blk.new (w.alloc (.cells #[.int .i64 v, .int .i64 a1, .int .i64 a2, .int .i64 b1, .int .i64 b2, .int .i64 c1, .int .i64 c2] 35)) 33 #[.int .i64 a1, .int .i64 a2, .int .i64 b1, .int .i64 b2, .int .i64 c1, .int .i64 c2]
  have hS := hB.alloc (.cells #[.int .i64 a1, .int .i64 a2, .int .i64 b1, .int .i64 b2, .int .i64 c1, .int .i64 c2] 33)
  have hE : Ext w ((w.alloc (.cells #[.int .i64 v, .int .i64 a1, .int .i64 a2, .int .i64 b1, .int .i64 b2, .int .i64 c1, .int .i64 c2] 35)).alloc (.cells #[.int .i64 a1, .int .i64 a2, .int .i64 b1, .int .i64 b2, .int .i64 c1, .int .i64 c2] 33)) := ((Ext.refl _).alloc _).alloc _
  clear hB
  generalize (w.alloc (.cells #[.int .i64 v, .int .i64 a1, .int .i64 a2, .int .i64 b1, .int .i64 b2, .int .i64 c1, .int .i64 c2] 35)).alloc (.cells #[.int .i64 a1, .int .i64 a2, .int .i64 b1, .int .i64 b2, .int .i64 c1, .int .i64 c2] 33) = wa at *
  generalize w.heap.size + 1 = X at *
  generalize w.heap.size = B at *
  have HE := zH hE
  have HS := zH hS
  have HP := zH hP
  clear hE hS hP
  go_loopg [13] 3 (fun g i wr => Ext wa wr ∧ ((g = 3 ∧ i = .int .i64 0) ∨ (g = 2 ∧ i = .int .i64 1 ∧ okAt n 0 (a1, a2) = true) ∨ (g = 1 ∧ i = .int .i64 2 ∧ okAt n 0 (a1, a2) = true ∧ okAt n 1 (b1, b2) = true) ∨ (g = 0 ∧ i = .int .i64 3 ∧ okAt n 0 (a1, a2) = true ∧ okAt n 1 (b1, b2) = true ∧ okAt n 2 (c1, c2) = true)))
  case atStart => exact ⟨Ext.refl _, Or.inl ⟨rfl, rfl⟩⟩
  case round =>
    obtain ⟨he, hrel⟩ := hrel
    have HEW := zH he
    have hs0 := (HS.out.ext he).cell 0
    simp at hs0
    clear he
    rcases hrel with ⟨rfl, rfl⟩ | ⟨rfl, rfl, q0⟩ | ⟨rfl, rfl, q0, q1⟩ | ⟨rfl, rfl, q0, q1, q2⟩
    · have p0 := (HP.out.ext HEW.out).cell 0
      have p1 := (HP.out.ext HEW.out).cell 1
      simp at p0 p1
      cases ho : okPt a1 a2 with
      | false =>
        have HO := zH ho
        have hres := HF.out (by have h := (okAt_f1 (n := n) (i := 0) (p := (a1, a2)) HO.out); exact Or.inl h)
        have HRES := zH hres
        clear hres
        go_wp2_with (first | (go_at_call 31; refine (valid_any _ _ _).mono ?_; rintro e w1 ⟨rfl, hx1⟩; have hs1 := ((HS.out.ext HEW.out).ext (((Ext.refl _).alloc _).trans hx1)).cell 0; have hv := Blk.ext (Blk.new wr 33 #[.int .i64 a1, .int .i64 a2]) hx1; have hv0 := hv.cell 0; have hv1 := hv.cell 1; simp at hs1 hv0 hv1) | (go_at_call 33; refine (HN.out _).mono ?_; rintro e w2 ⟨rfl, rfl⟩))
        go_ret
        exact ⟨ret_bool HRES.out.symm, HE.out.trans ((HEW.out.alloc _).trans hx1)⟩
      | true =>
        have HO := zH ho
        by_cases hk : n ≤ 0
        · have HK := zH hk
          by_cases z1 : (a1 == 0) = true
          · by_cases z2 : (a2 == 0) = true
            · have QN := zH (okAt_t2 (n := n) (i := 0) (p := (a1, a2)) HO.out (by simp at z1 z2; rw [z1, z2]))
              go_wp2_with (first | (go_at_call 31; refine (valid_any _ _ _).mono ?_; rintro e w1 ⟨rfl, hx1⟩; have hs1 := ((HS.out.ext HEW.out).ext (((Ext.refl _).alloc _).trans hx1)).cell 0; have hv := Blk.ext (Blk.new wr 33 #[.int .i64 a1, .int .i64 a2]) hx1; have hv0 := hv.cell 0; have hv1 := hv.cell 1; simp at hs1 hv0 hv1) | (go_at_call 33; refine (HN.out _).mono ?_; rintro e w2 ⟨rfl, rfl⟩))
              go_roundg 2
              case measure => omega
              case rel => exact ⟨((HEW.out.alloc _).trans hx1), Or.inr (Or.inl ⟨rfl, by go_num, QN.out⟩)⟩
            · rw [Bool.not_eq_true] at z2
              have hres := HF.out (by have h := (okAt_f2 (n := n) (i := 0) (p := (a1, a2)) HK.out (by intro h; injection h with h1 h2; rw [h2] at z2; simp at z2)); exact Or.inl h)
              have HRES := zH hres
              clear hres
              go_wp2_with (first | (go_at_call 31; refine (valid_any _ _ _).mono ?_; rintro e w1 ⟨rfl, hx1⟩; have hs1 := ((HS.out.ext HEW.out).ext (((Ext.refl _).alloc _).trans hx1)).cell 0; have hv := Blk.ext (Blk.new wr 33 #[.int .i64 a1, .int .i64 a2]) hx1; have hv0 := hv.cell 0; have hv1 := hv.cell 1; simp at hs1 hv0 hv1) | (go_at_call 33; refine (HN.out _).mono ?_; rintro e w2 ⟨rfl, rfl⟩))
              go_ret
              exact ⟨ret_bool HRES.out.symm, HE.out.trans ((HEW.out.alloc _).trans hx1)⟩
          · rw [Bool.not_eq_true] at z1
            have hres := HF.out (by have h := (okAt_f2 (n := n) (i := 0) (p := (a1, a2)) HK.out (by intro h; injection h with h1 h2; rw [h1] at z1; simp at z1)); exact Or.inl h)
            have HRES := zH hres
            clear hres
            go_wp2_with (first | (go_at_call 31; refine (valid_any _ _ _).mono ?_; rintro e w1 ⟨rfl, hx1⟩; have hs1 := ((HS.out.ext HEW.out).ext (((Ext.refl _).alloc _).trans hx1)).cell 0; have hv := Blk.ext (Blk.new wr 33 #[.int .i64 a1, .int .i64 a2]) hx1; have hv0 := hv.cell 0; have hv1 := hv.cell 1; simp at hs1 hv0 hv1) | (go_at_call 33; refine (HN.out _).mono ?_; rintro e w2 ⟨rfl, rfl⟩))
            go_ret
            exact ⟨ret_bool HRES.out.symm, HE.out.trans ((HEW.out.alloc _).trans hx1)⟩
        · have QN := zH (okAt_t1 (n := n) (i := 0) (p := (a1, a2)) HO.out hk)
          go_wp2_with (first | (go_at_call 31; refine (valid_any _ _ _).mono ?_; rintro e w1 ⟨rfl, hx1⟩; have hs1 := ((HS.out.ext HEW.out).ext (((Ext.refl _).alloc _).trans hx1)).cell 0; have hv := Blk.ext (Blk.new wr 33 #[.int .i64 a1, .int .i64 a2]) hx1; have hv0 := hv.cell 0; have hv1 := hv.cell 1; simp at hs1 hv0 hv1) | (go_at_call 33; refine (HN.out _).mono ?_; rintro e w2 ⟨rfl, rfl⟩))
          go_roundg 2
          case measure => omega
          case rel => exact ⟨((HEW.out.alloc _).trans hx1), Or.inr (Or.inl ⟨rfl, by go_num, QN.out⟩)⟩
    · have p0 := (HP.out.ext HEW.out).cell 2
      have p1 := (HP.out.ext HEW.out).cell 3
      simp at p0 p1
      have Q0 := zH q0
      clear q0
      cases ho : okPt b1 b2 with
      | false =>
        have HO := zH ho
        have hres := HF.out (by have h := (okAt_f1 (n := n) (i := 1) (p := (b1, b2)) HO.out); exact Or.inr (Or.inl h))
        have HRES := zH hres
        clear hres
        go_wp2_with (first | (go_at_call 31; refine (valid_any _ _ _).mono ?_; rintro e w1 ⟨rfl, hx1⟩; have hs1 := ((HS.out.ext HEW.out).ext (((Ext.refl _).alloc _).trans hx1)).cell 0; have hv := Blk.ext (Blk.new wr 33 #[.int .i64 b1, .int .i64 b2]) hx1; have hv0 := hv.cell 0; have hv1 := hv.cell 1; simp at hs1 hv0 hv1) | (go_at_call 33; refine (HN.out _).mono ?_; rintro e w2 ⟨rfl, rfl⟩))
        go_ret
        exact ⟨ret_bool HRES.out.symm, HE.out.trans ((HEW.out.alloc _).trans hx1)⟩
      | true =>
        have HO := zH ho
        by_cases hk : n ≤ 1
        · have HK := zH hk
          by_cases z1 : (b1 == 0) = true
          · by_cases z2 : (b2 == 0) = true
            · have QN := zH (okAt_t2 (n := n) (i := 1) (p := (b1, b2)) HO.out (by simp at z1 z2; rw [z1, z2]))
              go_wp2_with (first | (go_at_call 31; refine (valid_any _ _ _).mono ?_; rintro e w1 ⟨rfl, hx1⟩; have hs1 := ((HS.out.ext HEW.out).ext (((Ext.refl _).alloc _).trans hx1)).cell 0; have hv := Blk.ext (Blk.new wr 33 #[.int .i64 b1, .int .i64 b2]) hx1; have hv0 := hv.cell 0; have hv1 := hv.cell 1; simp at hs1 hv0 hv1) | (go_at_call 33; refine (HN.out _).mono ?_; rintro e w2 ⟨rfl, rfl⟩))
              go_roundg 1
              case measure => omega
              case rel => exact ⟨((HEW.out.alloc _).trans hx1), Or.inr (Or.inr (Or.inl ⟨rfl, by go_num, Q0.out, QN.out⟩))⟩
            · rw [Bool.not_eq_true] at z2
              have hres := HF.out (by have h := (okAt_f2 (n := n) (i := 1) (p := (b1, b2)) HK.out (by intro h; injection h with h1 h2; rw [h2] at z2; simp at z2)); exact Or.inr (Or.inl h))
              have HRES := zH hres
              clear hres
              go_wp2_with (first | (go_at_call 31; refine (valid_any _ _ _).mono ?_; rintro e w1 ⟨rfl, hx1⟩; have hs1 := ((HS.out.ext HEW.out).ext (((Ext.refl _).alloc _).trans hx1)).cell 0; have hv := Blk.ext (Blk.new wr 33 #[.int .i64 b1, .int .i64 b2]) hx1; have hv0 := hv.cell 0; have hv1 := hv.cell 1; simp at hs1 hv0 hv1) | (go_at_call 33; refine (HN.out _).mono ?_; rintro e w2 ⟨rfl, rfl⟩))
              go_ret
              exact ⟨ret_bool HRES.out.symm, HE.out.trans ((HEW.out.alloc _).trans hx1)⟩
          · rw [Bool.not_eq_true] at z1
            have hres := HF.out (by have h := (okAt_f2 (n := n) (i := 1) (p := (b1, b2)) HK.out (by intro h; injection h with h1 h2; rw [h1] at z1; simp at z1)); exact Or.inr (Or.inl h))
            have HRES := zH hres
            clear hres
            go_wp2_with (first | (go_at_call 31; refine (valid_any _ _ _).mono ?_; rintro e w1 ⟨rfl, hx1⟩; have hs1 := ((HS.out.ext HEW.out).ext (((Ext.refl _).alloc _).trans hx1)).cell 0; have hv := Blk.ext (Blk.new wr 33 #[.int .i64 b1, .int .i64 b2]) hx1; have hv0 := hv.cell 0; have hv1 := hv.cell 1; simp at hs1 hv0 hv1) | (go_at_call 33; refine (HN.out _).mono ?_; rintro e w2 ⟨rfl, rfl⟩))
            go_ret
            exact ⟨ret_bool HRES.out.symm, HE.out.trans ((HEW.out.alloc _).trans hx1)⟩
        · have QN := zH (okAt_t1 (n := n) (i := 1) (p := (b1, b2)) HO.out hk)
          go_wp2_with (first | (go_at_call 31; refine (valid_any _ _ _).mono ?_; rintro e w1 ⟨rfl, hx1⟩; have hs1 := ((HS.out.ext HEW.out).ext (((Ext.refl _).alloc _).trans hx1)).cell 0; have hv := Blk.ext (Blk.new wr 33 #[.int .i64 b1, .int .i64 b2]) hx1; have hv0 := hv.cell 0; have hv1 := hv.cell 1; simp at hs1 hv0 hv1) | (go_at_call 33; refine (HN.out _).mono ?_; rintro e w2 ⟨rfl, rfl⟩))
          go_roundg 1
          case measure => omega
          case rel => exact ⟨((HEW.out.alloc _).trans hx1), Or.inr (Or.inr (Or.inl ⟨rfl, by go_num, Q0.out, QN.out⟩))⟩
    · have p0 := (HP.out.ext HEW.out).cell 4
      have p1 := (HP.out.ext HEW.out).cell 5
      simp at p0 p1
      have Q0 := zH q0
      have Q1 := zH q1
      clear q0 q1
      cases ho : okPt c1 c2 with
      | false =>
        have HO := zH ho
        have hres := HF.out (by have h := (okAt_f1 (n := n) (i := 2) (p := (c1, c2)) HO.out); exact Or.inr (Or.inr h))
        have HRES := zH hres
        clear hres
        go_wp2_with (first | (go_at_call 31; refine (valid_any _ _ _).mono ?_; rintro e w1 ⟨rfl, hx1⟩; have hs1 := ((HS.out.ext HEW.out).ext (((Ext.refl _).alloc _).trans hx1)).cell 0; have hv := Blk.ext (Blk.new wr 33 #[.int .i64 c1, .int .i64 c2]) hx1; have hv0 := hv.cell 0; have hv1 := hv.cell 1; simp at hs1 hv0 hv1) | (go_at_call 33; refine (HN.out _).mono ?_; rintro e w2 ⟨rfl, rfl⟩))
        go_ret
        exact ⟨ret_bool HRES.out.symm, HE.out.trans ((HEW.out.alloc _).trans hx1)⟩
      | true =>
        have HO := zH ho
        by_cases hk : n ≤ 2
        · have HK := zH hk
          by_cases z1 : (c1 == 0) = true
          · by_cases z2 : (c2 == 0) = true
            · have QN := zH (okAt_t2 (n := n) (i := 2) (p := (c1, c2)) HO.out (by simp at z1 z2; rw [z1, z2]))
              go_wp2_with (first | (go_at_call 31; refine (valid_any _ _ _).mono ?_; rintro e w1 ⟨rfl, hx1⟩; have hs1 := ((HS.out.ext HEW.out).ext (((Ext.refl _).alloc _).trans hx1)).cell 0; have hv := Blk.ext (Blk.new wr 33 #[.int .i64 c1, .int .i64 c2]) hx1; have hv0 := hv.cell 0; have hv1 := hv.cell 1; simp at hs1 hv0 hv1) | (go_at_call 33; refine (HN.out _).mono ?_; rintro e w2 ⟨rfl, rfl⟩))
              go_roundg 0
              case measure => omega
              case rel => exact ⟨((HEW.out.alloc _).trans hx1), Or.inr (Or.inr (Or.inr ⟨rfl, by go_num, Q0.out, Q1.out, QN.out⟩))⟩
            · rw [Bool.not_eq_true] at z2
              have hres := HF.out (by have h := (okAt_f2 (n := n) (i := 2) (p := (c1, c2)) HK.out (by intro h; injection h with h1 h2; rw [h2] at z2; simp at z2)); exact Or.inr (Or.inr h))
              have HRES := zH hres
              clear hres
              go_wp2_with (first | (go_at_call 31; refine (valid_any _ _ _).mono ?_; rintro e w1 ⟨rfl, hx1⟩; have hs1 := ((HS.out.ext HEW.out).ext (((Ext.refl _).alloc _).trans hx1)).cell 0; have hv := Blk.ext (Blk.new wr 33 #[.int .i64 c1, .int .i64 c2]) hx1; have hv0 := hv.cell 0; have hv1 := hv.cell 1; simp at hs1 hv0 hv1) | (go_at_call 33; refine (HN.out _).mono ?_; rintro e w2 ⟨rfl, rfl⟩))
              go_ret
              exact ⟨ret_bool HRES.out.symm, HE.out.trans ((HEW.out.alloc _).trans hx1)⟩
          · rw [Bool.not_eq_true] at z1
            have hres := HF.out (by have h := (okAt_f2 (n := n) (i := 2) (p := (c1, c2)) HK.out (by intro h; injection h with h1 h2; rw [h1] at z1; simp at z1)); exact Or.inr (Or.inr h))
            have HRES := zH hres
            clear hres
            go_wp2_with (first | (go_at_call 31; refine (valid_any _ _ _).mono ?_; rintro e w1 ⟨rfl, hx1⟩; have hs1 := ((HS.out.ext HEW.out).ext (((Ext.refl _).alloc _).trans hx1)).cell 0; have hv := Blk.ext (Blk.new wr 33 #[.int .i64 c1, .int .i64 c2]) hx1; have hv0 := hv.cell 0; have hv1 := hv.cell 1; simp at hs1 hv0 hv1) | (go_at_call 33; refine (HN.out _).mono ?_; rintro e w2 ⟨rfl, rfl⟩))
            go_ret
            exact ⟨ret_bool HRES.out.symm, HE.out.trans ((HEW.out.alloc _).trans hx1)⟩
        · have QN := zH (okAt_t1 (n := n) (i := 2) (p := (c1, c2)) HO.out hk)
          go_wp2_with (first | (go_at_call 31; refine (valid_any _ _ _).mono ?_; rintro e w1 ⟨rfl, hx1⟩; have hs1 := ((HS.out.ext HEW.out).ext (((Ext.refl _).alloc _).trans hx1)).cell 0; have hv := Blk.ext (Blk.new wr 33 #[.int .i64 c1, .int .i64 c2]) hx1; have hv0 := hv.cell 0; have hv1 := hv.cell 1; simp at hs1 hv0 hv1) | (go_at_call 33; refine (HN.out _).mono ?_; rintro e w2 ⟨rfl, rfl⟩))
          go_roundg 0
          case measure => omega
          case rel => exact ⟨((HEW.out.alloc _).trans hx1), Or.inr (Or.inr (Or.inr ⟨rfl, by go_num, Q0.out, Q1.out, QN.out⟩))⟩
    · have HRES := zH (HT.out q0 q1 q2)
      clear q0 q1 q2
      go_wp2_with fail
      go_ret
      exact ⟨ret_bool HRES.out.symm, HE.out.trans HEW.out⟩
end Go.Proofs.Ytjkddchkjkocbaa

namespace Go.Proofs.Ytjkddchkjkocbaa
open Go.RowKit
attribute [local go_sem ↓] Go.wp_at_zero Go.wp_at_succ run_eql_point run_neq_point run_max_ii run_min_ii

def SegsAt (w : World) (g off : Nat) (l : List Sg) : Prop := ∀ i, i < l.length → ∃ v a1 a2 b1 b2 c1 c2 : Int, l.getD i sg0 = ⟨v, (a1, a2), (b1, b2), (c1, c2)⟩ ∧
  w.cell? ⟨g, off + i * 7, none⟩ = some (.int .i64 v) ∧ w.cell? ⟨g, off + i * 7 + 1, none⟩ = some (.int .i64 a1) ∧ w.cell? ⟨g, off + i * 7 + 2, none⟩ = some (.int .i64 a2) ∧ w.cell? ⟨g, off + i * 7 + 3, none⟩ = some (.int .i64 b1) ∧
  w.cell? ⟨g, off + i * 7 + 4, none⟩ = some (.int .i64 b2) ∧ w.cell? ⟨g, off + i * 7 + 5, none⟩ = some (.int .i64 c1) ∧ w.cell? ⟨g, off + i * 7 + 6, none⟩ = some (.int .i64 c2)
theorem SegsAt.ext {w w' : World} {g off : Nat} {l : List Sg} (h : SegsAt w g off l) (e : Ext w w') : SegsAt w' g off l := by
  intro i hi
  obtain ⟨v, a1, a2, b1, b2, c1, c2, h0, h1, h2, h3, h4, h5, h6, h7⟩ := h i hi
  exact ⟨v, a1, a2, b1, b2, c1, c2, h0, e.get h1, e.get h2, e.get h3, e.get h4, e.get h5, e.get h6, e.get h7⟩
def SegsV (w : World) (v : Value) (l : List Sg) : Prop := ∃ (A : Option Addr) (cap : Nat), v = .slice A l.length cap ∧ (l ≠ [] → ∃ g off, A = some ⟨g, off, none⟩ ∧ SegsAt w g off l)
theorem SegsV.ext {w w' : World} {v : Value} {l : List Sg} (h : SegsV w v l) (e : Ext w w') : SegsV w' v l := by
  obtain ⟨A, cap, hv, ha⟩ := h
  exact ⟨A, cap, hv, fun hn => by obtain ⟨g, off, hA, hp⟩ := ha hn; exact ⟨g, off, hA, hp.ext e⟩⟩
def okTo (l : List Sg) (k : Nat) : Prop := ∀ j, j < k → okSg (lastV l j) (l.getD j sg0) = true
def PV (l : List Sg) : Prop := l.length ≤ 256 ∧ okTo l l.length
theorem lastV_zero (l : List Sg) : lastV l 0 = 5 := rfl
theorem lastV_succ (l : List Sg) (k : Nat) : lastV l (k + 1) = (l.getD k sg0).v := rfl
theorem okTo_succ {l : List Sg} {k : Nat} (h : okTo l k) (h2 : okSg (lastV l k) (l.getD k sg0) = true) : okTo l (k + 1) := by
  intro j hj
  rcases Nat.lt_or_ge j k with h3 | h3
  · exact h j h3
  · obtain rfl : j = k := by omega
    exact h2
theorem not_PV {l : List Sg} {k : Nat} (hk : k < l.length) (h : okSg (lastV l k) (l.getD k sg0) = false) : ¬ PV l := fun hp => by
  have := hp.2 k hk
  rw [h] at this
  exact Bool.false_ne_true this
def ChkSays (l : List Sg) (w : World) (e : Ending) (w' : World) : Prop := ∃ er ix : Int, e = .returned (.tuple #[.int .i64 er, .int .i64 ix]) ∧ (er = 0 ↔ PV l) ∧ Ext w w'
theorem okSg_n {last : Int} {s : Sg} (h : namedV s.v < 0) : okSg last s = false := by
  have : decide (0 ≤ namedV s.v) = false := by simp; omega
  unfold okSg; rw [this]; rfl
theorem okSg_s {last : Int} {s : Sg} (h : standsV last s.v = false) : okSg last s = false := by unfold okSg; rw [h]; simp
theorem okSg_f {last : Int} {s : Sg} (h : fitsV s = false) : okSg last s = false := by unfold okSg; rw [h]; simp
theorem okSg_t {last : Int} {s : Sg} (h : ¬ namedV s.v < 0) (h2 : standsV last s.v = true) (h3 : fitsV s = true) : okSg last s = true := by
  have : decide (0 ≤ namedV s.v) = true := by simp; omega
  unfold okSg; rw [this, h2, h3]; rfl
set_option maxRecDepth 20000 in
set_option maxHeartbeats 4000000 in
theorem check_any (v : Value) (l : List Sg) (w : World) (hv : SegsV w v l) (hn : l.length ≤ 300) :
    Calls Try.prog 26 #[v] w (ChkSays l w) := by
  obtain ⟨A, cap, rfl, hA⟩ := hv
  by_cases hbig : 256 < l.length
  · have hp : ¬ PV l := fun h => by have := h.1; omega
    have HP := zH hp
    have hb : (256 : Int) < (l.length : Int) := by omega
    clear hp hA
    go_enter Try.func26, Try.ntmps26
    go_wp2_with fail
    go_ret2
    exact ⟨_, _, rfl, ⟨fun h => absurd h (by decide), fun h => absurd h HP.out⟩, Ext.refl _⟩
  · have hb : ¬ (256 : Int) < (l.length : Int) := by omega
    have HA := zH hA
    clear hA
    go_enter Try.func26, Try.ntmps26
    go_wp2_with fail
    go_loopg [4, 13] l.length (fun g last i wr => ∃ k : Nat, k ≤ l.length ∧ g = l.length - k ∧ i = .int .i64 k ∧ last = .int .i64 (lastV l k) ∧ okTo l k ∧ Ext w wr)
    case atStart => exact ⟨0, Nat.zero_le _, by omega, rfl, rfl, fun j hj => absurd hj (Nat.not_lt_zero _), Ext.refl _⟩
    case round =>
      obtain ⟨k, hk, rfl, rfl, rfl, ho, he⟩ := hrel
      have HO := zH ho
      have HE := zH he
      clear ho he
      by_cases hlt : k < l.length
      · obtain ⟨g, off, rfl, hs⟩ := HA.out (by rintro rfl; simp at hlt)
        obtain ⟨v, a1, a2, b1, b2, c1, c2, hg, h0, h1, h2, h3, h4, h5, h6⟩ := hs.ext HE.out k hlt
        have HBAD := zH (fun (h : okSg (lastV l k) ⟨v, (a1, a2), (b1, b2), (c1, c2)⟩ = false) => not_PV hlt (by rw [hg]; exact h))
        have HGOOD := zH (fun (h : okSg (lastV l k) ⟨v, (a1, a2), (b1, b2), (c1, c2)⟩ = true) => okTo_succ HO.out (by rw [hg]; exact h))
        have HL := zH (show lastV l (k + 1) = v by rw [lastV_succ, hg])
        have HN := zH (fun W => named_any v W)
        clear hs hg
        generalize hla : lastV l k = last at HBAD HGOOD ⊢
        clear hla
        generalize hn1 : namedV v = n at HN
        have HNV := zH hn1
        clear hn1
        go_upto_region 7 with fail
        go_cut [7] (fun s wx => s = .bool (standsV last v) ∧ wx = wr.alloc (.cells #[.int .i64 v, .int .i64 a1, .int .i64 a2, .int .i64 b1, .int .i64 b2, .int .i64 c1, .int .i64 c2] 35))
        case first =>
          cases e1 : (v == 1) with
          | true =>
            obtain rfl : v = 1 := by simpa using e1
            have HST := zH (show standsV last 1 = true from by unfold standsV; simp [*])
            go_wp2_with fail
            go_meet
            exact ⟨by rw [HST.out], rfl⟩
          | false =>
            cases e5 : (last == 5) with
            | true =>
              obtain rfl : last = 5 := by simpa using e5
              have HST := zH (show standsV 5 v = false from by simp at e1; unfold standsV; simp [*])
              go_wp2_with fail
              go_meet
              exact ⟨by rw [HST.out], rfl⟩
            | false =>
              cases f5 : (v == 5) with
              | false =>
                have e5n : (last != 5) = true := by simp [bne, e5]
                have f5n : (v != 5) = true := by simp [bne, f5]
                have HST := zH (show standsV last v = true from by simp at e1 e5 f5; unfold standsV; simp [*])
                go_wp2_with fail
                go_meet
                exact ⟨by rw [HST.out], rfl⟩
              | true =>
                obtain rfl : v = 5 := by simpa using f5
                cases g1 : (last == 1) with
                | true =>
                  obtain rfl : last = 1 := by simpa using g1
                  have HST := zH (show standsV 1 5 = false from by simp at e1 e5; unfold standsV; simp [*])
                  go_wp2_with fail
                  go_meet
                  exact ⟨by rw [HST.out], rfl⟩
                | false =>
                  have e5n : (last != 5) = true := by simp [bne, e5]
                  have g1n : (last != 1) = true := by simp [bne, g1]
                  have HST := zH (show standsV last 5 = true from by simp at e1 e5 g1; unfold standsV; simp [*])
                  go_wp2_with fail
                  go_meet
                  exact ⟨by rw [HST.out], rfl⟩
        case rest =>
          obtain ⟨rfl, rfl⟩ := hcut
          by_cases hng : n < 0
          · have HR := zH (HBAD.out (okSg_n (s := ⟨v, (a1, a2), (b1, b2), (c1, c2)⟩) (by have := HNV.out; show namedV v < 0; omega)))
            go_wp2_with (first | (go_at_call 33; refine (HN.out _).mono ?_; rintro e w2 ⟨rfl, rfl⟩) | (go_at_call 34; refine (fits_any _ _ _ _ _ _ _ _).mono ?_; rintro e w3 ⟨rfl, hx3⟩; have hv := Blk.ext (Blk.new wr 35 #[.int .i64 v, .int .i64 a1, .int .i64 a2, .int .i64 b1, .int .i64 b2, .int .i64 c1, .int .i64 c2]) hx3; have hv0 := hv.cell 0; simp at hv0))
            go_ret2
            exact ⟨_, _, rfl, ⟨fun h => absurd h (by decide), fun h => absurd h HR.out⟩, HE.out.trans ((Ext.refl _).alloc _)⟩
          · have HNN := zH hng
            cases hst : standsV last v with
            | false =>
              have HST := zH hst
              have HR := zH (HBAD.out (okSg_s (s := ⟨v, (a1, a2), (b1, b2), (c1, c2)⟩) HST.out))
              go_wp2_with (first | (go_at_call 33; refine (HN.out _).mono ?_; rintro e w2 ⟨rfl, rfl⟩) | (go_at_call 34; refine (fits_any _ _ _ _ _ _ _ _).mono ?_; rintro e w3 ⟨rfl, hx3⟩; have hv := Blk.ext (Blk.new wr 35 #[.int .i64 v, .int .i64 a1, .int .i64 a2, .int .i64 b1, .int .i64 b2, .int .i64 c1, .int .i64 c2]) hx3; have hv0 := hv.cell 0; simp at hv0))
              go_ret2
              exact ⟨_, _, rfl, ⟨fun h => absurd h (by decide), fun h => absurd h HR.out⟩, HE.out.trans ((Ext.refl _).alloc _)⟩
            | true =>
              have HST := zH hst
              cases hf : fitsV ⟨v, (a1, a2), (b1, b2), (c1, c2)⟩ with
              | false =>
                have HF := zH hf
                have HR := zH (HBAD.out (okSg_f HF.out))
                go_wp2_with (first | (go_at_call 33; refine (HN.out _).mono ?_; rintro e w2 ⟨rfl, rfl⟩) | (go_at_call 34; refine (fits_any _ _ _ _ _ _ _ _).mono ?_; rintro e w3 ⟨rfl, hx3⟩; have hv := Blk.ext (Blk.new wr 35 #[.int .i64 v, .int .i64 a1, .int .i64 a2, .int .i64 b1, .int .i64 b2, .int .i64 c1, .int .i64 c2]) hx3; have hv0 := hv.cell 0; simp at hv0))
                go_ret2
                exact ⟨_, _, rfl, ⟨fun h => absurd h (by decide), fun h => absurd h HR.out⟩, HE.out.trans (((Ext.refl _).alloc _).trans hx3)⟩
              | true =>
                have HF := zH hf
                have HG := zH (HGOOD.out (okSg_t (s := ⟨v, (a1, a2), (b1, b2), (c1, c2)⟩) (by have := HNV.out; have := HNN.out; show ¬ namedV v < 0; omega) (HST.out) HF.out))
                go_wp2_with (first | (go_at_call 33; refine (HN.out _).mono ?_; rintro e w2 ⟨rfl, rfl⟩) | (go_at_call 34; refine (fits_any _ _ _ _ _ _ _ _).mono ?_; rintro e w3 ⟨rfl, hx3⟩; have hv := Blk.ext (Blk.new wr 35 #[.int .i64 v, .int .i64 a1, .int .i64 a2, .int .i64 b1, .int .i64 b2, .int .i64 c1, .int .i64 c2]) hx3; have hv0 := hv.cell 0; simp at hv0))
                go_roundg (l.length - (k + 1))
                case measure => omega
                case rel => exact ⟨k + 1, hlt, rfl, by go_num, by rw [HL.out], HG.out, HE.out.trans (((Ext.refl _).alloc _).trans hx3)⟩
      · have HR := zH (show PV l from ⟨by omega, by have h := HO.out; rwa [show k = l.length by omega] at h⟩)
        have hge : ¬ (k : Int) < (l.length : Int) := by omega
        go_wp2_with fail
        go_ret2
        exact ⟨_, _, rfl, ⟨fun _ => HR.out, fun _ => rfl⟩, HE.out⟩

theorem pathValid_any (v : Value) (l : List Sg) (w : World) (hv : SegsV w v l) (hn : l.length ≤ 300) :
    Calls Try.prog 12 #[v] w fun e w' => ∃ b : Bool, e = .returned (.bool b) ∧ (b = true ↔ PV l) ∧ Ext w w' := by
  have HC := zH (check_any v l w hv hn)
  clear hv
  go_enter Try.func12, Try.ntmps12
  go_wp2_with (first | (go_at_call 26; refine HC.out.mono ?_; rintro e w1 ⟨er, ix, rfl, hr, hx⟩; have HR := zH hr))
  go_ret
  exact ⟨er == 0, rfl, by rw [← HR.out]; simp, hx⟩

end Go.Proofs.Ytjkddchkjkocbaa

namespace Go.Proofs.Ytjkddchkjkocbaa
open Go.RowKit
attribute [local go_sem ↓] Go.wp_at_zero Go.wp_at_succ run_eql_point run_neq_point run_max_ii run_min_ii

theorem rnamed_any (v : Int) (w : World) :
    Calls Try.prog 43 #[.int .i64 v] w fun e w' => e = .returned (.int .i64 (namedV v)) ∧ w = w' := by
  go_enter Try.func43, Try.ntmps43
  by_cases h4 : v = 4
  · subst h4
    go_wp2_with fail
    go_ret
    exact ⟨rfl, rfl⟩
  · have b4 : (v == 4) = false := by simpa using h4
    by_cases h3 : v = 3
    · subst h3
      go_wp2_with fail
      go_ret
      exact ⟨rfl, rfl⟩
    · have b3 : (v == 3) = false := by simpa using h3
      by_cases h1 : v = 1
      · subst h1
        go_wp2_with fail
        go_ret
        exact ⟨rfl, rfl⟩
      · have b1 : (v == 1) = false := by simpa using h1
        by_cases h2 : v = 2
        · subst h2
          go_wp2_with fail
          go_ret
          exact ⟨rfl, rfl⟩
        · have b2 : (v == 2) = false := by simpa using h2
          by_cases h5 : v = 5
          · subst h5
            go_wp2_with fail
            go_ret
            exact ⟨rfl, rfl⟩
          · have b5 : (v == 5) = false := by simpa using h5
            have hn : namedV v = -1 := by unfold namedV; simp [h1, h2, h3, h4, h5]
            rw [hn]
            clear h1 h2 h3 h4 h5 hn
            go_wp2_with fail
            go_ret
            exact ⟨rfl, rfl⟩

theorem three_any (v a1 a2 b1 b2 c1 c2 : Int) (w : World) :
    Calls Try.prog 45 #[.agg #[.int .i64 v, .int .i64 a1, .int .i64 a2, .int .i64 b1, .int .i64 b2, .int .i64 c1, .int .i64 c2]] w fun e w' => e = .returned (.agg #[.int .i64 a1, .int .i64 a2, .int .i64 b1, .int .i64 b2, .int .i64 c1, .int .i64 c2]) ∧ Ext w w' := by
  have hE : Ext w ((w.alloc (.cells #[.int .i64 v, .int .i64 a1, .int .i64 a2, .int .i64 b1, .int .i64 b2, .int .i64 c1, .int .i64 c2] 35)).alloc (.cells #[.int .i64 a1, .int .i64 a2, .int .i64 b1, .int .i64 b2, .int .i64 c1, .int .i64 c2] 37)) := ((Ext.refl _).alloc _).alloc _
  go_enter Try.func45, Try.ntmps45
  go_wp2_with fail
  refine bodyPost_ret (v := .agg #[.int .i64 a1, .int .i64 a2, .int .i64 b1, .int .i64 b2, .int .i64 c1, .int .i64 c2]) (by simp [results, Try.results45, go_sem]) rfl ⟨rfl, hE⟩
set_option maxRecDepth 20000 in
set_option maxHeartbeats 4000000 in
theorem rstands_any (g off cap k : Nat) (l : List Sg) (w : World) (hk : k < l.length) (hs : SegsAt w g off l) (hn : l.length ≤ 300) :
    Calls Try.prog 44 #[.slice (some ⟨g, off, none⟩) l.length cap, .int .i64 k] w fun e w' => e = .returned (.bool (standsV (lastV l k) (l.getD k sg0).v)) ∧ w = w' := by
  obtain ⟨v, a1, a2, b1, b2, c1, c2, hg, h0, _⟩ := hs k hk
  rw [hg]
  cases k with
  | zero =>
    have HR := zH (show (v == 1) = standsV (lastV l 0) v by rw [lastV_zero]; unfold standsV; simp)
    simp only [Nat.zero_mul, Nat.add_zero] at h0
    clear hs hg
    have q5 : (0 : Int) < (l.length : Int) := by omega
    go_enter Try.func44, Try.ntmps44
    go_wp2_with fail
    go_ret
    exact ⟨ret_bool HR.out, rfl⟩
  | succ j =>
    obtain ⟨u, d1, d2, e1, e2, f1, f2, hg2, g0, _⟩ := hs j (by omega)
    have hl : lastV l (j + 1) = u := by rw [lastV_succ, hg2]
    rw [hl]
    have q1 : ((j + 1 : Nat) : Int) - 1 = (j : Int) := by omega
    have q2 : (((j + 1 : Nat) : Int) == 0) = false := by simp; omega
    have q3 : ((j : Int) + 1 - 1) = (j : Int) := by omega
    have q4 : ((j : Int) + 1 == 0) = false := by simp; omega
    have q5 : (0 : Int) ≤ (j : Int) ∧ (j : Int) < (l.length : Int) := by omega
    have q6 : (j : Int) + 1 < (l.length : Int) := by omega
    clear hs hg hg2 hl
    cases e5 : (u == 5) with
    | true =>
      obtain rfl : u = 5 := by simpa using e5
      have HR := zH (show (v == 1) = standsV 5 v by unfold standsV; simp)
      go_enter Try.func44, Try.ntmps44
      go_wp2_with fail
      go_ret
      exact ⟨ret_bool HR.out, rfl⟩
    | false =>
      cases f5 : (v == 5) with
      | false =>
        have f5n : (v != 5) = true := by simp [bne, f5]
        have HR := zH (show true = standsV u v by simp at e5 f5; unfold standsV; simp [e5, f5])
        go_enter Try.func44, Try.ntmps44
        go_wp2_with fail
        go_ret
        exact ⟨ret_bool HR.out, rfl⟩
      | true =>
        obtain rfl : v = 5 := by simpa using f5
        have HR := zH (show (u != 1) = standsV u 5 by simp at e5; unfold standsV; simp [e5, bne])
        go_enter Try.func44, Try.ntmps44
        go_wp2_with fail
        go_ret
        exact ⟨ret_bool HR.out, rfl⟩

end Go.Proofs.Ytjkddchkjkocbaa

namespace Go.Proofs.Ytjkddchkjkocbaa
open Go.RowKit
attribute [local go_sem ↓] Go.wp_at_zero Go.wp_at_succ run_eql_point run_neq_point run_max_ii run_min_ii

set_option maxRecDepth 20000 in
set_option maxHeartbeats 8000000 in
theorem rwrong_any (g off cap k : Nat) (l : List Sg) (w : World) (hk : k < l.length) (hs : SegsAt w g off l) (hn : l.length ≤ 300) :
    Calls Try.prog 38 #[.slice (some ⟨g, off, none⟩) l.length cap, .int .i64 k] w fun e w' => ∃ er : Int, e = .returned (.int .i64 er) ∧ (er = 0 ↔ okSg (lastV l k) (l.getD k sg0) = true) ∧ Ext w w' := by
  have HST := zH (rstands_any g off cap k l w hk hs hn)
  obtain ⟨v, a1, a2, b1, b2, c1, c2, hg, h0, h1, h2, h3, h4, h5, h6⟩ := hs k hk
  rw [hg] at HST ⊢
  generalize lastV l k = last at HST ⊢
  have HN := zH (fun W => rnamed_any v W)
  generalize hn1 : namedV v = n at HN
  have HNV := zH hn1
  have q1 : (k : Int) < (l.length : Int) := by omega
  clear hs hg hn1 hk
  generalize hst : standsV last v = st at HST
  have HSV := zH hst
  clear hst
  by_cases hng : n < 0
  · have HR := zH (okSg_n (last := last) (s := ⟨v, (a1, a2), (b1, b2), (c1, c2)⟩) (by have := HNV.out; show namedV v < 0; omega))
    go_enter Try.func38, Try.ntmps38
    go_wp2_with (first | (go_at_call 43; refine (HN.out _).mono ?_; rintro e w2 ⟨rfl, rfl⟩))
    go_ret
    exact ⟨_, rfl, ⟨fun h => absurd h (by decide), fun h => by rw [HR.out] at h; cases h⟩, Ext.refl _⟩
  · cases st with
    | false =>
      have HR := zH (okSg_s (s := ⟨v, (a1, a2), (b1, b2), (c1, c2)⟩) HSV.out)
      go_enter Try.func38, Try.ntmps38
      go_wp2_with (first | (go_at_call 43; refine (HN.out _).mono ?_; rintro e w2 ⟨rfl, rfl⟩) | (go_at_call 44; refine HST.out.mono ?_; rintro e w3 ⟨rfl, rfl⟩))
      go_ret
      exact ⟨_, rfl, ⟨fun h => absurd h (by decide), fun h => by rw [HR.out] at h; cases h⟩, Ext.refl _⟩
    | true =>
      have HNN := zH hng
      have HF := zH (show okAt n 0 (a1, a2) = false ∨ okAt n 1 (b1, b2) = false ∨ okAt n 2 (c1, c2) = false → okSg last ⟨v, (a1, a2), (b1, b2), (c1, c2)⟩ = false by
        have := HNV.out
        subst this
        intro h
        refine okSg_f ?_
        unfold fitsV
        rcases h with h | h | h <;> simp [h])
      have HT := zH (show okAt n 0 (a1, a2) = true → okAt n 1 (b1, b2) = true → okAt n 2 (c1, c2) = true → okSg last ⟨v, (a1, a2), (b1, b2), (c1, c2)⟩ = true by
        have := HNV.out
        subst this
        intro h1 h2 h3
        refine okSg_t HNN.out HSV.out ?_
        unfold fitsV
        simp [h1, h2, h3])
      go_enter Try.func38, Try.ntmps38
      go_wp2_with (first | (go_at_call 43; refine (HN.out _).mono ?_; rintro e w2 ⟨rfl, rfl⟩) | (go_at_call 44; refine HST.out.mono ?_; rintro e w3 ⟨rfl, rfl⟩) | (go_at_call 45; refine (three_any _ _ _ _ _ _ _ _).mono ?_; rintro e w4 ⟨rfl, hx4⟩))
      have hP : Blk (w4.alloc (.cells #[.int .i64 a1, .int .i64 a2, .int .i64 b1, .int .i64 b2, .int .i64 c1, .int .i64 c2] 37)) w4.heap.size 37 #[.int .i64 a1, .int .i64 a2, .int .i64 b1, .int .i64 b2, .int .i64 c1, .int .i64 c2] := Blk.new _ _ _
      have hE := hx4.alloc (.cells #[.int .i64 a1, .int .i64 a2, .int .i64 b1, .int .i64 b2, .int .i64 c1, .int .i64 c2] 37)
      clear h0 h1 h2 h3 h4 h5 h6 hx4
      generalize w4.alloc (.cells #[.int .i64 a1, .int .i64 a2, .int .i64 b1, .int .i64 b2, .int .i64 c1, .int .i64 c2] 37) = wa at *
      generalize w4.heap.size = X at *
      have HE := zH hE
      have HP := zH hP
      clear hE hP
      go_loopg [7] 3 (fun g i wr => Ext wa wr ∧ ((g = 3 ∧ i = .int .i64 0) ∨ (g = 2 ∧ i = .int .i64 1 ∧ okAt n 0 (a1, a2) = true) ∨ (g = 1 ∧ i = .int .i64 2 ∧ okAt n 0 (a1, a2) = true ∧ okAt n 1 (b1, b2) = true) ∨ (g = 0 ∧ i = .int .i64 3 ∧ okAt n 0 (a1, a2) = true ∧ okAt n 1 (b1, b2) = true ∧ okAt n 2 (c1, c2) = true)))
      case atStart => exact ⟨Ext.refl _, Or.inl ⟨rfl, rfl⟩⟩
      case round =>
        obtain ⟨he, hrel⟩ := hrel
        have HEW := zH he
        clear he
        rcases hrel with ⟨rfl, rfl⟩ | ⟨rfl, rfl, q0⟩ | ⟨rfl, rfl, q0, q1'⟩ | ⟨rfl, rfl, q0, q1', q2⟩
        · have p0 := (HP.out.ext HEW.out).cell 0
          have p1 := (HP.out.ext HEW.out).cell 1
          simp at p0 p1
          by_cases hk : n ≤ 0
          · have HK := zH hk
            have hk2 : ¬ (0 : Int) < n := by omega
            by_cases z1 : (a1 == 0) = true
            · by_cases z2 : (a2 == 0) = true
              · have QN := zH (okAt_t2 (n := n) (i := 0) (p := (a1, a2)) (by simp at z1 z2; rw [z1, z2]; decide) (by simp at z1 z2; rw [z1, z2]))
                go_wp2_with (first | (go_at_call 46; refine (rvalid_any _ _ _).mono ?_; rintro e w1 ⟨rfl, hx1⟩))
                go_roundg 2
                case measure => omega
                case rel => exact ⟨HEW.out, Or.inr (Or.inl ⟨rfl, by go_num, QN.out⟩)⟩
              · rw [Bool.not_eq_true] at z2
                have HRES := zH (HF.out (by have h := (okAt_f2 (n := n) (i := 0) (p := (a1, a2)) HK.out (by intro h; injection h with h1 h2; rw [h2] at z2; simp at z2)); exact Or.inl h))
                go_wp2_with (first | (go_at_call 46; refine (rvalid_any _ _ _).mono ?_; rintro e w1 ⟨rfl, hx1⟩))
                go_ret
                exact ⟨_, rfl, ⟨fun h => absurd h (by decide), fun h => by rw [HRES.out] at h; cases h⟩, HE.out.trans HEW.out⟩
            · rw [Bool.not_eq_true] at z1
              have HRES := zH (HF.out (by have h := (okAt_f2 (n := n) (i := 0) (p := (a1, a2)) HK.out (by intro h; injection h with h1 h2; rw [h1] at z1; simp at z1)); exact Or.inl h))
              go_wp2_with (first | (go_at_call 46; refine (rvalid_any _ _ _).mono ?_; rintro e w1 ⟨rfl, hx1⟩))
              go_ret
              exact ⟨_, rfl, ⟨fun h => absurd h (by decide), fun h => by rw [HRES.out] at h; cases h⟩, HE.out.trans HEW.out⟩
          · have HK := zH hk
            have hk2 : (0 : Int) < n := by omega
            cases ho : okPt a1 a2 with
            | false =>
              have HO := zH ho
              have HRES := zH (HF.out (by have h := (okAt_f1 (n := n) (i := 0) (p := (a1, a2)) HO.out); exact Or.inl h))
              go_wp2_with (first | (go_at_call 46; refine (rvalid_any _ _ _).mono ?_; rintro e w1 ⟨rfl, hx1⟩))
              go_ret
              exact ⟨_, rfl, ⟨fun h => absurd h (by decide), fun h => by rw [HRES.out] at h; cases h⟩, HE.out.trans (HEW.out.trans hx1)⟩
            | true =>
              have HO := zH ho
              have QN := zH (okAt_t1 (n := n) (i := 0) (p := (a1, a2)) HO.out HK.out)
              go_wp2_with (first | (go_at_call 46; refine (rvalid_any _ _ _).mono ?_; rintro e w1 ⟨rfl, hx1⟩))
              go_roundg 2
              case measure => omega
              case rel => exact ⟨(HEW.out.trans hx1), Or.inr (Or.inl ⟨rfl, by go_num, QN.out⟩)⟩
        · have p0 := (HP.out.ext HEW.out).cell 2
          have p1 := (HP.out.ext HEW.out).cell 3
          simp at p0 p1
          have Q0 := zH q0
          clear q0
          by_cases hk : n ≤ 1
          · have HK := zH hk
            have hk2 : ¬ (1 : Int) < n := by omega
            by_cases z1 : (b1 == 0) = true
            · by_cases z2 : (b2 == 0) = true
              · have QN := zH (okAt_t2 (n := n) (i := 1) (p := (b1, b2)) (by simp at z1 z2; rw [z1, z2]; decide) (by simp at z1 z2; rw [z1, z2]))
                go_wp2_with (first | (go_at_call 46; refine (rvalid_any _ _ _).mono ?_; rintro e w1 ⟨rfl, hx1⟩))
                go_roundg 1
                case measure => omega
                case rel => exact ⟨HEW.out, Or.inr (Or.inr (Or.inl ⟨rfl, by go_num, Q0.out, QN.out⟩))⟩
              · rw [Bool.not_eq_true] at z2
                have HRES := zH (HF.out (by have h := (okAt_f2 (n := n) (i := 1) (p := (b1, b2)) HK.out (by intro h; injection h with h1 h2; rw [h2] at z2; simp at z2)); exact Or.inr (Or.inl h)))
                go_wp2_with (first | (go_at_call 46; refine (rvalid_any _ _ _).mono ?_; rintro e w1 ⟨rfl, hx1⟩))
                go_ret
                exact ⟨_, rfl, ⟨fun h => absurd h (by decide), fun h => by rw [HRES.out] at h; cases h⟩, HE.out.trans HEW.out⟩
            · rw [Bool.not_eq_true] at z1
              have HRES := zH (HF.out (by have h := (okAt_f2 (n := n) (i := 1) (p := (b1, b2)) HK.out (by intro h; injection h with h1 h2; rw [h1] at z1; simp at z1)); exact Or.inr (Or.inl h)))
              go_wp2_with (first | (go_at_call 46; refine (rvalid_any _ _ _).mono ?_; rintro e w1 ⟨rfl, hx1⟩))
              go_ret
              exact ⟨_, rfl, ⟨fun h => absurd h (by decide), fun h => by rw [HRES.out] at h; cases h⟩, HE.out.trans HEW.out⟩
          · have HK := zH hk
            have hk2 : (1 : Int) < n := by omega
            cases ho : okPt b1 b2 with
            | false =>
              have HO := zH ho
              have HRES := zH (HF.out (by have h := (okAt_f1 (n := n) (i := 1) (p := (b1, b2)) HO.out); exact Or.inr (Or.inl h)))
              go_wp2_with (first | (go_at_call 46; refine (rvalid_any _ _ _).mono ?_; rintro e w1 ⟨rfl, hx1⟩))
              go_ret
              exact ⟨_, rfl, ⟨fun h => absurd h (by decide), fun h => by rw [HRES.out] at h; cases h⟩, HE.out.trans (HEW.out.trans hx1)⟩
            | true =>
              have HO := zH ho
              have QN := zH (okAt_t1 (n := n) (i := 1) (p := (b1, b2)) HO.out HK.out)
              go_wp2_with (first | (go_at_call 46; refine (rvalid_any _ _ _).mono ?_; rintro e w1 ⟨rfl, hx1⟩))
              go_roundg 1
              case measure => omega
              case rel => exact ⟨(HEW.out.trans hx1), Or.inr (Or.inr (Or.inl ⟨rfl, by go_num, Q0.out, QN.out⟩))⟩
        · have p0 := (HP.out.ext HEW.out).cell 4
          have p1 := (HP.out.ext HEW.out).cell 5
          simp at p0 p1
          have Q0 := zH q0
          have Q1 := zH q1'
          clear q0 q1'
          by_cases hk : n ≤ 2
          · have HK := zH hk
            have hk2 : ¬ (2 : Int) < n := by omega
            by_cases z1 : (c1 == 0) = true
            · by_cases z2 : (c2 == 0) = true
              · have QN := zH (okAt_t2 (n := n) (i := 2) (p := (c1, c2)) (by simp at z1 z2; rw [z1, z2]; decide) (by simp at z1 z2; rw [z1, z2]))
                go_wp2_with (first | (go_at_call 46; refine (rvalid_any _ _ _).mono ?_; rintro e w1 ⟨rfl, hx1⟩))
                go_roundg 0
                case measure => omega
                case rel => exact ⟨HEW.out, Or.inr (Or.inr (Or.inr ⟨rfl, by go_num, Q0.out, Q1.out, QN.out⟩))⟩
              · rw [Bool.not_eq_true] at z2
                have HRES := zH (HF.out (by have h := (okAt_f2 (n := n) (i := 2) (p := (c1, c2)) HK.out (by intro h; injection h with h1 h2; rw [h2] at z2; simp at z2)); exact Or.inr (Or.inr h)))
                go_wp2_with (first | (go_at_call 46; refine (rvalid_any _ _ _).mono ?_; rintro e w1 ⟨rfl, hx1⟩))
                go_ret
                exact ⟨_, rfl, ⟨fun h => absurd h (by decide), fun h => by rw [HRES.out] at h; cases h⟩, HE.out.trans HEW.out⟩
            · rw [Bool.not_eq_true] at z1
              have HRES := zH (HF.out (by have h := (okAt_f2 (n := n) (i := 2) (p := (c1, c2)) HK.out (by intro h; injection h with h1 h2; rw [h1] at z1; simp at z1)); exact Or.inr (Or.inr h)))
              go_wp2_with (first | (go_at_call 46; refine (rvalid_any _ _ _).mono ?_; rintro e w1 ⟨rfl, hx1⟩))
              go_ret
              exact ⟨_, rfl, ⟨fun h => absurd h (by decide), fun h => by rw [HRES.out] at h; cases h⟩, HE.out.trans HEW.out⟩
          · have HK := zH hk
            have hk2 : (2 : Int) < n := by omega
            cases ho : okPt c1 c2 with
            | false =>
              have HO := zH ho
              have HRES := zH (HF.out (by have h := (okAt_f1 (n := n) (i := 2) (p := (c1, c2)) HO.out); exact Or.inr (Or.inr h)))
              go_wp2_with (first | (go_at_call 46; refine (rvalid_any _ _ _).mono ?_; rintro e w1 ⟨rfl, hx1⟩))
              go_ret
              exact ⟨_, rfl, ⟨fun h => absurd h (by decide), fun h => by rw [HRES.out] at h; cases h⟩, HE.out.trans (HEW.out.trans hx1)⟩
            | true =>
              have HO := zH ho
              have QN := zH (okAt_t1 (n := n) (i := 2) (p := (c1, c2)) HO.out HK.out)
              go_wp2_with (first | (go_at_call 46; refine (rvalid_any _ _ _).mono ?_; rintro e w1 ⟨rfl, hx1⟩))
              go_roundg 0
              case measure => omega
              case rel => exact ⟨(HEW.out.trans hx1), Or.inr (Or.inr (Or.inr ⟨rfl, by go_num, Q0.out, Q1.out, QN.out⟩))⟩
        · have HRES := zH (HT.out q0 q1' q2)
          clear q0 q1' q2
          go_wp2_with fail
          go_ret
          exact ⟨_, rfl, ⟨fun _ => HRES.out, fun _ => rfl⟩, HE.out.trans HEW.out⟩

set_option maxRecDepth 20000 in
set_option maxHeartbeats 4000000 in
theorem rcheck_any (v : Value) (l : List Sg) (w : World) (hv : SegsV w v l) (hn : l.length ≤ 300) :
    Calls Try.prog 28 #[v] w (ChkSays l w) := by
  obtain ⟨A, cap, rfl, hA⟩ := hv
  by_cases hbig : 256 < l.length
  · have hp : ¬ PV l := fun h => by have := h.1; omega
    have HP := zH hp
    have hb : (256 : Int) < (l.length : Int) := by omega
    clear hp hA
    go_enter Try.func28, Try.ntmps28
    go_wp2_with fail
    go_ret2
    exact ⟨_, _, rfl, ⟨fun h => absurd h (by decide), fun h => absurd h HP.out⟩, Ext.refl _⟩
  · have hb : ¬ (256 : Int) < (l.length : Int) := by omega
    have HA := zH hA
    clear hA
    go_enter Try.func28, Try.ntmps28
    go_wp2_with fail
    go_loopg [4] l.length (fun g i wr => ∃ k : Nat, k ≤ l.length ∧ g = l.length - k ∧ i = .int .i64 k ∧ okTo l k ∧ Ext w wr)
    case atStart => exact ⟨0, Nat.zero_le _, by omega, rfl, fun j hj => absurd hj (Nat.not_lt_zero _), Ext.refl _⟩
    case round =>
      obtain ⟨k, hk, rfl, rfl, ho, he⟩ := hrel
      have HO := zH ho
      have HE := zH he
      clear ho he
      by_cases hlt : k < l.length
      · obtain ⟨g, off, rfl, hs⟩ := HA.out (by rintro rfl; simp at hlt)
        have HW := zH (rwrong_any g off cap k l wr hlt (hs.ext HE.out) hn)
        have hlt2 : (k : Int) < (l.length : Int) := by omega
        clear hs
        go_upto_region 7 with (first | (go_at_call 38; refine HW.out.mono ?_; rintro e w1 ⟨er, rfl, hr, hx⟩; have HR := zH hr; have HX := zH hx; clear hr hx))
        cases hz : (er == 0) with
        | true =>
          obtain rfl : er = 0 := by simpa using hz
          go_wp2_with fail
          go_roundg (l.length - (k + 1))
          case measure => omega
          case rel => exact ⟨k + 1, hlt, rfl, by go_num, okTo_succ HO.out (HR.out.1 (by trivial)), HE.out.trans HX.out⟩
        | false =>
          have hz2 : (er != 0) = true := by simp [bne, hz]
          have HZ := zH (show er ≠ 0 by simpa using hz)
          go_wp2_with fail
          go_ret2
          exact ⟨_, _, rfl, ⟨fun h => absurd h HZ.out, fun h => absurd (HR.out.2 (h.2 k hlt)) HZ.out⟩, HE.out.trans HX.out⟩
      · have HR := zH (show PV l from ⟨by omega, by have h := HO.out; rwa [show k = l.length by omega] at h⟩)
        have hge : ¬ (k : Int) < (l.length : Int) := by omega
        go_wp2_with fail
        go_ret2
        exact ⟨_, _, rfl, ⟨fun _ => HR.out, fun _ => rfl⟩, HE.out⟩

theorem rpathValid_any (v : Value) (l : List Sg) (w : World) (hv : SegsV w v l) (hn : l.length ≤ 300) :
    Calls Try.prog 15 #[v] w fun e w' => ∃ b : Bool, e = .returned (.bool b) ∧ (b = true ↔ PV l) ∧ Ext w w' := by
  have HC := zH (rcheck_any v l w hv hn)
  clear hv
  go_enter Try.func15, Try.ntmps15
  go_wp2_with (first | (go_at_call 28; refine HC.out.mono ?_; rintro e w1 ⟨er, ix, rfl, hr, hx⟩; have HR := zH hr))
  go_ret
  exact ⟨er == 0, rfl, by rw [← HR.out]; simp, hx⟩

end Go.Proofs.Ytjkddchkjkocbaa

namespace Go.Proofs.Ytjkddchkjkocbaa.Nm

def val : List Nat → Nat
  | [] => 0
  | x :: xs => x + 4294967296 * val xs

def digs (n : Nat) : List Nat := if n = 0 then [] else (n % 4294967296) :: digs (n / 4294967296)
termination_by n
decreasing_by omega

def Dg (xs : List Nat) : Prop := ∀ x, x ∈ xs → x < 4294967296

def nl (n : Nat) : Nat := (digs n).length

theorem digs_zero : digs 0 = [] := by rw [digs]; simp
theorem digs_pos {n : Nat} (h : n ≠ 0) : digs n = (n % 4294967296) :: digs (n / 4294967296) := by rw [digs, if_neg h]
theorem val_cons (x : Nat) (xs : List Nat) : val (x :: xs) = x + 4294967296 * val xs := rfl

theorem val_digs (n : Nat) : val (digs n) = n := by
  induction n using Nat.strongRecOn with
  | _ n ih =>
    by_cases h : n = 0
    · subst h; rw [digs_zero]; rfl
    · rw [digs_pos h, val_cons, ih (n / 4294967296) (by omega)]; omega

theorem Dg.tail {x : Nat} {xs : List Nat} (h : Dg (x :: xs)) : Dg xs := fun y hy => h y (List.mem_cons_of_mem _ hy)
theorem Dg.head {x : Nat} {xs : List Nat} (h : Dg (x :: xs)) : x < 4294967296 := h x List.mem_cons_self
theorem Dg.nil : Dg [] := fun _ h => by cases h
theorem Dg.cons {x : Nat} {xs : List Nat} (hx : x < 4294967296) (h : Dg xs) : Dg (x :: xs) := fun y hy => by
  rcases List.mem_cons.1 hy with rfl | hy
  · exact hx
  · exact h y hy
theorem Dg.take {xs : List Nat} (h : Dg xs) (k : Nat) : Dg (xs.take k) := fun y hy => h y (List.mem_of_mem_take hy)
theorem Dg.drop {xs : List Nat} (h : Dg xs) (k : Nat) : Dg (xs.drop k) := fun y hy => h y (List.mem_of_mem_drop hy)
theorem Dg.append {xs ys : List Nat} (h : Dg xs) (k : Dg ys) : Dg (xs ++ ys) := fun y hy => by
  rcases List.mem_append.1 hy with hy | hy
  · exact h y hy
  · exact k y hy
theorem Dg.set {xs : List Nat} (h : Dg xs) (i : Nat) {d : Nat} (hd : d < 4294967296) : Dg (xs.set i d) := fun y hy => by
  rcases List.mem_or_eq_of_mem_set hy with hy | rfl
  · exact h y hy
  · exact hd
theorem Dg.getD {xs : List Nat} (h : Dg xs) (i : Nat) : xs.getD i 0 < 4294967296 := by
  rw [List.getD_eq_getElem?_getD]
  by_cases hi : i < xs.length
  · rw [List.getElem?_eq_getElem hi]; exact h _ (List.getElem_mem hi)
  · rw [List.getElem?_eq_none (by omega)]; simp
theorem Dg.get {xs : List Nat} (h : Dg xs) {i : Nat} (hi : i < xs.length) : xs[i] < 4294967296 := h _ (List.getElem_mem hi)

theorem val_append (xs ys : List Nat) : val (xs ++ ys) = val xs + 4294967296 ^ xs.length * val ys := by
  induction xs with
  | nil => simp [val]
  | cons x xs ih =>
    rw [List.cons_append, val_cons, val_cons, ih, List.length_cons, Nat.pow_succ, Nat.mul_add]
    have : 4294967296 * (4294967296 ^ xs.length * val ys) = 4294967296 ^ xs.length * 4294967296 * val ys := by
      rw [← Nat.mul_assoc, Nat.mul_comm 4294967296 (4294967296 ^ xs.length)]
    omega

theorem val_lt {xs : List Nat} (h : Dg xs) : val xs < 4294967296 ^ xs.length := by
  induction xs with
  | nil => simp [val]
  | cons x xs ih =>
    have := ih h.tail
    have hx := h.head
    rw [val_cons, List.length_cons, Nat.pow_succ]
    have : 4294967296 * (val xs + 1) ≤ 4294967296 * 4294967296 ^ xs.length := Nat.mul_le_mul_left _ this
    rw [Nat.mul_comm (4294967296 ^ xs.length)]
    omega

theorem val_take_succ {xs : List Nat} {i : Nat} (hi : i < xs.length) : val (xs.take (i + 1)) = val (xs.take i) + 4294967296 ^ i * xs[i] := by
  rw [List.take_succ_eq_append_getElem hi, val_append, List.length_take, Nat.min_eq_left (by omega)]
  simp [val]

def Tight (xs : List Nat) : Prop := ∀ h : xs ≠ [], xs.getLast h ≠ 0

theorem Tight.val_pos {xs : List Nat} (t : Tight xs) (h : xs ≠ []) : 4294967296 ^ (xs.length - 1) ≤ val xs := by
  induction xs with
  | nil => exact absurd rfl h
  | cons x xs ih =>
    by_cases he : xs = []
    · subst he
      have := t (by simp)
      simp only [List.getLast_singleton] at this
      simp [val]; omega
    · have := ih (fun h' => by have := t (by simp); rwa [List.getLast_cons he] at this) he
      have hl : 0 < xs.length := List.length_pos_iff.2 he
      rw [List.length_cons, val_cons, Nat.add_sub_cancel]
      have e : xs.length = (xs.length - 1) + 1 := by omega
      rw [e, Nat.pow_succ, Nat.mul_comm]
      have := Nat.mul_le_mul_left 4294967296 this
      omega

theorem tight_digs (n : Nat) : Tight (digs n) := by
  induction n using Nat.strongRecOn with
  | _ n ih =>
    intro hne
    by_cases h : n = 0
    · subst h; exact absurd digs_zero hne
    · by_cases h2 : digs (n / 4294967296) = []
      · have hz : n / 4294967296 = 0 := by rw [← val_digs (n / 4294967296), h2]; rfl
        simp only [digs_pos h, h2, List.getLast_singleton]
        omega
      · have := ih (n / 4294967296) (by omega) h2
        simp only [digs_pos h]
        rwa [List.getLast_cons h2]

theorem nl_zero : nl 0 = 0 := by unfold nl; rw [digs_zero]; rfl
theorem nl_eq_zero {n : Nat} : nl n = 0 ↔ n = 0 := by
  constructor
  · intro h; have h2 : digs n = [] := List.eq_nil_of_length_eq_zero h; rw [← val_digs n, h2]; rfl
  · rintro rfl; exact nl_zero

theorem pow_le_of_nl {n : Nat} (h : n ≠ 0) : 4294967296 ^ (nl n - 1) ≤ n := by
  have := (tight_digs n).val_pos (fun e => h (nl_eq_zero.1 (by unfold nl; rw [e]; rfl)))
  rwa [val_digs] at this

theorem nl_le {n k : Nat} (h : n < 4294967296 ^ k) : nl n ≤ k := by
  by_cases hn : n = 0
  · subst hn; rw [nl_zero]; omega
  · have := pow_le_of_nl hn
    rcases Nat.lt_or_ge k (nl n) with hk | hk
    · have : 4294967296 ^ k ≤ 4294967296 ^ (nl n - 1) := Nat.pow_le_pow_right (by omega) (by omega)
      omega
    · exact hk

theorem nl_val {xs : List Nat} (h : Dg xs) : nl (val xs) ≤ xs.length := nl_le (val_lt h)
theorem val_take_succD (xs : List Nat) (i : Nat) : val (xs.take (i + 1)) = val (xs.take i) + 4294967296 ^ i * xs.getD i 0 := by
  by_cases hi : i < xs.length
  · rw [val_take_succ hi, List.getD_eq_getElem?_getD, List.getElem?_eq_getElem hi]; rfl
  · rw [List.take_of_length_le (by omega), List.take_of_length_le (by omega), List.getD_eq_getElem?_getD, List.getElem?_eq_none (by omega)]; rfl
theorem val_take_len {xs : List Nat} {k : Nat} (h : xs.length ≤ k) : val (xs.take k) = val xs := by rw [List.take_of_length_le h]
theorem val_lt_pow {xs : List Nat} (h : Dg xs) {k : Nat} (hk : xs.length ≤ k) : val xs < 4294967296 ^ k :=
  Nat.lt_of_lt_of_le (val_lt h) (Nat.pow_le_pow_right (by omega) hk)
theorem val_take_lt {xs : List Nat} (h : Dg xs) (k : Nat) : val (xs.take k) < 4294967296 ^ k :=
  val_lt_pow (h.take k) (by rw [List.length_take]; omega)

def Zeros (os : List Nat) (m : Nat) : Prop := ∀ j, m ≤ j → os.getD j 0 = 0
theorem Zeros.all (n m : Nat) : Zeros (List.replicate n 0) m := fun j _ => by
  rw [List.getD_eq_getElem?_getD, List.getElem?_replicate]; split <;> rfl
theorem Zeros.mono {os : List Nat} {m k : Nat} (h : Zeros os m) (hk : m ≤ k) : Zeros os k := fun j hj => h j (Nat.le_trans hk hj)
theorem Zeros.set {os : List Nat} {m i d : Nat} (h : Zeros os m) (hi : i < m) : Zeros (os.set i d) m := fun j hj => by
  have := h j hj
  rw [List.getD_eq_getElem?_getD] at this ⊢
  rwa [List.getElem?_set_ne (by omega)]

end Go.Proofs.Ytjkddchkjkocbaa.Nm

namespace Go.Proofs.Ytjkddchkjkocbaa
open Go.RowKit
attribute [local go_sem ↓] Go.wp_at_zero Go.wp_at_succ

def DigS (w : World) (v : Value) (xs : List Nat) : Prop :=
  ∃ p cap, v = .slice p xs.length cap ∧ xs.length ≤ cap ∧ Nm.Dg xs ∧ (0 < xs.length → ∃ b o, p = some ⟨b, o, none⟩ ∧ ∀ i, i < xs.length → w.cell? ⟨b, o + i, none⟩ = some (.int .u32 (xs.getD i 0 : Nat)))

theorem DigS.ext {w w' : World} {v : Value} {xs : List Nat} (h : DigS w v xs) (e : Ext w w') : DigS w' v xs := by
  obtain ⟨p, cap, rfl, hc, hd, hp⟩ := h
  refine ⟨p, cap, rfl, hc, hd, fun h0 => ?_⟩
  obtain ⟨b, o, rfl, hb⟩ := hp h0
  exact ⟨b, o, rfl, fun i hi => e.get (hb i hi)⟩
theorem DigS.dg {w : World} {v : Value} {xs : List Nat} (h : DigS w v xs) : Nm.Dg xs := by
  obtain ⟨p, cap, rfl, hc, hd, hp⟩ := h
  exact hd

def NatIn (L : Nat) (w : World) (v : Value) (n : Nat) : Prop := ∃ xs, DigS w v xs ∧ Nm.val xs = n ∧ xs.length ≤ L
def NatC (w : World) (v : Value) (n : Nat) : Prop := DigS w v (Nm.digs n)
theorem NatIn.ext {L : Nat} {w w' : World} {v : Value} {n : Nat} (h : NatIn L w v n) (e : Ext w w') : NatIn L w' v n := by
  obtain ⟨xs, h1, h2⟩ := h
  exact ⟨xs, h1.ext e, h2⟩
theorem NatC.ext {w w' : World} {v : Value} {n : Nat} (h : NatC w v n) (e : Ext w w') : NatC w' v n := DigS.ext h e
theorem NatIn.mono {L M : Nat} {w : World} {v : Value} {n : Nat} (h : NatIn L w v n) (hl : L ≤ M) : NatIn M w v n := by
  obtain ⟨xs, h1, h2, h3⟩ := h
  exact ⟨xs, h1, h2, Nat.le_trans h3 hl⟩
theorem NatIn.nl {L : Nat} {w : World} {v : Value} {n : Nat} (h : NatIn L w v n) : Nm.nl n ≤ L := by
  obtain ⟨xs, h1, rfl, h3⟩ := h
  exact Nat.le_trans (Nm.nl_val h1.dg) h3

def RetC (n : Nat) (w : World) (e : Ending) (w' : World) : Prop := ∃ v, e = .returned v ∧ NatC w' v n ∧ Ext w w'
def RetF (n : Nat) (w : World) (e : Ending) (w' : World) : Prop := ∃ p, e = .returned (.slice p (Nm.digs n).length (Nm.digs n).length) ∧ NatC w' (.slice p (Nm.digs n).length (Nm.digs n).length) n ∧ Ext w w'
theorem RetF.c {n : Nat} {w w' : World} {e : Ending} (h : RetF n w e w') : RetC n w e w' := by
  obtain ⟨p, h1, h2, h3⟩ := h
  exact ⟨_, h1, h2, h3⟩

end Go.Proofs.Ytjkddchkjkocbaa

namespace Go.Proofs.Ytjkddchkjkocbaa
open Go.RowKit
attribute [local go_sem ↓] Go.wp_at_zero Go.wp_at_succ run_max_ii run_min_ii

def cellsU (xs : List Nat) : List Value := xs.map fun x : Nat => Value.int .u32 (x : Int)
theorem cellsU_length (xs : List Nat) : (cellsU xs).length = xs.length := by simp [cellsU]
theorem cellsU_get (xs : List Nat) (i : Nat) (h : i < xs.length) : (cellsU xs)[i]? = some (.int .u32 (xs.getD i 0 : Nat)) := by
  unfold cellsU
  rw [List.getElem?_map, List.getElem?_eq_getElem h, List.getD_eq_getElem?_getD, List.getElem?_eq_getElem h]
  rfl
theorem cellsU_append (xs ys : List Nat) : cellsU (xs ++ ys) = cellsU xs ++ cellsU ys := by simp [cellsU]

def BlkU (w : World) (g : Nat) (os : List Nat) : Prop := Blk w g 87 (cellsU os).toArray

theorem BlkU.cell {w : World} {g : Nat} {os : List Nat} (h : BlkU w g os) {i : Nat} (hi : i < os.length) : w.cell? ⟨g, i, none⟩ = some (.int .u32 (os.getD i 0 : Nat)) := by
  rw [Blk.cell h i, List.getElem?_toArray, cellsU_get os i hi]
theorem BlkU.frozen {w : World} {g : Nat} {os : List Nat} (h : BlkU w g os) (i : Nat) : w.frozen? ⟨g, i, none⟩ = false := Blk.frozen h i
theorem BlkU.set {w : World} {g : Nat} {os : List Nat} (h : BlkU w g os) (i d : Nat) : BlkU (w.setCell ⟨g, i, none⟩ (.int .u32 (d : Int))) g (os.set i d) := by
  have e : (cellsU (os.set i d)).toArray = (cellsU os).toArray.setIfInBounds i (.int .u32 (d : Int)) := by
    simp [cellsU, List.map_set]
  unfold BlkU
  rw [e]
  exact Blk.set_ h i _
theorem BlkU.ext {w w' : World} {g : Nat} {os : List Nat} (h : BlkU w g os) (e : Ext w w') : BlkU w' g os := Blk.ext h e
theorem BlkU.drew {w : World} {g : Nat} {os : List Nat} (h : BlkU w g os) : BlkU w.drew g os := h
def BlkX (w : World) (g : Nat) (os : List Nat) (rest : List Value) : Prop := Blk w g 87 (cellsU os ++ rest).toArray
theorem BlkX.cell {w : World} {g : Nat} {os : List Nat} {rest : List Value} (h : BlkX w g os rest) {i : Nat} (hi : i < os.length) : w.cell? ⟨g, i, none⟩ = some (.int .u32 (os.getD i 0 : Nat)) := by
  rw [Blk.cell h i, List.getElem?_toArray, List.getElem?_append_left (by rw [cellsU_length]; exact hi), cellsU_get os i hi]
theorem BlkX.frozen {w : World} {g : Nat} {os : List Nat} {rest : List Value} (h : BlkX w g os rest) (i : Nat) : w.frozen? ⟨g, i, none⟩ = false := Blk.frozen h i
theorem BlkX.set {w : World} {g : Nat} {os : List Nat} {rest : List Value} (h : BlkX w g os rest) (i d : Nat) (hi : i < os.length) : BlkX (w.setCell ⟨g, i, none⟩ (.int .u32 (d : Int))) g (os.set i d) rest := by
  have e : (cellsU (os.set i d) ++ rest).toArray = (cellsU os ++ rest).toArray.setIfInBounds i (.int .u32 (d : Int)) := by
    have : i < (cellsU os).length := by rw [cellsU_length]; exact hi
    simp only [List.setIfInBounds_toArray, List.set_append_left _ _ this]
    simp [cellsU, List.map_set]
  unfold BlkX
  rw [e]
  exact Blk.set_ h i _
theorem BlkX.ext {w w' : World} {g : Nat} {os : List Nat} {rest : List Value} (h : BlkX w g os rest) (e : Ext w w') : BlkX w' g os rest := Blk.ext h e
theorem BlkX.drewN {w : World} {g : Nat} {os : List Nat} {rest : List Value} (h : BlkX w g os rest) (n : Nat) : BlkX (w.drewN n) g os rest := h
theorem BlkX.far {w : World} {g : Nat} {os : List Nat} {rest : List Value} (h : BlkX w g os rest) {p : Addr} (hp : g ≠ p.block) (u : Value) : BlkX (w.setCell p u) g os rest := Blk.far h hp u
theorem BlkU.far {w : World} {g : Nat} {os : List Nat} (h : BlkU w g os) {p : Addr} (hp : g ≠ p.block) (u : Value) : BlkU (w.setCell p u) g os := Blk.far h hp u
theorem BlkU.own {w w' : World} {g g' : Nat} {os : List Nat} (h : BlkU w g os) (e : Own g' w w') (hne : g ≠ g') : BlkU w' g os :=
  (e.block g (Blk.lt h) (fun x => hne (by injection x))).trans h
theorem BlkX.part {w : World} {g k n cap : Nat} {pre seg post : List Nat} {rest : List Value} (h : BlkX w g (pre ++ (seg ++ post)) rest) (hk : pre.length = k) (hn : seg.length = n) (hc : n ≤ cap) (hd : Nm.Dg seg) : DigS w (.slice (some ⟨g, k, none⟩) n cap) seg := by
  refine ⟨_, cap, by rw [hn], by omega, hd, fun _ => ⟨g, k, rfl, fun i hi => ?_⟩⟩
  have := h.cell (i := k + i) (by rw [List.length_append, List.length_append]; omega)
  rw [this]
  subst hk
  rw [List.getD_eq_getElem?_getD, List.getD_eq_getElem?_getD, List.getElem?_append_right (by omega), Nat.add_sub_cancel_left, List.getElem?_append_left hi]
end Go.Proofs.Ytjkddchkjkocbaa

namespace Go.Proofs.Ytjkddchkjkocbaa
open Go.RowKit
attribute [local go_sem ↓] Go.wp_at_zero Go.wp_at_succ run_max_ii run_min_ii

end Go.Proofs.Ytjkddchkjkocbaa

namespace Go.Proofs.Ytjkddchkjkocbaa
open Go.RowKit
attribute [local go_sem ↓] Go.wp_at_zero Go.wp_at_succ run_max_ii run_min_ii

end Go.Proofs.Ytjkddchkjkocbaa

namespace Go.Proofs.Ytjkddchkjkocbaa
open Go.RowKit
attribute [local go_sem ↓] Go.wp_at_zero Go.wp_at_succ run_max_ii run_min_ii

end Go.Proofs.Ytjkddchkjkocbaa

namespace Go.Proofs.Ytjkddchkjkocbaa.Nm

end Go.Proofs.Ytjkddchkjkocbaa.Nm

namespace Go.Proofs.Ytjkddchkjkocbaa
open Go.RowKit
attribute [local go_sem ↓] Go.wp_at_zero Go.wp_at_succ run_max_ii run_min_ii

end Go.Proofs.Ytjkddchkjkocbaa

namespace Go.Proofs.Ytjkddchkjkocbaa
open Go.RowKit
attribute [local go_sem ↓] Go.wp_at_zero Go.wp_at_succ run_max_ii run_min_ii

end Go.Proofs.Ytjkddchkjkocbaa

namespace Go.Proofs.Ytjkddchkjkocbaa
open Go.RowKit
attribute [local go_sem ↓] Go.wp_at_zero Go.wp_at_succ run_max_ii run_min_ii

end Go.Proofs.Ytjkddchkjkocbaa

namespace Go.Proofs.Ytjkddchkjkocbaa
open Go.RowKit
attribute [local go_sem ↓] Go.wp_at_zero Go.wp_at_succ run_max_ii run_min_ii

end Go.Proofs.Ytjkddchkjkocbaa

namespace Go.Proofs.Ytjkddchkjkocbaa.Nm

theorem shifted {ys : List Nat} {m x p : Nat} (hd : Dg ys) (hl : ys.length = m + 1) (hx : ys.getD m 0 = x) (h1 : 2147483648 ≤ x * p) (h2 : (x + 1) * p ≤ 4294967296) :
    4294967296 ^ m * 2147483648 ≤ val ys * p ∧ val ys * p < 4294967296 ^ (m + 1) := by
  have e : val ys = val (ys.take m) + 4294967296 ^ m * x := by
    rw [← hx, ← val_take_succD, val_take_len (by omega)]
  have hlt := val_take_lt hd m
  rw [e]
  constructor
  · have := Nat.mul_le_mul_left (4294967296 ^ m) h1
    rw [Nat.add_mul, Nat.mul_assoc]
    omega
  · have a1 : (val (ys.take m) + 4294967296 ^ m * x) * p < (4294967296 ^ m + 4294967296 ^ m * x) * p ∨ p = 0 := by
      rcases Nat.eq_zero_or_pos p with h0 | h0
      · exact .inr h0
      · exact .inl (Nat.mul_lt_mul_of_pos_right (by omega) h0)
    rcases a1 with a1 | a1
    · have a2 := Nat.mul_le_mul_left (4294967296 ^ m) h2
      have e2 : (4294967296 ^ m + 4294967296 ^ m * x) * p = 4294967296 ^ m * ((x + 1) * p) := by
        rw [Nat.add_mul x 1 p, Nat.one_mul, Nat.mul_add, Nat.add_mul, Nat.mul_assoc, Nat.add_comm]
      rw [Nat.pow_succ]
      omega
    · subst a1
      simp at h1
end Go.Proofs.Ytjkddchkjkocbaa.Nm

namespace Go.Proofs.Ytjkddchkjkocbaa
open Go.Shelf
end Go.Proofs.Ytjkddchkjkocbaa

namespace Go.Proofs.Ytjkddchkjkocbaa
open Go.RowKit
attribute [local go_sem ↓] Go.wp_at_zero Go.wp_at_succ run_max_ii run_min_ii

end Go.Proofs.Ytjkddchkjkocbaa

namespace Go.Proofs.Ytjkddchkjkocbaa
open Go.RowKit
attribute [local go_sem ↓] Go.wp_at_zero Go.wp_at_succ run_max_ii run_min_ii

theorem DigS.cap {w : World} {p : Option Addr} {n cap : Nat} {xs : List Nat} (h : DigS w (.slice p n cap) xs) : xs.length = n ∧ n ≤ cap := by
  obtain ⟨p', cap', he, hc, _⟩ := h
  cases he
  exact ⟨rfl, hc⟩
theorem DigS.cells {w : World} {p : Option Addr} {n cap : Nat} {xs : List Nat} (h : DigS w (.slice p n cap) xs) : ∀ b, p = some b → ∀ j u, (cellsU xs)[j]? = some u → w.cell? (b.add j) = some u := by
  intro a ha j u hj
  obtain ⟨p', cap', he, hc, hd, hp⟩ := h
  have hjl : j < xs.length := by
    have := (List.getElem?_eq_some_iff.1 hj).1
    rwa [cellsU_length] at this
  cases he
  obtain ⟨b, o, h1, h2⟩ := hp (by omega)
  subst ha
  obtain rfl : a = ⟨b, o, none⟩ := Option.some.inj h1
  rw [cellsU_get xs j hjl] at hj
  rw [Addr.add_lit, h2 j hjl]
  exact hj
theorem DigS.none {w : World} {n cap : Nat} {xs : List Nat} (h : DigS w (.slice none n cap) xs) : n = 0 := by
  obtain ⟨p', cap', he, hc, hd, hp⟩ := h
  cases he
  rcases Nat.eq_zero_or_pos xs.length with h0 | h0
  · exact h0
  · obtain ⟨b, o, h1, _⟩ := hp h0; cases h1

end Go.Proofs.Ytjkddchkjkocbaa

namespace Go.Proofs.Ytjkddchkjkocbaa
open Go.RowKit
attribute [local go_sem ↓] Go.wp_at_zero Go.wp_at_succ run_max_ii run_min_ii

theorem NatC.form {w : World} {v : Value} {n : Nat} (h : NatC w v n) : ∃ p cap, v = .slice p (Nm.nl n) cap := by
  obtain ⟨p, cap, rfl, _⟩ := h
  exact ⟨p, cap, rfl⟩

end Go.Proofs.Ytjkddchkjkocbaa

namespace Go.Proofs.Ytjkddchkjkocbaa.Nm

end Go.Proofs.Ytjkddchkjkocbaa.Nm

namespace Go.Proofs.Ytjkddchkjkocbaa
open Go.RowKit
attribute [local go_sem ↓] Go.wp_at_zero Go.wp_at_succ run_max_ii run_min_ii

def sg (n : Bool) (a : Nat) : Int := if n = true then -(a : Int) else (a : Int)
theorem sg_abs (n : Bool) (a : Nat) : (sg n a).natAbs = a := by
  unfold sg
  cases n <;> simp
def IntIn (L : Nat) (w : World) (n : Bool) (v : Value) (z : Int) : Prop := ∃ a, NatIn L w v a ∧ z = sg n a
def IntC (w : World) (n : Bool) (v : Value) (z : Int) : Prop := n = decide (z < 0) ∧ NatC w v z.natAbs
theorem IntIn.ext {L : Nat} {w w' : World} {n : Bool} {v : Value} {z : Int} (h : IntIn L w n v z) (e : Ext w w') : IntIn L w' n v z := by
  obtain ⟨a, h1, h2⟩ := h
  exact ⟨a, h1.ext e, h2⟩
theorem IntC.ext {w w' : World} {n : Bool} {v : Value} {z : Int} (h : IntC w n v z) (e : Ext w w') : IntC w' n v z := ⟨h.1, h.2.ext e⟩
theorem IntIn.abs {L : Nat} {w : World} {n : Bool} {v : Value} {z : Int} (h : IntIn L w n v z) : NatIn L w v z.natAbs ∧ z = sg n z.natAbs := by
  obtain ⟨a, h1, rfl⟩ := h
  rw [sg_abs]
  exact ⟨h1, rfl⟩
theorem IntIn.nl {L : Nat} {w : World} {n : Bool} {v : Value} {z : Int} (h : IntIn L w n v z) : Nm.nl z.natAbs ≤ L := h.abs.1.nl
theorem IntIn.mono {L M : Nat} {w : World} {n : Bool} {v : Value} {z : Int} (h : IntIn L w n v z) (hl : L ≤ M) : IntIn M w n v z := by
  obtain ⟨a, h1, h2⟩ := h
  exact ⟨a, h1.mono hl, h2⟩

theorem IntC.form {w : World} {n : Bool} {v : Value} {z : Int} (h : IntC w n v z) : ∃ p l cap, v = .slice p l cap := by
  obtain ⟨p, cap, rfl⟩ := h.2.form
  exact ⟨p, _, cap, rfl⟩

def NoU (cs : Array Value) : Prop := ∀ (i : Nat) (x : Int), cs[i]? ≠ some (.int .u32 x)
theorem DigS.own {w w' : World} {v : Value} {xs : List Nat} (h : DigS w v xs) {g : Nat} {t : TypeId} {cs : Array Value} (hb : Blk w g t cs) (hn : NoU cs) (o : Own g w w') : DigS w' v xs := by
  obtain ⟨p, cap, rfl, hc, hd, hp⟩ := h
  refine ⟨p, cap, rfl, hc, hd, fun h0 => ?_⟩
  obtain ⟨b, off, rfl, hcl⟩ := hp h0
  refine ⟨b, off, rfl, fun i hi => ?_⟩
  have h1 := hcl i hi
  have hne : b ≠ g := by
    rintro rfl
    rw [hb.cell] at h1
    exact hn _ _ h1
  exact o.get h1 hne
theorem NatC.own {w w' : World} {v : Value} {n : Nat} (h : NatC w v n) {g : Nat} {t : TypeId} {cs : Array Value} (hb : Blk w g t cs) (hn : NoU cs) (o : Own g w w') : NatC w' v n := DigS.own h hb hn o
theorem IntC.own {w w' : World} {n : Bool} {v : Value} {z : Int} (h : IntC w n v z) {g : Nat} {t : TypeId} {cs : Array Value} (hb : Blk w g t cs) (hn : NoU cs) (o : Own g w w') : IntC w' n v z := ⟨h.1, h.2.own hb hn o⟩

end Go.Proofs.Ytjkddchkjkocbaa

namespace Go.Proofs.Ytjkddchkjkocbaa
open Go.RowKit
attribute [local go_sem ↓] Go.wp_at_zero Go.wp_at_succ run_max_ii run_min_ii

theorem IntIn.form {L : Nat} {w : World} {n : Bool} {v : Value} {z : Int} (h : IntIn L w n v z) : ∃ p l cap, v = .slice p l cap := by
  obtain ⟨a, ⟨xs, ⟨p, cap, rfl, _⟩, _⟩, _⟩ := h
  exact ⟨p, xs.length, cap, rfl⟩

end Go.Proofs.Ytjkddchkjkocbaa

namespace Go.Proofs.Ytjkddchkjkocbaa
open Go.RowKit
attribute [local go_sem ↓] Go.wp_at_zero Go.wp_at_succ run_max_ii run_min_ii

end Go.Proofs.Ytjkddchkjkocbaa

namespace Go.Proofs.Ytjkddchkjkocbaa
open Go.RowKit
attribute [local go_sem ↓] Go.wp_at_zero Go.wp_at_succ run_max_ii run_min_ii

end Go.Proofs.Ytjkddchkjkocbaa

namespace Go.Proofs.Ytjkddchkjkocbaa
open Go.RowKit
attribute [local go_sem ↓] Go.wp_at_zero Go.wp_at_succ run_max_ii run_min_ii

end Go.Proofs.Ytjkddchkjkocbaa

namespace Go.Proofs.Ytjkddchkjkocbaa
open Go.RowKit
attribute [local go_sem ↓] Go.wp_at_zero Go.wp_at_succ run_max_ii run_min_ii

def RatIn (L : Nat) (w : World) (n : Bool) (u : Value) (m : Bool) (v : Value) (q : Rat) : Prop := ∃ y z, IntIn L w n u y ∧ IntIn L w m v z ∧ q = Rat.divInt y z
def RatC (w : World) (n : Bool) (u : Value) (m : Bool) (v : Value) (q : Rat) : Prop := IntC w n u q.num ∧ IntC w m v (q.den : Int)
theorem RatIn.ext {L : Nat} {w w' : World} {n m : Bool} {u v : Value} {q : Rat} (h : RatIn L w n u m v q) (e : Ext w w') : RatIn L w' n u m v q := by
  obtain ⟨y, z, h1, h2, h3⟩ := h
  exact ⟨y, z, h1.ext e, h2.ext e, h3⟩
theorem RatC.ext {w w' : World} {n m : Bool} {u v : Value} {q : Rat} (h : RatC w n u m v q) (e : Ext w w') : RatC w' n u m v q := ⟨h.1.ext e, h.2.ext e⟩
theorem RatC.own {w w' : World} {n m : Bool} {u v : Value} {q : Rat} (h : RatC w n u m v q) {g : Nat} {t : TypeId} {cs : Array Value} (hb : Blk w g t cs) (hn : NoU cs) (o : Own g w w') : RatC w' n u m v q := ⟨h.1.own hb hn o, h.2.own hb hn o⟩
theorem RatIn.form {L : Nat} {w : World} {n m : Bool} {u v : Value} {q : Rat} (h : RatIn L w n u m v q) : ∃ p l c p' l' c', u = .slice p l c ∧ v = .slice p' l' c' := by
  obtain ⟨y, z, h1, h2, h3⟩ := h
  obtain ⟨p, l, c, rfl⟩ := h1.form
  obtain ⟨p', l', c', rfl⟩ := h2.form
  exact ⟨p, l, c, p', l', c', rfl, rfl⟩
theorem RatC.form {w : World} {n m : Bool} {u v : Value} {q : Rat} (h : RatC w n u m v q) : ∃ p l c p' l' c', u = .slice p l c ∧ v = .slice p' l' c' := by
  obtain ⟨p, l, c, rfl⟩ := h.1.form
  obtain ⟨p', l', c', rfl⟩ := h.2.form
  exact ⟨p, l, c, p', l', c', rfl, rfl⟩
def RetR (q : Rat) (w : World) (e : Ending) (w' : World) : Prop := ∃ n u m v, e = .returned (.agg #[.bool n, u, .bool m, v]) ∧ RatC w' n u m v q ∧ Ext w w'

end Go.Proofs.Ytjkddchkjkocbaa

namespace Go.Proofs.Ytjkddchkjkocbaa
open Go.RowKit
attribute [local go_sem ↓] Go.wp_at_zero Go.wp_at_succ run_max_ii run_min_ii

end Go.Proofs.Ytjkddchkjkocbaa

namespace Go.Proofs.Ytjkddchkjkocbaa
open Go.RowKit
attribute [local go_sem ↓] Go.wp_at_zero Go.wp_at_succ run_max_ii run_min_ii

end Go.Proofs.Ytjkddchkjkocbaa

namespace Go.Proofs.Ytjkddchkjkocbaa
open Go.RowKit
attribute [local go_sem ↓] Go.wp_at_zero Go.wp_at_succ run_max_ii run_min_ii

theorem Blk.own {w w' : World} {g g' : Nat} {t : TypeId} {cs : Array Value} (h : Blk w g t cs) (e : Own g' w w') (hne : g ≠ g') : Blk w' g t cs :=
  (e.block g (Blk.lt h) (fun x => hne (by injection x))).trans h

def Boxes (A B : Nat) (t : TypeId) (csA csB : Array Value) (w : World) : Prop := Blk w A t csA ∧ Blk w B t csB
theorem Boxes.drew {A B : Nat} {t : TypeId} {csA csB : Array Value} {w : World} (h : Boxes A B t csA csB w) : Boxes A B t csA csB w.drew := h
theorem Boxes.ext {A B : Nat} {t : TypeId} {csA csB : Array Value} {w w' : World} (h : Boxes A B t csA csB w) (e : Ext w w') : Boxes A B t csA csB w' := ⟨h.1.ext e, h.2.ext e⟩
theorem Boxes.via {A B : Nat} {t : TypeId} {csA csB : Array Value} {w w' : World} (e : Ext w w') (h : Boxes A B t csA csB w) : Boxes A B t csA csB w' := h.ext e
theorem Boxes.store {A B : Nat} {t : TypeId} {csA csB : Array Value} {w : World} (h : Boxes A B t csA csB w) {p : Addr} (h1 : A ≠ p.block) (h2 : B ≠ p.block) (u : Value) : Boxes A B t csA csB (w.setCell p u) := ⟨h.1.far h1 u, h.2.far h2 u⟩
theorem Boxes.cells {A B : Nat} {t : TypeId} {a0 a1 a2 a3 d0 d1 d2 d3 : Value} {w : World} (h : Boxes A B t #[a0, a1, a2, a3] #[d0, d1, d2, d3] w) :
    w.cell? ⟨A, 0, none⟩ = some a0 ∧ w.cell? ⟨A, 1, none⟩ = some a1 ∧ w.cell? ⟨A, 2, none⟩ = some a2 ∧ w.cell? ⟨A, 3, none⟩ = some a3 ∧ w.cell? ⟨B, 0, none⟩ = some d0 ∧ w.cell? ⟨B, 1, none⟩ = some d1 ∧ w.cell? ⟨B, 2, none⟩ = some d2 ∧ w.cell? ⟨B, 3, none⟩ = some d3 :=
  ⟨h.1.cell 0, h.1.cell 1, h.1.cell 2, h.1.cell 3, h.2.cell 0, h.2.cell 1, h.2.cell 2, h.2.cell 3⟩

end Go.Proofs.Ytjkddchkjkocbaa
