/- Contracts that the claim stands on: XRatE to XFPath. -/
import Derived.Deep.DeepCutAuto
import Derived.Deep.MidRow
import Derived.Deep.AppendLies
import Derived.RangeFuncNested
import Derived.RangeFuncBound
import Derived.RangeFuncCalls
import Derived.RangeFuncLeaves
import Derived.Shelf.Abstract
import Derived.Shelf.RegionOpen
import Derived.OwnWalkIn
import Derived.TacticsInMore
import Derived.LoopNIn
import Derived.LoopIn
import Derived.Maps.AppendAt
import Derived.Deep.LoopGhost
import Derived.Test.YtjkddchkjkocbaaM1
namespace Go.Proofs.Ytjkddchkjkocbaa
open Go.RowKit
attribute [local go_sem ↓] Go.wp_at_zero Go.wp_at_succ run_max_ii run_min_ii

end Go.Proofs.Ytjkddchkjkocbaa

namespace Go.Proofs.Ytjkddchkjkocbaa
open Go.RowKit
attribute [local go_sem ↓] Go.wp_at_zero Go.wp_at_succ run_max_ii run_min_ii

end Go.Proofs.Ytjkddchkjkocbaa

namespace Go.Proofs.Ytjkddchkjkocbaa
open Go.RowKit
attribute [local go_sem ↓] Go.wp_at_zero Go.wp_at_succ run_max_ii run_min_ii

def OwnU (w : World) (B : Nat) (v : Value) (xs : List Nat) : Prop := w.ownsRow B 87 1 v xs.length (cellsU xs)
theorem OwnU.start (w : World) : OwnU (w.alloc (.cells #[] 87)) w.heap.size (.slice (some ⟨w.heap.size, 0, none⟩) 0 0) [] :=
  ⟨by simp [cellsU], .inr ⟨w.heap.size, 0, #[], rfl, Nat.le_refl _, heap_alloc_new w _, Nat.le_refl _, Nat.zero_le _, by simp, by simp [cellsU]⟩⟩
theorem OwnU.ext {w w' : World} {B : Nat} {v : Value} {xs : List Nat} (h : OwnU w B v xs) (x : Ext w w') : OwnU w' B v xs := by
  obtain ⟨h1, h2⟩ := h
  refine ⟨h1, ?_⟩
  rcases h2 with h2 | ⟨g, cap, cur, hv, hg, hh, r⟩
  · exact Or.inl h2
  · exact Or.inr ⟨g, cap, cur, hv, hg, (Below.block x g (Array.getElem?_eq_some_iff.1 hh).1).trans hh, r⟩
theorem OwnU.block {w : World} {B : Nat} {v : Value} {xs : List Nat} (h : OwnU w B v xs) : ∀ k, v.ownBlock = some k → B ≤ k := by
  intro k hk
  rcases h.2 with ⟨rfl, _⟩ | ⟨g, cap, cur, rfl, hg, _⟩
  · simp [Value.ownBlock] at hk
  · simp [Value.ownBlock] at hk; omega
theorem OwnU.more {w : World} {B : Nat} {v : Value} {xs : List Nat} {d : Nat} (h : w.ownsRow B 87 1 v (xs.length + 1) (cellsU xs ++ [.int .u32 (d : Int)])) : OwnU w B v (xs ++ [d]) := by
  unfold OwnU
  rw [List.length_append, cellsU_append]
  exact h
end Go.Proofs.Ytjkddchkjkocbaa

namespace Go.Proofs.Ytjkddchkjkocbaa.Nm

end Go.Proofs.Ytjkddchkjkocbaa.Nm

namespace Go.Proofs.Ytjkddchkjkocbaa
open Go.RowKit
attribute [local go_sem ↓] Go.wp_at_zero Go.wp_at_succ run_max_ii run_min_ii

end Go.Proofs.Ytjkddchkjkocbaa

namespace Go.Proofs.Ytjkddchkjkocbaa
open Go.RowKit
attribute [local go_sem ↓] Go.wp_at_zero Go.wp_at_succ run_max_ii run_min_ii

end Go.Proofs.Ytjkddchkjkocbaa

namespace Go.Proofs.Ytjkddchkjkocbaa
open Go.RowKit
attribute [local go_sem ↓] Go.wp_at_zero Go.wp_at_succ run_max_ii run_min_ii

end Go.Proofs.Ytjkddchkjkocbaa

namespace Go.Proofs.Ytjkddchkjkocbaa
open Go.RowKit
attribute [local go_sem ↓] Go.wp_at_zero Go.wp_at_succ run_max_ii run_min_ii

theorem BlkU.drewN {w : World} {g : Nat} {os : List Nat} (h : BlkU w g os) (n : Nat) : BlkU (w.drewN n) g os := h

end Go.Proofs.Ytjkddchkjkocbaa

namespace Go.Proofs.Ytjkddchkjkocbaa
open Go.RowKit
attribute [local go_sem ↓] Go.wp_at_zero Go.wp_at_succ run_max_ii run_min_ii

end Go.Proofs.Ytjkddchkjkocbaa

namespace Go.Proofs.Ytjkddchkjkocbaa
open Go.RowKit
attribute [local go_sem ↓] Go.wp_at_zero Go.wp_at_succ run_max_ii run_min_ii

end Go.Proofs.Ytjkddchkjkocbaa

namespace Go.Proofs.Ytjkddchkjkocbaa
open Go.RowKit
attribute [local go_sem ↓] Go.wp_at_zero Go.wp_at_succ run_max_ii run_min_ii

end Go.Proofs.Ytjkddchkjkocbaa

namespace Go.Proofs.Ytjkddchkjkocbaa
open Go.RowKit
attribute [local go_sem ↓] Go.wp_at_zero Go.wp_at_succ run_max_ii run_min_ii

end Go.Proofs.Ytjkddchkjkocbaa

namespace Go.Proofs.Ytjkddchkjkocbaa
open Go.RowKit
attribute [local go_sem ↓] Go.wp_at_zero Go.wp_at_succ run_max_ii run_min_ii

theorem OwnU.one (w : World) (x : Nat) : OwnU (w.alloc (.cells #[.int .u32 (x : Int)] 87)) w.heap.size (.slice (some ⟨w.heap.size, 0, none⟩) 1 1) [x] :=
  ⟨by simp [cellsU], .inr ⟨w.heap.size, 1, #[.int .u32 (x : Int)], rfl, Nat.le_refl _, heap_alloc_new w _, Nat.le_refl _, by unfold maxLen; omega, by simp, by simp [cellsU]⟩⟩

theorem NatC.far {w : World} {v : Value} {n B : Nat} (h : NatC w v n) (hf : ∀ k, v.ownBlock = some k → B ≤ k) {p : Addr} (hp : p.block < B) (u : Value) : NatC (w.setCell p u) v n := by
  obtain ⟨q, cap, rfl, hc, hd, hq⟩ := h
  refine ⟨q, cap, rfl, hc, hd, fun h0 => ?_⟩
  obtain ⟨b, o, rfl, hb⟩ := hq h0
  have hB := hf b rfl
  refine ⟨b, o, rfl, fun i hi => ?_⟩
  rw [World.cell?_setCell_far _ _ _ _ (by show p.block ≠ b; omega)]
  exact hb i hi

end Go.Proofs.Ytjkddchkjkocbaa

namespace Go.Proofs.Ytjkddchkjkocbaa
open Go.RowKit
attribute [local go_sem ↓] Go.wp_at_zero Go.wp_at_succ run_max_ii run_min_ii

end Go.Proofs.Ytjkddchkjkocbaa

namespace Go.Proofs.Ytjkddchkjkocbaa
open Go.RowKit
attribute [local go_sem ↓] Go.wp_at_zero Go.wp_at_succ run_max_ii run_min_ii

end Go.Proofs.Ytjkddchkjkocbaa

namespace Go.Proofs.Ytjkddchkjkocbaa
open Go.RowKit
attribute [local go_sem ↓] Go.wp_at_zero Go.wp_at_succ run_max_ii run_min_ii

end Go.Proofs.Ytjkddchkjkocbaa

namespace Go.Proofs.Ytjkddchkjkocbaa
open Go.RowKit
attribute [local go_sem ↓] Go.wp_at_zero Go.wp_at_succ run_max_ii run_min_ii

end Go.Proofs.Ytjkddchkjkocbaa

namespace Go.Proofs.Ytjkddchkjkocbaa
open Go.RowKit
attribute [local go_sem ↓] Go.wp_at_zero Go.wp_at_succ run_max_ii run_min_ii

end Go.Proofs.Ytjkddchkjkocbaa

namespace Go.Proofs.Ytjkddchkjkocbaa
open Go.RowKit
attribute [local go_sem ↓] Go.wp_at_zero Go.wp_at_succ run_max_ii run_min_ii

end Go.Proofs.Ytjkddchkjkocbaa

namespace Go.Proofs.Ytjkddchkjkocbaa
open Go.RowKit
attribute [local go_sem ↓] Go.wp_at_zero Go.wp_at_succ run_max_ii run_min_ii

theorem DigS.set {w : World} {v : Value} {xs : List Nat} (h : DigS w v xs) {p : Addr} {c : Value} (hc : w.cell? p = some c) (hn : ∀ x : Int, c ≠ .int .u32 x) (u : Value) : DigS (w.setCell p u) v xs := by
  obtain ⟨q, cap, rfl, hcap, hd, hq⟩ := h
  refine ⟨q, cap, rfl, hcap, hd, fun h0 => ?_⟩
  obtain ⟨b, o, rfl, hb⟩ := hq h0
  refine ⟨b, o, rfl, fun i hi => ?_⟩
  have h1 := hb i hi
  rw [World.cell?_setCell_other _ _ _ _ (by
    rintro rfl
    rw [hc] at h1
    exact hn _ (Option.some.inj h1))]
  exact h1
theorem RatC.via {w w' : World} {n m : Bool} {u v : Value} {q : Rat} (e : Ext w w') (h : RatC w n u m v q) : RatC w' n u m v q := h.ext e
theorem RatC.alloc {w : World} {n m : Bool} {u v : Value} {q : Rat} (h : RatC w n u m v q) (o : Obj) : RatC (w.alloc o) n u m v q := h.ext ((Ext.refl _).alloc o)
theorem RatC.drew {w : World} {n m : Bool} {u v : Value} {q : Rat} (h : RatC w n u m v q) : RatC w.drew n u m v q := h.ext (Ext.refl _).drew

end Go.Proofs.Ytjkddchkjkocbaa

namespace Go.Proofs.Ytjkddchkjkocbaa
open Go.RowKit
attribute [local go_sem ↓] Go.wp_at_zero Go.wp_at_succ run_max_ii run_min_ii

end Go.Proofs.Ytjkddchkjkocbaa

namespace Go.Proofs.Ytjkddchkjkocbaa
open Go.RowKit
attribute [local go_sem ↓] Go.wp_at_zero Go.wp_at_succ run_max_ii run_min_ii

end Go.Proofs.Ytjkddchkjkocbaa

namespace Go.Proofs.Ytjkddchkjkocbaa
open Go.RowKit

section
variable {P : Program} {l : List Oper} {Q : Exit → Act → World → Prop} {md : Region.Mode} {S : World → Prop}

theorem wpAnyH_take_l {i : Nat} {oi : Oper} {v : Value} {fuel : Nat} {listed : Array Bool} {a : Act} {w : World} (hi : l[i]? = some oi)
    (hs : Region.noSelect l.toArray = true) (hf : Region.free md l.toArray listed i = true) (hr : (Region.ready md l.toArray listed).contains i = true)
    (hQ : ∀ c a w, Q (.panic c) (a.put oi.dst v) w → Q (.panic c) a w) (hy : YieldsIf P l.toArray S oi v a) (hS : S w)
    (h : wpAnyH P md l.toArray Q S fuel (listed.setIfInBounds i true) (a.put oi.dst v) w) : wpAnyH P md l.toArray Q S (fuel + 1) listed a w :=
  wpAnyH_take (by rw [List.getElem?_toArray]; exact hi) hs hf hr hQ hy hS h

theorem wpAnyH_one_l {i : Nat} {oi : Oper} {fuel : Nat} {listed : Array Bool} {a : Act} {w : World} (hi : l[i]? = some oi)
    (hr : Region.ready md l.toArray listed = [i])
    (h : ∀ K' : Act → World → Prop, Shut (∀ a w, S w → (S w → wpAnyH P md l.toArray Q S fuel (listed.setIfInBounds i true) a w) → K' a w) → if Region.wanted oi (yielded l.toArray a.tmps) = true then Oper.wp P oi a w K' Q else K' (a.put oi.dst undef) w) :
    wpAnyH P md l.toArray Q S (fuel + 1) listed a w :=
  wpAnyH_ready hr (by simp) (AllReadyH.cons (by rw [List.getElem?_toArray]; exact hi) h AllReadyH.nil)
end
end Go.Proofs.Ytjkddchkjkocbaa

namespace Go.Proofs.Ytjkddchkjkocbaa
open Go.RowKit

theorem heap_setCells (g : Nat) : ∀ (vs : List Value) (o : Nat) (w : World) (t : TypeId) (cs : List Value), w.heap[g]? = some (.cells cs.toArray t (0, 0)) → o + vs.length ≤ cs.length →
    (w.setCells g o vs).heap[g]? = some (.cells (cs.take o ++ vs ++ cs.drop (o + vs.length)).toArray t (0, 0))
  | [], o, w, t, cs, h, _ => by simpa [World.setCells] using h
  | v :: r, o, w, t, cs, h, hl => by
    rw [World.setCells]
    have h2 : (w.setCell ⟨g, o, none⟩ v).heap[g]? = some (.cells (cs.set o v).toArray t (0, 0)) := by
      have h3 := Blk.set_ (w := w) (g := g) (t := t) (cs := cs.toArray) h o v
      simpa [Blk] using h3
    rw [heap_setCells g r (o + 1) _ t (cs.set o v) h2 (by simp at hl ⊢; omega)]
    congr 3
    have hlt : o < cs.length := by simp at hl; omega
    apply List.ext_getElem?
    intro i
    simp only [List.length_cons, List.append_assoc, List.getElem?_append, List.length_take, List.length_set, List.getElem?_take, List.getElem?_set, List.getElem?_drop]
    have e : o + 1 + r.length = o + (r.length + 1) := by omega
    have m : min o cs.length = o := by omega
    have m1 : min (o + 1) cs.length = o + 1 := by omega
    rw [m, m1]
    by_cases h1 : i < o
    · rw [if_pos (by omega), if_pos (by omega), if_pos h1, if_pos h1, if_neg (by omega)]
    · by_cases h2 : i = o
      · subst h2
        simp [hlt]
      · rw [if_neg (by omega), if_neg h1]
        obtain ⟨k, rfl⟩ : ∃ k, i = o + 1 + k := ⟨i - (o + 1), by omega⟩
        have q1 : o + 1 + k - (o + 1) = k := by omega
        have q2 : o + 1 + k - o = k + 1 := by omega
        rw [q1, q2]
        by_cases h3 : k < r.length
        · rw [if_pos h3, if_pos (by first | omega | (simp; omega))]; simp
        · rw [if_neg h3, if_neg (by first | omega | (simp; omega)), if_neg (by omega)]
          congr 1
          first | omega | (simp; omega)

theorem Blk.setCells {w : World} {g : Nat} {t : TypeId} {cs : Array Value} (h : Blk w g t cs) (vs : Array Value) (hl : vs.size = cs.size) : Blk (w.setCells g 0 vs.toList) g t vs := by
  have h2 := heap_setCells g vs.toList 0 w t cs.toList (by simpa [Blk] using h) (by simp [hl])
  unfold Blk
  rw [h2, List.drop_of_length_le (by simp [hl])]
  simp

theorem Own.setCells_l {g : Nat} : ∀ (vs : List Value) (o : Nat) {a w : World}, Own g a w → Own g a (w.setCells g o vs)
  | [], _, _, _, h => h
  | v :: r, o, _, _, h => by rw [World.setCells]; exact Own.setCells_l r (o + 1) (h.set_at o none v)
theorem Own.setCells (w : World) (g : Nat) (vs : Array Value) : Own g w (w.setCells g 0 vs.toList) := Own.setCells_l _ _ (Own.refl g w)

theorem Blk.range {w : World} {g : Nat} {t : TypeId} {cs : Array Value} (h : Blk w g t cs) : w.rangeAt g 0 cs.toList := fun j v hv => by
  rw [Nat.zero_add, h.cell j]
  simpa using hv
theorem Blk.thereN {w : World} {g : Nat} {t : TypeId} {cs : Array Value} (h : Blk w g t cs) : w.there g 0 cs.size := fun j hj => by
  rw [Nat.zero_add, h.cell j, h.frozen j]
  simp [hj]

theorem Blk.loadVar {P : Program} {w : World} {g : Nat} {t ty : TypeId} {cs : Array Value} {d : TypeDesc} (h : Blk w g t cs) (hu : P.underlying ty = some d) (hd : d.isRow = true) (hi : (P.info? ty).map (·.size) = some cs.size) :
    (Go.loadVar ty ⟨g, 0, none⟩).run P w = .ok (.agg cs) w := by
  have h2 := run_loadVar_mid (P := P) w g 0 ty cs.toList d h.range hu hd (by simpa using hi)
  simpa using h2

theorem wp_store_blk {P : Program} {op : Oper} {a : Act} {w : World} {K : Act → World → Prop} {Q : Exit → Act → World → Prop} (ty : TypeId) (x y : Operand) (ho : op.op = .store ty x y)
    (g : Nat) (t : TypeId) (cs0 cs : Array Value) (hx : a.eval x = .pointer (some ⟨g, 0, none⟩)) (hy : a.eval y = .agg cs) (hb : Blk w g t cs0) (hl : cs.size = cs0.size)
    (hi : (P.info? ty).map (·.size) = some cs.size) (h1 : cs.all (·.oneCell') = true)
    (h : K (a.put op.dst undef) (w.setCells g 0 cs.toList)) : op.wp P a w K Q :=
  wp_store_mid ty x y ho g 0 cs hx hy (by rw [hl]; exact hb.thereN) hi h1 h

end Go.Proofs.Ytjkddchkjkocbaa

namespace Go.Proofs.Ytjkddchkjkocbaa
open Go.RowKit
attribute [local go_sem ↓] Go.wp_at_zero Go.wp_at_succ run_max_ii run_min_ii

structure RV where
  n : Bool
  p : Option Addr
  l : Nat
  c : Nat
  m : Bool
  p2 : Option Addr
  l2 : Nat
  c2 : Nat
def RV.In (L : Nat) (w : World) (a : RV) (q : Rat) : Prop := RatIn L w a.n (.slice a.p a.l a.c) a.m (.slice a.p2 a.l2 a.c2) q
def RV.Is (w : World) (a : RV) (q : Rat) : Prop := RatC w a.n (.slice a.p a.l a.c) a.m (.slice a.p2 a.l2 a.c2) q
theorem RV.In.ext {L : Nat} {w w' : World} {a : RV} {q : Rat} (h : a.In L w q) (e : Ext w w') : a.In L w' q := RatIn.ext h e
theorem RV.Is.ext {w w' : World} {a : RV} {q : Rat} (h : a.Is w q) (e : Ext w w') : a.Is w' q := RatC.ext h e
theorem RV.In.mono {L M : Nat} {w : World} {a : RV} {q : Rat} (h : a.In L w q) (hl : L ≤ M) : a.In M w q := by
  obtain ⟨y, z, h1, h2, h3⟩ := h
  exact ⟨y, z, h1.mono hl, h2.mono hl, h3⟩
theorem RV.Is.own {w w' : World} {a : RV} {q : Rat} (h : a.Is w q) {g : Nat} {t : TypeId} {cs : Array Value} (hb : Blk w g t cs) (hn : NoU cs) (o : Own g w w') : a.Is w' q := RatC.own h hb hn o
def RV.zero : RV := ⟨false, none, 0, 0, false, none, 0, 0⟩

def RetV (q : Rat) (w : World) (e : Ending) (w' : World) : Prop := ∃ a : RV, e = .returned (.agg #[.bool a.n, .slice a.p a.l a.c, .bool a.m, .slice a.p2 a.l2 a.c2]) ∧ a.Is w' q ∧ Ext w w'
theorem RetR.v {q : Rat} {w w' : World} {e : Ending} (h : RetR q w e w') : RetV q w e w' := by
  obtain ⟨n, u, m, v, rfl, hc, he⟩ := h
  obtain ⟨p, l, c, p2, l2, c2, rfl, rfl⟩ := hc.form
  exact ⟨⟨n, p, l, c, m, p2, l2, c2⟩, rfl, hc, he⟩
theorem noU_of (cs : List Value) (h : ∀ v ∈ cs, ∀ x : Int, v ≠ .int .u32 x) : NoU cs.toArray := by
  intro i x hi
  rw [List.getElem?_toArray] at hi
  exact h _ (List.mem_of_getElem? hi) x rfl
section
variable {L : Nat} {w : World} {a b : RV} {q r : Rat}
end

end Go.Proofs.Ytjkddchkjkocbaa

namespace Go.Proofs.Ytjkddchkjkocbaa
open Go.RowKit

section
variable {P : Program} {ops : Array Oper} {rest : List Oper} {op : Oper} {a : Act} {w w' : World} {Q : Exit → Act → World → Prop} {v : Value}

theorem wpList_if (hw : Region.wanted op (yielded ops a.tmps) = true) (h : op.wp P a w (wpList P ops Q rest) Q) : wpList P ops Q (op :: rest) a w := by
  rw [wpList, if_pos hw]
  exact .inl h
theorem mv_val (hw : Region.wanted op (yielded ops a.tmps) = true) (hv : (execOp a.eval op).run P w = .ok (.value v) w') (h : wpList P ops Q rest (a.put op.dst v) w') : wpList P ops Q (op :: rest) a w :=
  wpList_if hw (by unfold Oper.wp; rw [hv]; exact h)
theorem mv_load (hw : Region.wanted op (yielded ops a.tmps) = true) (ty : TypeId) (x : Operand) (ho : op.op = .load ty x) (g : Nat) (t : TypeId) (cs : Array Value) (d : TypeDesc) (hx : a.eval x = .pointer (some ⟨g, 0, none⟩)) (hb : Blk w g t cs)
    (hu : P.underlying ty = some d) (hd : d.isRow = true) (hi : (P.info? ty).map (·.size) = some cs.size) (h : wpList P ops Q rest (a.put op.dst (.agg cs)) w) : wpList P ops Q (op :: rest) a w :=
  wpList_if hw (wp_load_mid ty x ho g 0 hx cs.toList d hb.range hu hd (by simpa using hi) (by simpa using h))
theorem mv_store (hw : Region.wanted op (yielded ops a.tmps) = true) (ty : TypeId) (x y : Operand) (ho : op.op = .store ty x y) (g : Nat) (t : TypeId) (cs0 cs : Array Value) (hx : a.eval x = .pointer (some ⟨g, 0, none⟩)) (hy : a.eval y = .agg cs)
    (hb : Blk w g t cs0) (hl : cs.size = cs0.size) (hi : (P.info? ty).map (·.size) = some cs.size) (h1 : cs.all (·.oneCell') = true)
    (h : wpList P ops Q rest (a.put op.dst undef) (w.setCells g 0 cs.toList)) : wpList P ops Q (op :: rest) a w :=
  wpList_if hw (wp_store_blk ty x y ho g t cs0 cs hx hy hb hl hi h1 h)
theorem Blk.part {w : World} {g : Nat} {t : TypeId} {cs : Array Value} (h : Blk w g t cs) (o n : Nat) : w.rangeAt g o (cs.extract o (o + n)).toList := World.rangeAt_of_block h o n
end

section
variable {P : Program} {l : List Oper} {Q : Exit → Act → World → Prop} {md : Region.Mode} {S : World → Prop} {i : Nat} {oi : Oper} {fuel : Nat} {listed listed' : Array Bool} {a : Act} {w w' : World} {v : Value}

theorem md_val (hi : l[i]? = some oi) (hs : Region.noSelect l.toArray = true) (hf : Region.free md l.toArray listed i = true) (hr : (Region.ready md l.toArray listed).contains i = true)
    (hQ : ∀ c a w, Q (.panic c) (a.put oi.dst v) w → Q (.panic c) a w) (hw : Region.wanted oi (yielded l.toArray a.tmps) = true) (hv : ∀ w, S w → (execOp a.eval oi).run P w = .ok (.value v) w) (hS : S w)
    (hl : listed.setIfInBounds i true = listed') (h : wpAnyH P md l.toArray Q S fuel listed' (a.put oi.dst v) w) : wpAnyH P md l.toArray Q S (fuel + 1) listed a w :=
  wpAnyH_take_l hi hs hf hr hQ (Or.inl ⟨hw, hv⟩) hS (by rw [hl]; exact h)
theorem md_one (hi : l[i]? = some oi) (hr : Region.ready md l.toArray listed = [i]) (hw : Region.wanted oi (yielded l.toArray a.tmps) = true)
    (hv : (execOp a.eval oi).run P w = .ok (.value v) w') (hS : S w') (hl : listed.setIfInBounds i true = listed')
    (h : wpAnyH P md l.toArray Q S fuel listed' (a.put oi.dst v) w') : wpAnyH P md l.toArray Q S (fuel + 1) listed a w :=
  wpAnyH_one_l hi hr (fun K hK => by
    rw [if_pos hw]
    unfold Oper.wp
    rw [hv]
    exact hK.out _ _ hS (fun _ => by rw [hl]; exact h))
theorem md_two {j : Nat} {oj : Oper} {u : Value} {wi wj : World} {lj : Array Bool} (hi : l[i]? = some oi) (hj : l[j]? = some oj) (hr : Region.ready md l.toArray listed = [i, j])
    (hw : Region.wanted oi (yielded l.toArray a.tmps) = true) (hv : (execOp a.eval oi).run P w = .ok (.value v) wi) (hS : S wi) (hl : listed.setIfInBounds i true = listed')
    (hwj : Region.wanted oj (yielded l.toArray a.tmps) = true) (hvj : (execOp a.eval oj).run P w = .ok (.value u) wj) (hSj : S wj) (hlj : listed.setIfInBounds j true = lj)
    (h : wpAnyH P md l.toArray Q S fuel listed' (a.put oi.dst v) wi) (h2 : wpAnyH P md l.toArray Q S fuel lj (a.put oj.dst u) wj) : wpAnyH P md l.toArray Q S (fuel + 1) listed a w :=
  wpAnyH_ready hr (by simp) (AllReadyH.cons (by rw [List.getElem?_toArray]; exact hi) (fun K hK => by
    rw [if_pos hw]
    unfold Oper.wp
    rw [hv]
    exact hK.out _ _ hS (fun _ => by rw [hl]; exact h)) (AllReadyH.cons (by rw [List.getElem?_toArray]; exact hj) (fun K hK => by
    rw [if_pos hwj]
    unfold Oper.wp
    rw [hvj]
    exact hK.out _ _ hSj (fun _ => by rw [hlj]; exact h2)) AllReadyH.nil))
end
theorem Blk.setPart {w : World} {g : Nat} {t : TypeId} {cs : List Value} (h : Blk w g t cs.toArray) (o : Nat) (vs : List Value) (hl : o + vs.length ≤ cs.length) : Blk (w.setCells g o vs) g t (cs.take o ++ vs ++ cs.drop (o + vs.length)).toArray := heap_setCells g vs o w t cs h hl
theorem Blk.therePart {w : World} {g : Nat} {t : TypeId} {cs : List Value} (h : Blk w g t cs.toArray) (o n : Nat) (hl : o + n ≤ cs.length) : w.there g o n := fun j hj => by
  rw [h.cell, h.frozen]
  simp
  omega
theorem run_storeVar_cell {P : Program} (w : World) (b o : Nat) (ty : TypeId) (v : Value) (ht : w.there b o 1) (hi : (P.info? ty).map (·.size) = some 1) (hc : v.cells = #[v]) (h1 : v.oneCell' = true) :
    (storeVar ty ⟨b, o, none⟩ v).run P w = .ok () (w.setCells b o [v]) := by
  have := run_storeCells_cells (P := P) b o [v] 0 w (fun j hj => by simpa using (ht j (by simpa using hj)).1) (fun j hj => by simpa using (ht j (by simpa using hj)).2)
    (fun u hu => by simp at hu; rw [hu]; exact h1)
  cases hq : P.info? ty with
  | none => simp [hq] at hi
  | some i =>
    have hs : i.size = 1 := by simpa [hq] using hi
    simp only [Nat.add_zero] at this
    simp [storeVar, sizeOf, typeInfo, hq, hc, hs, this]
theorem md_cell {P : Program} {l : List Oper} {Q : Exit → Act → World → Prop} {md : Region.Mode} {S : World → Prop} {i : Nat} {oi : Oper} {fuel : Nat} {listed listed' : Array Bool} {a : Act} {w : World} (hi : l[i]? = some oi)
    (hr : Region.ready md l.toArray listed = [i]) (hw : Region.wanted oi (yielded l.toArray a.tmps) = true) (ty : TypeId) (x y : Operand) (ho : oi.op = .store ty x y)
    (g o : Nat) (t : TypeId) (cs0 : List Value) (v : Value) (hx : a.eval x = .pointer (some ⟨g, o, none⟩)) (hy : a.eval y = v) (hb : Blk w g t cs0.toArray) (hl0 : o + 1 ≤ cs0.length)
    (hz : (P.info? ty).map (·.size) = some 1) (hc : v.cells = #[v]) (h1 : v.oneCell' = true) (hS : S (w.setCells g o [v])) (hl : listed.setIfInBounds i true = listed')
    (h : wpAnyH P md l.toArray Q S fuel listed' (a.put oi.dst undef) (w.setCells g o [v])) : wpAnyH P md l.toArray Q S (fuel + 1) listed a w :=
  wpAnyH_one_l hi hr (fun K hK => by
    rw [if_pos hw]
    unfold Oper.wp execOp
    simp only [ho, hx, hy, Instr.storeAt, Instr.sureAddr, Sem.run_bind, Sem.run_pure, Result.andThen_ok, run_storeVar_cell w g o ty v (hb.therePart o 1 hl0) hz hc h1]
    exact hK.out _ _ hS (fun _ => by rw [hl]; exact h))
def bl : Nat → Nat → List Bool
  | 0, _ => []
  | n + 1, m => (m % 2 == 1) :: bl n (m / 2)
abbrev bs (n m : Nat) : Array Bool := (bl n m).toArray
theorem pV {P : Program} {ops : Array Oper} {rest : List Oper} {op : Oper} {a : Act} {w w' : World} {Q : Exit → Act → World → Prop} {v : Value} (h : wpList P ops Q rest (a.put op.dst v) w') (hw : Region.wanted op (yielded ops a.tmps) = true := by rfl) (hv : (execOp a.eval op).run P w = .ok (.value v) w' := by go_simp <;> with_reducible rfl) : wpList P ops Q (op :: rest) a w := mv_val hw hv h
theorem mU {P : Program} {l : List Oper} {Q : Exit → Act → World → Prop} {md : Region.Mode} {S : World → Prop} {oi : Oper} {fuel : Nat} {listed : Array Bool} {a : Act} {w : World} {w' : World} {v : Value} (i : Nat) (listed' : Array Bool) (hS : S w') (h : wpAnyH P md l.toArray Q S fuel listed' (a.put oi.dst v) w') (hi : l[i]? = some oi := by rfl) (hr : Region.ready md l.toArray listed = [i] := by kernel_rfl) (hw : Region.wanted oi (yielded l.toArray a.tmps) = true := by rfl) (hv : (execOp a.eval oi).run P w = .ok (.value v) w' := by go_simp) (hl : listed.setIfInBounds i true = listed' := by kernel_rfl) : wpAnyH P md l.toArray Q S (fuel + 1) listed a w := md_one hi hr hw hv hS hl h
theorem pL {P : Program} {ops : Array Oper} {rest : List Oper} {op : Oper} {a : Act} {w : World} {Q : Exit → Act → World → Prop} {ty : TypeId} {x : Operand} {g : Nat} {t : TypeId} {cs : Array Value} {d : TypeDesc} (hb : Blk w g t cs) (hu : P.underlying ty = some d) (hi : (P.info? ty).map (·.size) = some cs.size) (h : wpList P ops Q rest (a.put op.dst (.agg cs)) w) (hw : Region.wanted op (yielded ops a.tmps) = true := by rfl) (ho : op.op = .load ty x := by rfl) (hx : a.eval x = .pointer (some ⟨g, 0, none⟩) := by rfl) (hd : d.isRow = true := by rfl) : wpList P ops Q (op :: rest) a w := mv_load hw ty x ho g t cs d hx hb hu hd hi h
theorem pO {P : Program} {ops : Array Oper} {rest : List Oper} {op : Oper} {a : Act} {w : World} {Q : Exit → Act → World → Prop} {ty : TypeId} {x y : Operand} {g : Nat} {t : TypeId} {cs0 : Array Value} (cs : Array Value) (hb : Blk w g t cs0) (hl : cs.size = cs0.size) (hi : (P.info? ty).map (·.size) = some cs.size) (h1 : cs.all (·.oneCell') = true) (h : wpList P ops Q rest (a.put op.dst undef) (w.setCells g 0 cs.toList)) (hw : Region.wanted op (yielded ops a.tmps) = true := by rfl) (ho : op.op = .store ty x y := by rfl) (hx : a.eval x = .pointer (some ⟨g, 0, none⟩) := by rfl) (hy : a.eval y = .agg cs := by rfl) : wpList P ops Q (op :: rest) a w := mv_store hw ty x y ho g t cs0 cs hx hy hb hl hi h1 h
end Go.Proofs.Ytjkddchkjkocbaa

namespace Go.Proofs.Ytjkddchkjkocbaa
open Go.RowKit

def NoUL (l : List Value) : Prop := ∀ x ∈ l, ∀ k : Int, x ≠ .int .u32 k
theorem NoUL.app {a b : List Value} (h : NoUL a) (k : NoUL b) : NoUL (a ++ b) := fun x hx => by
  rcases List.mem_append.1 hx with hx | hx
  · exact h x hx
  · exact k x hx
theorem NoUL.left {a b : List Value} (h : NoUL (a ++ b)) : NoUL a := fun x hx => h x (List.mem_append_left _ hx)
theorem NoUL.right {a b : List Value} (h : NoUL (a ++ b)) : NoUL b := fun x hx => h x (List.mem_append_right _ hx)
theorem NoUL.drop {a : List Value} (h : NoUL a) (n : Nat) : NoUL (a.drop n) := fun x hx => h x (List.mem_of_mem_drop hx)
theorem NoUL.arr {a : List Value} (h : NoUL a) : NoU a.toArray := noU_of _ h
theorem noUL_zero (z : Array Value) (n : Nat) (hs : 0 < z.size) (h : NoUL z.toList) : NoUL (Builtin.zeroCells z n).toList := by
  intro x hx k
  unfold Builtin.zeroCells at hx
  simp only [Array.toList_map, List.mem_map] at hx
  obtain ⟨i, _, rfl⟩ := hx
  have hlt : i % z.size < z.size := Nat.mod_lt _ hs
  rw [getElem!_pos z _ hlt]
  exact h _ (by simp) k

def RowN (w : World) (base : Nat) (e : TypeId) (size : Nat) (v : Value) (n : Nat) (xs : List Value) : Prop :=
  xs.length = n * size ∧ (v = .slice none 0 0 ∧ n = 0 ∨
    ∃ g cap rest, v = .slice (some ⟨g, 0, none⟩) n cap ∧ base ≤ g ∧ Blk w g e (xs ++ rest).toArray ∧ n ≤ cap ∧ cap ≤ maxLen ∧ xs.length + rest.length = cap * size ∧ NoUL (xs ++ rest))

theorem RowN.nil (w : World) (base : Nat) (e : TypeId) (size : Nat) : RowN w base e size (.slice none 0 0) 0 [] := ⟨by simp, .inl ⟨rfl, rfl⟩⟩
theorem RowN.empty (w : World) (base : Nat) (e : TypeId) (size : Nat) (hb : base ≤ w.heap.size) : RowN (w.alloc (.cells #[] e)) base e size (.slice (some ⟨w.heap.size, 0, none⟩) 0 0) 0 [] :=
  ⟨by simp, .inr ⟨w.heap.size, 0, [], rfl, hb, Blk.new w e #[], Nat.le_refl _, Nat.zero_le _, by simp, by intro x hx; simp at hx⟩⟩
theorem RowN.ext {w w' : World} {base : Nat} {e : TypeId} {size : Nat} {v : Value} {n : Nat} {xs : List Value} (h : RowN w base e size v n xs) (x : Ext w w') : RowN w' base e size v n xs := by
  obtain ⟨h1, h2 | ⟨g, cap, rest, a, b, c, d⟩⟩ := h
  · exact ⟨h1, .inl h2⟩
  · exact ⟨h1, .inr ⟨g, cap, rest, a, b, c.ext x, d⟩⟩
theorem RowN.block {w : World} {base : Nat} {e : TypeId} {size : Nat} {v : Value} {n : Nat} {xs : List Value} (h : RowN w base e size v n xs) : ∀ k, v.ownBlock = some k → base ≤ k := by
  intro k hk
  obtain ⟨h1, ⟨rfl, _⟩ | ⟨g, cap, rest, rfl, b, _⟩⟩ := h
  · simp [Value.ownBlock] at hk
  · simp [Value.ownBlock] at hk; omega
theorem RowN.own {w w' : World} {base : Nat} {e : TypeId} {size : Nat} {v : Value} {n : Nat} {xs : List Value} (h : RowN w base e size v n xs) {X : Nat} (o : Own X w w') (hne : ∀ k, v.ownBlock = some k → k ≠ X) : RowN w' base e size v n xs := by
  obtain ⟨h1, h2 | ⟨g, cap, rest, rfl, b, c, d⟩⟩ := h
  · exact ⟨h1, .inl h2⟩
  · exact ⟨h1, .inr ⟨g, cap, rest, rfl, b, c.own o (hne g (by simp [Value.ownBlock])), d⟩⟩

theorem own_setRow (w : World) (g : Nat) (cs : Array Value) : Own g w (w.setRow g cs) :=
  ⟨rfl, rfl, rfl, by simp, fun k _ hk => setRow_other w g k _ (fun e => hk (by rw [e]))⟩

theorem run_append_rowN {P : Program} (w : World) (base : Nat) (t ty e : TypeId) (i : TypeInfo) (z : Value) (size bytes : Nat) (ht : P.underlying t = some (.slice e)) (hi : P.info? e = some i) (hz : i.zero = some z)
    (hsize : i.size = size) (hby : i.bytes = bytes) (hzs : z.cells.size = size) (hsz : 0 < size) (hzu : NoUL z.cells.toList)
    (v : Value) (n : Nat) (xs : List Value) (hown : RowN w base e size v n xs)
    (a : Addr) (m c : Nat) (news : List Value) (hl : news.length = m * size) (hnews : ∀ j u, news[j]? = some u → w.cell? (a.add j) = some u) (h1 : ∀ u ∈ news, u.oneCell' = true) (hnu : NoUL news)
    (hm : 0 < m) (h63 : n + m ≤ maxLen) (hbytes : (n + m) * bytes ≤ 140737488355328) (hbase : base ≤ w.heap.size) :
    ∃ v' w', (Builtin.append_ #[t, t] ty #[v, .slice (some a) m c]).run P w = .ok v' w' ∧ RowN w' base e size v' (n + m) (xs ++ news) ∧ w.grownBy w' v.ownBlock ∧
      (∀ (r : RV) (q : Rat), r.Is w q → r.Is w' q) ∧ ∃ g cap, v' = .slice (some ⟨g, 0, none⟩) (n + m) cap ∧ (v.ownBlock = some g ∨ w.heap.size ≤ g) := by
  subst hsize
  subst hby
  have hsmall : n + m ≤ 9223372036854775807 := by simp only [maxLen] at h63; omega
  have hlen : (xs ++ news).length = (n + m) * i.size := by rw [List.length_append, hown.1, hl, Nat.add_mul]
  have hzc : ∀ k, NoUL (Builtin.zeroCells z.cells k).toList := fun k => noUL_zero _ _ (by omega) hzu
  have grown : ∀ (old : Nat), old < n + m → NoUL xs → ∀ (row : Option Nat),
      RowN (w.drew.alloc (.cells (xs.toArray ++ news.toArray ++ Builtin.zeroCells z.cells (grownCap w (n + m) old e - (n + m))) e)) base e i.size
        (.slice (some ⟨w.heap.size, 0, none⟩) (n + m) (grownCap w (n + m) old e)) (n + m) (xs ++ news) ∧
      w.grownBy (w.drew.alloc (.cells (xs.toArray ++ news.toArray ++ Builtin.zeroCells z.cells (grownCap w (n + m) old e - (n + m))) e)) row ∧
      Ext w (w.drew.alloc (.cells (xs.toArray ++ news.toArray ++ Builtin.zeroCells z.cells (grownCap w (n + m) old e - (n + m))) e)) := by
    intro old ho hxu row
    have hge := grownCap_ge w (n + m) old e
    have hcm : grownCap w (n + m) old e ≤ maxLen := grownCap_le_maxLen w (n + m) old e h63
    refine ⟨⟨hlen, .inr ⟨w.heap.size, _, (Builtin.zeroCells z.cells (grownCap w (n + m) old e - (n + m))).toList, rfl, hbase, ?_, hge, hcm, ?_, (hxu.app hnu).app (hzc _)⟩⟩, ⟨rfl, rfl, rfl, by simp, fun k hk _ => Below.heap_alloc w.drew _ k hk⟩, ((Ext.refl w).drew).alloc _⟩
    · have h := Blk.new w.drew e (xs.toArray ++ news.toArray ++ Builtin.zeroCells z.cells (grownCap w (n + m) old e - (n + m)))
      have e2 : (xs ++ news ++ (Builtin.zeroCells z.cells (grownCap w (n + m) old e - (n + m))).toList).toArray = xs.toArray ++ news.toArray ++ Builtin.zeroCells z.cells (grownCap w (n + m) old e - (n + m)) := by
        apply Array.ext'; simp
      rw [e2]
      exact h
    · rw [hlen, Array.length_toList, size_zeroCells, hzs, ← Nat.add_mul]
      congr 1
      omega
  rcases hown.2 with ⟨rfl, rfl⟩ | ⟨g, cap, rest, rfl, hbg, hg, hnc, hcm, hcs, hnr⟩
  · have hx : xs = [] := List.eq_nil_of_length_eq_zero (by simpa using hown.1)
    subst hx
    have hr := run_append_nil (P := P) w t ty e i z ht hi hz a m c news hl hnews (by omega) (by omega) (by have hb := hbytes; simp only [Nat.zero_add] at hb; omega)
    have hgr := grown 0 (by omega) (by intro x hx; simp at hx) (Value.ownBlock (.slice none 0 0))
    simp only [Nat.zero_add, List.nil_append, Array.empty_append] at hgr ⊢
    exact ⟨_, _, hr, hgr.1, hgr.2.1, fun r q h => h.ext hgr.2.2, _, _, rfl, .inr (Nat.le_refl _)⟩
  · by_cases hroom : n + m ≤ cap
    · have hcur : (xs ++ rest).toArray.size = cap * i.size := by simp [hcs]
      have hfit : n * i.size + news.length ≤ (xs ++ rest).toArray.size := by rw [hl, hcur, ← Nat.add_mul]; exact Nat.mul_le_mul_right _ hroom
      have hr := run_append_room (P := P) w t ty e i ht hi g n cap _ hg a m c news hl hnews h1 hroom hfit
      have ho := own_setRow w g ((xs ++ rest).toArray.toList.take (n * i.size) ++ news ++ (xs ++ rest).toArray.toList.drop (n * i.size + news.length)).toArray
      have e1 : (xs ++ rest).toArray.toList.take (n * i.size) = xs := by rw [List.toList_toArray, ← hown.1]; exact List.take_left
      have e2 : (xs ++ rest).toArray.toList.drop (n * i.size + news.length) = rest.drop news.length := by
        rw [List.toList_toArray, ← hown.1, List.drop_append, List.drop_of_length_le (by omega), List.nil_append]
        congr 1
        omega
      rw [e1, e2] at hr ho
      refine ⟨_, _, hr, ⟨hlen, .inr ⟨g, cap, rest.drop news.length, rfl, hbg, setRow_heap w g _ _ e _ hg, hroom, hcm, ?_, (hnr.left.app hnu).app (hnr.right.drop _)⟩⟩, ?_, fun r q h => h.own hg hnr.arr ho, _, _, rfl, .inl (by simp [Value.ownBlock])⟩
      · rw [List.length_append, List.length_drop]
        have h5 : (xs ++ rest).toArray.size = xs.length + rest.length := by simp
        have h6 := hown.1
        omega
      · exact ho
    · have holds : ∀ j u, xs[j]? = some u → w.cell? ((⟨g, 0, none⟩ : Addr).add j) = some u := by
        intro j u hj
        have e3 : (⟨g, 0, none⟩ : Addr).add j = ⟨g, j, none⟩ := by unfold Addr.add; split <;> simp_all
        rw [e3, hg.cell j, List.getElem?_toArray, List.getElem?_append_left (List.getElem?_eq_some_iff.1 hj).1]
        exact hj
      have hr := run_append_grow (P := P) w t ty e i z ht hi hz ⟨g, 0, none⟩ n cap xs hown.1 holds a m c news hl hnews (by omega) (by omega) (growslice_fits (by omega) hbytes)
      have hgr := grown cap (by omega) hnr.left (Value.ownBlock (.slice (some ⟨g, 0, none⟩) n cap))
      exact ⟨_, _, hr, hgr.1, hgr.2.1, fun r q h => h.ext hgr.2.2, _, _, rfl, .inr (Nat.le_refl _)⟩

theorem wp_append_rowF {P : Program} {w : World} {o : Oper} {a : Act} {K : Act → World → Prop} {Q : Exit → Act → World → Prop} (s x : Operand) (t : TypeId)
    (ho : o.op = .call { callee := .builtin .append, args := #[s, x], argTypes := #[t, t] })
    (base : Nat) (e : TypeId) (i : TypeInfo) (z : Value) (size bytes : Nat) (ht : P.underlying t = some (.slice e)) (hi : P.info? e = some i) (hz : i.zero = some z)
    (hsize : i.size = size) (hby : i.bytes = bytes) (hzs : z.cells.size = size) (hsz : 0 < size) (hzu : NoUL z.cells.toList)
    (v : Value) (n : Nat) (xs : List Value) (hs : a.eval s = v) (hown : RowN w base e size v n xs)
    (ad : Addr) (m c : Nat) (news : List Value) (hx : a.eval x = .slice (some ad) m c) (hl : news.length = m * size) (hnews : ∀ j u, news[j]? = some u → w.cell? (ad.add j) = some u) (h1 : ∀ u ∈ news, u.oneCell' = true) (hnu : NoUL news)
    (hm : 0 < m) (h63 : n + m ≤ maxLen) (hbytes : (n + m) * bytes ≤ 140737488355328) (hbase : base ≤ w.heap.size)
    (h : ∀ g cap w', (v.ownBlock = some g ∨ w.heap.size ≤ g) → RowN w' base e size (.slice (some ⟨g, 0, none⟩) (n + m) cap) (n + m) (xs ++ news) → w.grownBy w' v.ownBlock → (∀ (r : RV) (q : Rat), r.Is w q → r.Is w' q) → K (a.put o.dst (.slice (some ⟨g, 0, none⟩) (n + m) cap)) w') : o.wp P a w K Q := by
  obtain ⟨v', w', hr, h2, h3, h4, g, cap, rfl, hf⟩ := run_append_rowN (P := P) w base t o.type e i z size bytes ht hi hz hsize hby hzs hsz hzu v n xs hown ad m c news hl hnews h1 hnu hm h63 hbytes hbase
  unfold Oper.wp execOp
  simp only [ho, resolve, invoke, builtin, Sem.run_bind, Sem.run_pure, Result.andThen_ok, List.map_toArray, List.map_cons, List.map_nil, hs, hx, hr]
  exact h g cap w' hf h2 h3 h4
theorem md_appendF {P : Program} {l : List Oper} {Q : Exit → Act → World → Prop} {md : Region.Mode} {S : World → Prop} {j : Nat} {oi : Oper} {fuel : Nat} {listed listed' : Array Bool} {a : Act} {w : World}
    (hj : l[j]? = some oi) (hr : Region.ready md l.toArray listed = [j]) (hw : Region.wanted oi (yielded l.toArray a.tmps) = true) (s x : Operand) (t : TypeId)
    (ho : oi.op = .call { callee := .builtin .append, args := #[s, x], argTypes := #[t, t] })
    (base : Nat) (e : TypeId) (i : TypeInfo) (z : Value) (size bytes : Nat) (ht : P.underlying t = some (.slice e)) (hi : P.info? e = some i) (hz : i.zero = some z)
    (hsize : i.size = size) (hby : i.bytes = bytes) (hzs : z.cells.size = size) (hsz : 0 < size) (hzu : NoUL z.cells.toList)
    (v : Value) (n : Nat) (xs : List Value) (hs : a.eval s = v) (hown : RowN w base e size v n xs)
    (ad : Addr) (m c : Nat) (news : List Value) (hx : a.eval x = .slice (some ad) m c) (hl : news.length = m * size) (hnews : ∀ j u, news[j]? = some u → w.cell? (ad.add j) = some u) (h1 : ∀ u ∈ news, u.oneCell' = true) (hnu : NoUL news)
    (hm : 0 < m) (h63 : n + m ≤ maxLen) (hbytes : (n + m) * bytes ≤ 140737488355328) (hbase : base ≤ w.heap.size) (hl' : listed.setIfInBounds j true = listed')
    (h : ∀ g cap w', (v.ownBlock = some g ∨ w.heap.size ≤ g) → RowN w' base e size (.slice (some ⟨g, 0, none⟩) (n + m) cap) (n + m) (xs ++ news) → w.grownBy w' v.ownBlock → (∀ (r : RV) (q : Rat), r.Is w q → r.Is w' q) →
      S w' ∧ wpAnyH P md l.toArray Q S fuel listed' (a.put oi.dst (.slice (some ⟨g, 0, none⟩) (n + m) cap)) w') : wpAnyH P md l.toArray Q S (fuel + 1) listed a w :=
  wpAnyH_one_l hj hr (fun K hK => by
    rw [if_pos hw]
    refine wp_append_rowF s x t ho base e i z size bytes ht hi hz hsize hby hzs hsz hzu v n xs hs hown ad m c news hx hl hnews h1 hnu hm h63 hbytes hbase fun g cap w' hf h2 h3 h4 => ?_
    obtain ⟨k1, k2⟩ := h g cap w' hf h2 h3 h4
    exact hK.out _ _ k1 (fun _ => by rw [hl']; exact k2))
theorem Blk.grown {w w' : World} {b : Nat} {t : TypeId} {cs : Array Value} {row : Option Nat} (h : Blk w b t cs) (hg : w.grownBy w' row) (hne : row ≠ some b) : Blk w' b t cs := by
  unfold Blk
  rw [hg.block b h.lt (Ne.symm hne)]
  exact h
end Go.Proofs.Ytjkddchkjkocbaa

namespace Go.Proofs.Ytjkddchkjkocbaa
open Go.RowKit
attribute [local go_sem ↓] Go.wp_at_zero Go.wp_at_succ run_eql_point run_neq_point run_max_ii run_min_ii


theorem ex_seg : quadSegV (0, 0) (512, 0) (512, 512) 256 = (1, 0) := by decide +kernel
theorem ex_pts : quadPts (0, 0) (512, 0) (512, 512) 256 = [(512, 512)] := by decide +kernel
theorem ex_at : quadAtV (0, 0) (512, 0) (512, 512) 1 2 = (384, 128) := by decide +kernel

theorem pts1 {w : World} {g : Nat} {a : Int × Int} (h0 : w.cell? ⟨g, 0, none⟩ = some (.int .i64 a.1)) (h1 : w.cell? ⟨g, 1, none⟩ = some (.int .i64 a.2)) : PtsAt w g 0 [a] := by
  intro i hi
  match i, hi with
  | 0, _ => exact ⟨h0, h1⟩
theorem ptsV1 {w : World} {g : Nat} {a : Int × Int} (h0 : w.cell? ⟨g, 0, none⟩ = some (.int .i64 a.1)) (h1 : w.cell? ⟨g, 1, none⟩ = some (.int .i64 a.2)) : PtsV w (.slice (some ⟨g, 0, none⟩) 1 1) [a] :=
  ⟨_, _, rfl, fun _ => ⟨_, _, rfl, pts1 h0 h1⟩⟩

theorem example_any (w : World) : Calls Try.prog 4 #[] w fun e w' => e = .returned (.bool true) ∧ Ext w w' := by
  have S1 := fun w => quadSeg_any (0, 0) (512, 0) (512, 512) 256 w
  have S2 := fun w => quad_any (0, 0) (512, 0) (512, 512) 256 w
  have S3 := fun w => quadAt_any (0, 0) (512, 0) (512, 512) 1 2 w
  rw [ex_seg] at S1
  rw [ex_seg, ex_pts] at S2
  rw [ex_at] at S3
  have H1 := zH S1
  have H2 := zH S2
  have H3 := zH S3
  clear S1 S2 S3
  have HG := zH (show ∀ x, Ext (w.alloc (.cells #[.int .i64 0, .int .i64 0, .int .i64 512, .int .i64 0, .int .i64 512, .int .i64 512] 37)) x → x.cell? ⟨w.heap.size, 0, none⟩ = some (.int .i64 0) ∧ x.cell? ⟨w.heap.size, 1, none⟩ = some (.int .i64 0) ∧ x.cell? ⟨w.heap.size, 2, none⟩ = some (.int .i64 512) ∧
      x.cell? ⟨w.heap.size, 3, none⟩ = some (.int .i64 0) ∧ x.cell? ⟨w.heap.size, 4, none⟩ = some (.int .i64 512) ∧ x.cell? ⟨w.heap.size, 5, none⟩ = some (.int .i64 512) from fun x h =>
    ⟨h.get (by simp), h.get (by simp), h.get (by simp), h.get (by simp), h.get (by simp), h.get (by simp)⟩)
  go_enter Try.func4, Try.ntmps4
  go_wp2_with fail
  refine (H1.out _).mono ?_
  rintro e w1 ⟨rfl, hb1⟩
  have g1 := HG.out w1 hb1
  go_wp2_with fail
  refine (H2.out _).mono ?_
  rintro e w2 ⟨v, rfl, ho, hb2⟩
  have g2 := HG.out w2 (hb1.trans hb2)
  have hr := zH ho.read
  clear ho g1
  go_wp2_with fail
  refine (samePts_any v _ [(512, 512)] [(512, 512)] _ (hr.out.ext ((Ext.refl _).alloc _)) (ptsV1 (by simp) (by simp)) (by simp) (by simp)).mono ?_
  rintro e w3 ⟨rfl, hb3⟩
  have g3 := HG.out w3 ((hb1.trans hb2).trans (((Ext.refl _).alloc _).trans hb3))
  clear g2
  go_wp2_with fail
  refine (H3.out _).mono ?_
  rintro e w4 ⟨rfl, hb4⟩
  go_wp2_with fail
  go_ret
  exact ⟨rfl, ((Ext.refl _).alloc _).trans (((hb1.trans hb2).trans (((Ext.refl _).alloc _).trans hb3)).trans hb4)⟩
end Go.Proofs.Ytjkddchkjkocbaa

namespace Go.Proofs.Ytjkddchkjkocbaa
open Go.RowKit Go.Shelf
attribute [local go_sem] Oper.semAt_some

set_option maxRecDepth 100000 in
set_option maxHeartbeats 1000000 in
theorem stepsC_in (F : Fence) (m : Nat) (hF : F.fn 32) (hF2 : F.fn 36) (hro : F.round = none) (hm : 1 ≤ m) (n : Nat) (hn : n ≤ 64) (f : Int → Int × Int) (bn ba n₀ : Nat) (p q : Addr) (l : Nat) (J Jx : List (Int × Int) → World → Prop) (w : World) (hbn : bn < n₀) (hba : ba < n₀)
    (cn : w.cell? ⟨bn, 0, none⟩ = some (.int .i64 n)) (ca : w.cell? ⟨ba, 0, none⟩ = some (.func (.func 36) #[] #[.pointer (some p), .pointer (some q)]))
    (hat : ∀ (i : Int) (W : World), Below n₀ w W → CallsIn F (m - 1) Try.prog 36 #[.int .i64 i, .pointer (some p), .pointer (some q)] W (fun e W' => e = .returned (ptVal (f i)) ∧ Ext W W'))
    (hJ : ∀ s A B, J s A → Ext A B → J s B) (hn₀ : n₀ ≤ w.heap.size)
    (hY : ∀ pre x W, J pre W → pre.length < n → YieldAt F (m - 1) Try.prog l #[ptVal x] W fun e W' =>
      (e = .returned (.bool true) ∧ J (pre ++ [x]) W' ∧ Below n₀ W W') ∨ (e = .returned (.bool false) ∧ Jx (pre ++ [x]) W')) (h0 : J [] w) :
    CallsIn F m Try.prog 32 #[.func (.yield l) #[] #[], .pointer (some ⟨bn, 0, none⟩), .pointer (some ⟨ba, 0, none⟩)] w fun e W' => (∃ v, e = .returned v) ∧
      ((∃ ys, ys = upTo f n ∧ J ys W') ∨ (∃ pre, pre <+: upTo f n ∧ Jx pre W')) := by
  refine callsIn_of_wp Try.func32 rfl hF ?_ hro
  simp only [Try.ntmps32, List.size_toArray, List.length_cons, List.length_nil, Nat.reduceAdd, Nat.reduceSub, Array.replicate_succ, Array.replicate_zero, List.push_toArray, List.append_toArray, List.nil_append, List.cons_append]
  gi_wp2
  gi_loopw [4] (fun i wr => ∃ k : Nat, k ≤ n ∧ i = .int .i64 ((k : Int) + 1) ∧ Below n₀ w wr ∧ J (upTo f k) wr) (fun i _ => n + 1 - (intOf i).toNat)
  case atStart => exact ⟨0, Nat.zero_le _, rfl, Below.refl _ _, h0⟩
  case round =>
    obtain ⟨k, hk, rfl, hb, hj⟩ := hrel
    have c1 := (hb.cell (p := ⟨bn, 0, none⟩) hbn).trans cn
    have c2 := (hb.cell (p := ⟨ba, 0, none⟩) hba).trans ca
    by_cases hlt : k < n
    · gi_wp2_with (gi_at_call 36; refine (hat _ _ hb).mono ?_; rintro e W1 ⟨rfl, hx⟩; obtain ⟨fn, tmps, assign, body, hy, hR⟩ := hY _ (f ((k : Int) + 1)) W1 (hJ _ _ _ hj hx) (by rw [upTo_length]; exact hlt))
      gi_wp2
      refine hR.mono ?_
      rintro e W3 (⟨rfl, hJ3, hk3⟩ | ⟨rfl, hJx3⟩)
      · gi_wp2
        go_roundw
        case rel => exact ⟨k + 1, hlt, by go_num, ((hb.trans (hx.below.mono (Nat.le_trans hn₀ hb.size))).trans hk3), by rw [upTo_succ]; exact hJ3⟩
        case measure => simp [intOf]; omega
      · gi_wp2
        refine bodyPost_ret (results_none rfl _ _ _) rfl ?_
        exact ⟨⟨_, rfl⟩, .inr ⟨_, by rw [← upTo_succ]; exact upTo_prefix f _ _ hlt, hJx3⟩⟩
    · gi_wp2
      go_end0
      have e : k = n := by omega
      subst e
      exact ⟨⟨_, rfl⟩, .inl ⟨_, rfl, hj⟩⟩

def cubicPts (a b c d : Int × Int) (tol : Int) : List (Int × Int) :=
  if (cubicSegV a b c d tol).2 = 0 then upTo (fun i => cubicAtV a b c d i (cubicSegV a b c d tol).1) (cubicSegV a b c d tol).1.toNat else []

def Box8 (w : World) (g : Nat) (a b c d : Int × Int) : Prop :=
  w.cell? ⟨g, 0, none⟩ = some (.int .i64 a.1) ∧ w.cell? ⟨g, 1, none⟩ = some (.int .i64 a.2) ∧ w.cell? ⟨g, 2, none⟩ = some (.int .i64 b.1) ∧
  w.cell? ⟨g, 3, none⟩ = some (.int .i64 b.2) ∧ w.cell? ⟨g, 4, none⟩ = some (.int .i64 c.1) ∧ w.cell? ⟨g, 5, none⟩ = some (.int .i64 c.2) ∧ w.cell? ⟨g, 6, none⟩ = some (.int .i64 d.1) ∧ w.cell? ⟨g, 7, none⟩ = some (.int .i64 d.2)
theorem Box8.ext {w w' : World} {g : Nat} {a b c d : Int × Int} (h : Box8 w g a b c d) (e : Ext w w') : Box8 w' g a b c d :=
  ⟨e.get h.1, e.get h.2.1, e.get h.2.2.1, e.get h.2.2.2.1, e.get h.2.2.2.2.1, e.get h.2.2.2.2.2.1, e.get h.2.2.2.2.2.2.1, e.get h.2.2.2.2.2.2.2⟩

theorem collectC (a b c d : Int × Int) (n : Nat) (hn2 : n ≤ 64) (bp bq bn ba : Nat) (w : World) (hp : Box8 w bp a b c d) (hq : w.cell? ⟨bq, 0, none⟩ = some (.int .i64 n)) (cn : w.cell? ⟨bn, 0, none⟩ = some (.int .i64 n))
    (ca : w.cell? ⟨ba, 0, none⟩ = some (.func (.func 36) #[] #[.pointer (some ⟨bp, 0, none⟩), .pointer (some ⟨bq, 0, none⟩)])) :
    Calls Try.prog 20 #[.func (.func 32) #[] #[.pointer (some ⟨bn, 0, none⟩), .pointer (some ⟨ba, 0, none⟩)]] w fun e w' =>
      ∃ v, e = .returned v ∧ OwnsPts w w' v (upTo (fun i => cubicAtV a b c d i n) n) ∧ Ext w w' := by
  refine (callsIn_wide (n := 3)).1 ((all_in Fence.wide 3 trivial trivial rfl (by omega) _ (upTo (fun i => cubicAtV a b c d i n) n) (by rw [upTo_length]; exact hn2) w ?_).mono ?_)
  · intro W hW l J Jx W1 hW1 hJ _ hY h0
    have e1 : Ext w W1 := hW.trans hW1
    refine stepsC_in Fence.wide 2 trivial trivial rfl (by omega) n hn2 (fun i => cubicAtV a b c d i n) bn ba w.heap.size ⟨bp, 0, none⟩ ⟨bq, 0, none⟩ l J Jx W1
      (World.block_lt_of_cell? w _ cn) (World.block_lt_of_cell? w _ ca) (e1.get cn) (e1.get ca) ?_ (fun s A B hj he => hJ s A B none hj (grown_of_ext he) (fun r e => by cases e)) e1.size ?_ h0
    · intro i W2 hb
      have e2 : Ext w W2 := (e1.below).trans hb
      obtain ⟨p0, p1, p2, p3, p4, p5, p6, p7⟩ := hp.ext e2
      exact callsIn_wide.2 (cubic1_any a b c d i n bp bq W2 p0 p1 p2 p3 p4 p5 p6 p7 (e2.get hq))
    · intro pre x W2 hj hlt
      exact hY pre x W2 hj (by rw [upTo_length]; exact hlt)
  · rintro e W' ⟨v, rfl, ho, hnil, hx⟩
    exact ⟨v, rfl, ⟨ho, hnil.2⟩, hx⟩

attribute [local go_sem ↓] Go.wp_at_zero Go.wp_at_succ run_eql_point run_neq_point run_max_ii run_min_ii

set_option maxHeartbeats 800000 in
theorem cubic_any (a b c d : Int × Int) (tol : Int) (w : World) :
    Calls Try.prog 27 #[.agg #[.int .i64 a.1, .int .i64 a.2, .int .i64 b.1, .int .i64 b.2, .int .i64 c.1, .int .i64 c.2, .int .i64 d.1, .int .i64 d.2], .int .i64 tol] w (CurveSays (cubicPts a b c d tol) (cubicSegV a b c d tol).2 w) := by
  have g : ∀ w', Ext (w.alloc (.cells #[.int .i64 a.1, .int .i64 a.2, .int .i64 b.1, .int .i64 b.2, .int .i64 c.1, .int .i64 c.2, .int .i64 d.1, .int .i64 d.2] 64)) w' →
      w'.cell? ⟨w.heap.size, 0, none⟩ = some (.int .i64 a.1) ∧ w'.cell? ⟨w.heap.size, 1, none⟩ = some (.int .i64 a.2) ∧ w'.cell? ⟨w.heap.size, 2, none⟩ = some (.int .i64 b.1) ∧
      w'.cell? ⟨w.heap.size, 3, none⟩ = some (.int .i64 b.2) ∧ w'.cell? ⟨w.heap.size, 4, none⟩ = some (.int .i64 c.1) ∧ w'.cell? ⟨w.heap.size, 5, none⟩ = some (.int .i64 c.2) ∧ w'.cell? ⟨w.heap.size, 6, none⟩ = some (.int .i64 d.1) ∧ w'.cell? ⟨w.heap.size, 7, none⟩ = some (.int .i64 d.2) := fun w' h =>
    ⟨h.get (by simp), h.get (by simp), h.get (by simp), h.get (by simp), h.get (by simp), h.get (by simp), h.get (by simp), h.get (by simp)⟩
  have HG := zH g
  clear g
  by_cases he : (cubicSegV a b c d tol).2 = 0
  · obtain ⟨n, hn, hn1, hn2⟩ := piecesV_range (9 * max (sqD a b c) (sqD b c d)) tol [a, b, c, d] he
    have hp : cubicPts a b c d tol = upTo (fun i => cubicAtV a b c d i n) n := by
      unfold cubicPts
      rw [if_pos he, show (cubicSegV a b c d tol).1 = (n : Int) from hn, Int.toNat_natCast]
    rw [hp]
    have HN := zH (show cubicSegV a b c d tol = ((n : Int), 0) from Prod.ext hn he)
    clear hn hp he
    rw [HN.out]
    go_enter Try.func27, Try.ntmps27
    go_wp2_with (first | (go_at_call 35; refine (cubicSeg_any a b c d _ _).mono ?_; rw [HN.out]; rintro e w' ⟨rfl, hb⟩) | (go_at_call 21; refine (steps_any _ _ _ _ _).mono ?_; rintro e w1 ⟨rfl, rfl⟩))
    refine (collectC a b c d n hn2 w.heap.size w'.heap.size (w'.heap.size + 1) (w'.heap.size + 1 + 1) _ (Box8.ext (HG.out w' hb) ((((Ext.refl w').alloc _).alloc _).alloc _))
      ((((Ext.refl (w'.alloc _)).alloc _).alloc _).get (by simp)) (((Ext.refl ((w'.alloc _).alloc _)).alloc _).get (by simp)) ((cell_last _ _ _ _ _ (by simp)).trans rfl)).mono ?_
    rintro e w2 ⟨v, rfl, ho, hx⟩
    have hs := hb.size
    go_wp2_with fail
    go_ret2
    exact ⟨v, rfl, ho.more (by simp at hs ⊢; omega), ((((((Ext.refl w).alloc _).trans hb).alloc _).alloc _).alloc _).trans hx⟩
  · have hp : cubicPts a b c d tol = [] := by unfold cubicPts; rw [if_neg he]
    rw [hp]
    have hne : ((cubicSegV a b c d tol).2 != 0) = true := by simpa using he
    have hne2 : ((cubicSegV a b c d tol).2 == 0) = false := by simpa using he
    clear he hp
    go_enter Try.func27, Try.ntmps27
    go_wp2_with (first | (go_at_call 35; refine (cubicSeg_any a b c d _ _).mono ?_; rintro e w' ⟨rfl, hb⟩))
    go_ret2
    exact ⟨_, rfl, ⟨World.ownsRow_nil _ _ _ _, fun _ => rfl⟩, (((Ext.refl _).alloc _).trans ‹_›).alloc _⟩
end Go.Proofs.Ytjkddchkjkocbaa

namespace Go.Proofs.Ytjkddchkjkocbaa
open Go.RowKit

def Only (p : Nat → Prop) (w w' : World) : Prop := w'.os = w.os ∧ w'.tape = w.tape ∧ w'.output = w.output ∧ w.heap.size ≤ w'.heap.size ∧ ∀ k, k < w.heap.size → ¬ p k → w'.heap[k]? = w.heap[k]?
theorem Only.refl (p : Nat → Prop) (w : World) : Only p w w := ⟨rfl, rfl, rfl, Nat.le_refl _, fun _ _ _ => rfl⟩
theorem Only.of_ext {p : Nat → Prop} {w w' : World} (h : Ext w w') : Only p w w' := ⟨h.os, h.tape, h.output, h.size, fun k hk _ => h.block k hk⟩
theorem Only.of_grown {w w' : World} {row : Option Nat} (h : w.grownBy w' row) : Only (fun k => row = some k) w w' := ⟨h.os, h.tape, h.output, h.size, fun k hk hn => h.block k hk (fun e => hn e.symm)⟩
theorem Only.of_own {g : Nat} {w w' : World} (h : Own g w w') : Only (fun k => k = g) w w' := ⟨h.os, h.tape, h.output, h.size, fun k hk hn => h.block k hk (fun e => hn (by injection e))⟩
theorem Only.mono {p q : Nat → Prop} {w w' : World} (h : Only p w w') (k : ∀ i, i < w.heap.size → p i → q i) : Only q w w' := ⟨h.1, h.2.1, h.2.2.1, h.2.2.2.1, fun i hi hn => h.2.2.2.2 i hi (fun e => hn (k i hi e))⟩
theorem Only.trans {p : Nat → Prop} {a b c : World} (h : Only p a b) (k : Only p b c) : Only p a c :=
  ⟨k.1.trans h.1, k.2.1.trans h.2.1, k.2.2.1.trans h.2.2.1, Nat.le_trans h.2.2.2.1 k.2.2.2.1, fun i hi hn => (k.2.2.2.2 i (Nat.lt_of_lt_of_le hi h.2.2.2.1) hn).trans (h.2.2.2.2 i hi hn)⟩
theorem Only.then {p q : Nat → Prop} {w a b : World} (h : Only p w a) (k : Only q a b) (hq : ∀ i, i < w.heap.size → q i → p i) : Only p w b :=
  ⟨k.1.trans h.1, k.2.1.trans h.2.1, k.2.2.1.trans h.2.2.1, Nat.le_trans h.2.2.2.1 k.2.2.2.1, fun i hi hn => (k.2.2.2.2 i (Nat.lt_of_lt_of_le hi h.2.2.2.1) (fun e => hn (hq i hi e))).trans (h.2.2.2.2 i hi hn)⟩
theorem Only.get {p : Nat → Prop} {w w' : World} (h : Only p w w') {a : Addr} {v : Value} (hc : w.cell? a = some v) (hn : ¬ p a.block) : w'.cell? a = some v :=
  (World.cell?_of_block (h.2.2.2.2 a.block (World.block_lt_of_cell? w a hc) hn)).trans hc
theorem Only.size {p : Nat → Prop} {w w' : World} (h : Only p w w') : w.heap.size ≤ w'.heap.size := h.2.2.2.1
theorem Only.ext {p : Nat → Prop} {w a b : World} (h : Only p a b) (e : Ext w a) (hp : ∀ k, k < w.heap.size → ¬ p k) : Ext w b :=
  ⟨h.1.trans e.os, h.2.1.trans e.tape, h.2.2.1.trans e.output, Nat.le_trans e.size h.size, fun k hk => (h.2.2.2.2 k (Nat.lt_of_lt_of_le hk e.size) (hp k hk)).trans (e.block k hk)⟩
theorem Blk.only {p : Nat → Prop} {w w' : World} {g : Nat} {t : TypeId} {cs : Array Value} (h : Blk w g t cs) (o : Only p w w') (hn : ¬ p g) : Blk w' g t cs := (o.2.2.2.2 g h.lt hn).trans h
theorem RowN.only {p : Nat → Prop} {w w' : World} {base : Nat} {e : TypeId} {size : Nat} {v : Value} {n : Nat} {xs : List Value} (h : RowN w base e size v n xs) (o : Only p w w') (hn : ∀ k, v.ownBlock = some k → ¬ p k) : RowN w' base e size v n xs := by
  obtain ⟨h1, h2 | ⟨g, cap, rest, rfl, b, c, d⟩⟩ := h
  · exact ⟨h1, .inl h2⟩
  · exact ⟨h1, .inr ⟨g, cap, rest, rfl, b, c.only o (hn g (by simp [Value.ownBlock])), d⟩⟩
theorem RowN.lt' {w : World} {base : Nat} {e : TypeId} {size : Nat} {v : Value} {n : Nat} {xs : List Value} (h : RowN w base e size v n xs) : ∀ j, v.ownBlock = some j → j < w.heap.size := by
  intro j hj
  obtain ⟨_, ⟨rfl, _⟩ | ⟨g, cap, rest, rfl, _, hb, _⟩⟩ := h
  · simp [Value.ownBlock] at hj
  · simp [Value.ownBlock] at hj; subst hj; exact hb.lt
theorem RowN.pts {w : World} {base : Nat} {v : Value} {ps : List (Int × Int)} (h : RowN w base 33 2 v ps.length (ptCells ps)) : PtsV w v ps := by
  obtain ⟨h1, ⟨rfl, h2⟩ | ⟨g, cap, rest, rfl, _, hb, _⟩⟩ := h
  · have : ps = [] := List.eq_nil_of_length_eq_zero h2
    subst this
    exact ⟨none, 0, rfl, fun hn => absurd rfl hn⟩
  · refine ⟨_, cap, rfl, fun _ => ⟨g, 0, rfl, fun i hi => ?_⟩⟩
    have q := ptCells_get ps i hi
    have e1 : i * 2 < (ptCells ps).length := by rw [ptCells_length]; omega
    have e2 : i * 2 + 1 < (ptCells ps).length := by rw [ptCells_length]; omega
    exact ⟨by rw [Nat.zero_add, hb.cell, List.getElem?_toArray, List.getElem?_append_left e1]; exact q.1, by rw [Nat.zero_add, hb.cell, List.getElem?_toArray, List.getElem?_append_left e2]; exact q.2⟩
theorem noUL_pts (ps : List (Int × Int)) : NoUL (ptCells ps) := by
  intro x hx k
  unfold ptCells at hx
  obtain ⟨a, _, ha⟩ := List.mem_flatMap.1 hx
  simp at ha
  rcases ha with rfl | rfl <;> simp
theorem one_pt (x : Int × Int) : ∀ u ∈ ([.int .i64 x.1, .int .i64 x.2] : List Value), u.oneCell' = true := by simp [Value.oneCell']
theorem noUL_pt (x : Int × Int) : NoUL [.int .i64 x.1, .int .i64 x.2] := by intro y hy k; simp at hy; rcases hy with rfl | rfl <;> simp
theorem noUL_zpt : NoUL (Value.agg #[.int .i64 0, .int .i64 0]).cells.toList := by intro x hx k; simp [Value.cells] at hx; rcases hx with rfl | rfl <;> simp
def put1 (acc : List (Int × Int)) (x : Int × Int) : List (Int × Int) := if acc.getLastD (0, 0) = x then acc else acc ++ [x]
def putV (ps more : List (Int × Int)) : List (Int × Int) := more.foldl put1 ps
theorem put1_ne {acc : List (Int × Int)} {x : Int × Int} (h : acc ≠ []) : put1 acc x ≠ [] := by unfold put1; split <;> simp [h]
theorem putV_take {ps more : List (Int × Int)} {k : Nat} (h : k < more.length) : putV ps (more.take (k + 1)) = put1 (putV ps (more.take k)) (more.getD k (0, 0)) := by
  unfold putV
  rw [List.take_succ_eq_append_getElem h, List.foldl_append]
  simp [List.getD, h]
theorem putV_ne {ps more : List (Int × Int)} (h : ps ≠ []) : putV ps more ≠ [] := by
  unfold putV
  induction more generalizing ps with
  | nil => exact h
  | cons y ys ih => exact ih (put1_ne h)
theorem putV_len (ps more : List (Int × Int)) : ps.length ≤ (putV ps more).length ∧ (putV ps more).length ≤ ps.length + more.length := by
  unfold putV
  induction more generalizing ps with
  | nil => simp
  | cons y ys ih =>
    obtain ⟨h1, h2⟩ := ih (ps := put1 ps y)
    have h3 : ps.length ≤ (put1 ps y).length ∧ (put1 ps y).length ≤ ps.length + 1 := by unfold put1; split <;> simp
    simp only [List.foldl_cons, List.length_cons]
    omega
theorem getLastD_get (acc : List (Int × Int)) : acc.getLastD (0, 0) = acc.getD (acc.length - 1) (0, 0) := by
  rw [List.getLastD_eq_getLast?, List.getLast?_eq_getElem?, List.getD_eq_getElem?_getD]
end Go.Proofs.Ytjkddchkjkocbaa

namespace Go.Proofs.Ytjkddchkjkocbaa
open Go.RowKit
attribute [local go_sem ↓] Go.wp_at_zero Go.wp_at_succ run_eql_point run_neq_point run_max_ii run_min_ii

structure PutSt (w wr : World) (base g o b0 : Nat) (cs : Array Value) (v : Value) (acc : List (Int × Int)) : Prop where
  row : RowN wr base 33 2 v acc.length (ptCells acc)
  blk : Blk wr g 31 (cs.setIfInBounds o v)
  own : v.ownBlock = some b0 ∨ ∃ k, v.ownBlock = some k ∧ w.heap.size ≤ k
  only : Only (fun k => k = g ∨ k = b0) w wr
  base : base ≤ wr.heap.size
theorem PutSt.ext {w wr w' : World} {base g o b0 : Nat} {cs : Array Value} {v : Value} {acc : List (Int × Int)} (h : PutSt w wr base g o b0 cs v acc) (e : Ext wr w') : PutSt w w' base g o b0 cs v acc :=
  ⟨h.row.ext e, h.blk.ext e, h.own, h.only.trans (Only.of_ext e), Nat.le_trans h.base e.size⟩
theorem PutSt.form {w wr : World} {base g o b0 : Nat} {cs : Array Value} {v : Value} {acc : List (Int × Int)} (h : PutSt w wr base g o b0 cs v acc) : ∃ gv cap rest, v = .slice (some ⟨gv, 0, none⟩) acc.length cap ∧ Blk wr gv 33 (ptCells acc ++ rest).toArray ∧ (gv = b0 ∨ w.heap.size ≤ gv) := by
  obtain ⟨h1, ⟨rfl, _⟩ | ⟨gv, cap, rest, rfl, _, hb, _⟩⟩ := h.row
  · rcases h.own with h2 | ⟨k, h2, _⟩ <;> simp [Value.ownBlock] at h2
  · refine ⟨gv, cap, rest, rfl, hb, ?_⟩
    rcases h.own with h2 | ⟨k, h2, h3⟩
    · simp [Value.ownBlock] at h2; exact Or.inl h2
    · simp [Value.ownBlock] at h2; exact Or.inr (by omega)
theorem PutSt.ne_g {w wr : World} {base g o b0 : Nat} {cs : Array Value} {v : Value} {acc : List (Int × Int)} (h : PutSt w wr base g o b0 cs v acc) (hgb : g ≠ b0) (hg : g < w.heap.size) : v.ownBlock ≠ some g := by
  rcases h.own with h5 | ⟨k, h5, h6⟩
  · rw [h5]; intro e; injection e with e; exact hgb e.symm
  · rw [h5]; intro e; injection e with e; omega
theorem setCells_one (w : World) (g o : Nat) (u : Value) : w.setCells g o [u] = w.setCell ⟨g, o, none⟩ u := rfl
theorem PutSt.step {w wa w3 : World} {base g o b0 n cap gx : Nat} {cs : Array Value} {v : Value} {acc : List (Int × Int)} {x : Int × Int} (h : PutSt w wa base g o b0 cs v acc) (hgb : g ≠ b0) (hg : g < w.heap.size) (hl : n = (acc ++ [x]).length)
    (h2 : RowN w3 base 33 2 (.slice (some ⟨gx, 0, none⟩) n cap) n (ptCells acc ++ [.int .i64 x.1, .int .i64 x.2])) (h3 : wa.grownBy w3 v.ownBlock) (hf : v.ownBlock = some gx ∨ wa.heap.size ≤ gx) :
    PutSt w (w3.setCells g o [.slice (some ⟨gx, 0, none⟩) n cap]) base g o b0 cs (.slice (some ⟨gx, 0, none⟩) n cap) (acc ++ [x]) := by
  subst hl
  have hsz := h.only.size
  have hgx : gx = b0 ∨ w.heap.size ≤ gx := by
    rcases hf with hf | hf
    · rcases h.own with h5 | ⟨k, h5, h6⟩
      · rw [h5] at hf; injection hf with e; exact Or.inl e.symm
      · rw [h5] at hf; injection hf with e; exact Or.inr (by omega)
    · exact Or.inr (by omega)
  have hne : gx ≠ g := by rcases hgx with e | e <;> omega
  have hvb : v.ownBlock ≠ some g := by
    rcases h.own with h5 | ⟨k, h5, h6⟩
    · rw [h5]; intro e; injection e with e; exact hgb e.symm
    · rw [h5]; intro e; injection e with e; omega
  rw [setCells_one]
  have ow := (Own.refl g w3).set_at o none (.slice (some ⟨gx, 0, none⟩) (acc ++ [x]).length cap)
  have hb3 := (h.blk.grown h3 hvb).set_ o (.slice (some ⟨gx, 0, none⟩) (acc ++ [x]).length cap)
  refine ⟨?_, ?_, ?_, ?_, ?_⟩
  · rw [ptCells_snoc]
    exact h2.own ow (fun k hk => by simp [Value.ownBlock] at hk; omega)
  · rw [Array.setIfInBounds_setIfInBounds] at hb3
    exact hb3
  · rcases hgx with e | e
    · exact Or.inl (by simp [Value.ownBlock, e])
    · exact Or.inr ⟨gx, by simp [Value.ownBlock], e⟩
  · refine (h.only.then (Only.of_grown h3) (fun i hi e => ?_)).then (Only.of_own ow) (fun i _ e => Or.inl e)
    rcases h.own with h5 | ⟨k, h5, h6⟩
    · rw [h5] at e; injection e with e; exact Or.inr e.symm
    · rw [h5] at e; injection e with e; omega
  · exact Nat.le_trans h.base (Nat.le_trans h3.size ow.size)
theorem put1_same {acc : List (Int × Int)} {x : Int × Int} (h : acc.getD (acc.length - 1) (0, 0) = x) : put1 acc x = acc := by unfold put1; rw [getLastD_get, if_pos h]
theorem put1_new {acc : List (Int × Int)} {x : Int × Int} (h : acc.getD (acc.length - 1) (0, 0) ≠ x) : put1 acc x = acc ++ [x] := by unfold put1; rw [getLastD_get, if_neg h]
set_option maxRecDepth 20000 in
set_option maxHeartbeats 4000000 in
theorem put_any (base g o b0 : Nat) (cs : Array Value) (v : Value) (ps : List (Int × Int)) (u : Value) (more : List (Int × Int)) (w : World) (hne : ps ≠ []) (hrow : RowN w base 33 2 v ps.length (ptCells ps)) (hb : Blk w g 31 cs) (hc : cs[o]? = some v)
  (hv : v.ownBlock = some b0) (hgb : g ≠ b0) (hbase : base ≤ w.heap.size) (hu : PtsV w u more) (hug : ∀ A l c, u = .slice (some A) l c → A.block ≠ g ∧ A.block ≠ b0) (hn : ps.length + more.length ≤ 1000000) :
  Calls Try.prog 14 #[.pointer (some ⟨g, o, none⟩), u] w fun e w' => ∃ v', e = .returned (.tuple #[]) ∧ PutSt w w' base g o b0 cs v' (putV ps more) := by
 obtain ⟨A, cu, rfl, hA⟩ := hu
 obtain ⟨i0, hi, hz0, hz1, hz2⟩ := info_parts infoPt
 have HI := zH (And.intro hi (And.intro hz0 (And.intro hz1 hz2)))
 clear hi hz0 hz1 hz2
 have ho : o < cs.size := (Array.getElem?_eq_some_iff.1 hc).1
 have HST := zH (show PutSt w w base g o b0 cs v (putV ps (more.take 0)) from ⟨hrow, by
  have e : cs.setIfInBounds o v = cs := by
   apply Array.ext_getElem?
   intro i
   rw [Array.getElem?_setIfInBounds]
   split
   ·rename_i h
    subst h
    exact hc.symm
   ·rfl
  rw [e]; exact hb, Or.inl hv, Only.refl _ _, hbase⟩)
 have HA := zH hA
 have HU := zH hug
 have HG := zH (And.intro hgb (And.intro hb.lt (And.intro (hrow.lt' b0 hv) ho)))
 have HN := zH (And.intro hne hn)
 clear hrow hb hc hv hgb hbase hA hug hn hne ho
 go_enter Try.func14, Try.ntmps14
 go_wp2_with fail
 go_loopg [9] more.length (fun n i wr => ∃ (k : Nat) (v : Value), k ≤ more.length ∧ n = more.length - k ∧ i = .int .i64 k ∧ PutSt w wr base g o b0 cs v (putV ps (more.take k)))
 case atStart => exact ⟨0, v, Nat.zero_le _, rfl, rfl, HST.out⟩
 case round =>
  clear HST
  obtain ⟨k, v, hk, rfl, rfl, hst⟩ := hrel
  have HST := zH hst
  clear hst
  by_cases hlt : k < more.length
  ·obtain ⟨gu, ou, rfl, hp⟩ := HA.out (by rintro rfl; simp at hlt)
   have hng := HU.out _ _ _ rfl
   have HPT := zH (putV_take (ps := ps) hlt)
   have hlt2 : (k : Int) < (more.length : Int) := by omega
   have hlen := putV_len ps (more.take k)
   have htk : (more.take k).length = k := by rw [List.length_take]; omega
   have hnn : (putV ps (more.take k)) ≠ [] := putV_ne HN.out.1
   have HPP := zH (hp k hlt)
   have hbd := HN.out.2
   clear hp
   generalize hac : putV ps (more.take k) = acc at *
   generalize hxx : more.getD k (0, 0) = x at *
   have HAC := zH hac
   clear hac hxx
   have hal : 0 < acc.length := by cases acc with | nil => exact absurd rfl hnn | cons a t => simp
   have HAL := zH (And.intro hal (show acc.length + 1 ≤ 1000001 by omega))
   clear hlen htk hnn hbd hal
   have HPQ := zH (show wr.cell? ⟨gu, ou + k * 2, none⟩ = some (.int .i64 x.1) ∧ wr.cell? ⟨gu, ou + k * 2 + 1, none⟩ = some (.int .i64 x.2) from
    ⟨HST.out.only.get HPP.out.1 (fun e => e.elim hng.1 hng.2), HST.out.only.get HPP.out.2 (fun e => e.elim hng.1 hng.2)⟩)
   obtain ⟨gv, cap, rest, rfl, hbv, hgv⟩ := HST.out.form
   have HBV := zH hbv
   clear hbv hgv hng HPP HU HA
   obtain ⟨m, hm⟩ : ∃ m, acc.length = m + 1 := ⟨acc.length - 1, by have := HAL.out.1; omega⟩
   have HM := zH hm
   obtain ⟨c0, c1⟩ := HPQ.out
   have cg : wr.cell? ⟨g, o, none⟩ = some (.slice (some ⟨gv, 0, none⟩) acc.length cap) := by
    rw [HST.out.blk.cell, Array.getElem?_setIfInBounds]
    simp [HG.out.2.2.2]
   have hgl : (ptCells acc)[m * 2]? = some (.int .i64 (acc.getD (acc.length - 1) (0, 0)).1) ∧ (ptCells acc)[m * 2 + 1]? = some (.int .i64 (acc.getD (acc.length - 1) (0, 0)).2) := by
    have h := ptCells_get acc m (by omega)
    rwa [show acc.length - 1 = m by omega]
   have l0 : wr.cell? ⟨gv, m * 2, none⟩ = some (.int .i64 (acc.getD (acc.length - 1) (0, 0)).1) := by
    rw [HBV.out.cell, List.getElem?_toArray, List.getElem?_append_left (by rw [ptCells_length]; omega)]
    exact hgl.1
   have l1 : wr.cell? ⟨gv, m * 2 + 1, none⟩ = some (.int .i64 (acc.getD (acc.length - 1) (0, 0)).2) := by
    rw [HBV.out.cell, List.getElem?_toArray, List.getElem?_append_left (by rw [ptCells_length]; omega)]
    exact hgl.2
   clear hgl HBV
   have HEQ := zH (fun h => put1_same (acc := acc) (x := x) h)
   have HNE := zH (fun h => put1_new (acc := acc) (x := x) h)
   generalize acc.getD (acc.length - 1) (0, 0) = y at l0 l1 HEQ HNE
   have HLL := zH (show (acc ++ [x]).length = m + 1 + 1 by simp [hm])
   have HPC := zH (HST.out.row)
   rw [hm] at cg HPC HST
   have q1 : ((m + 1 : Nat) : Int) - 1 = (m : Int) := by omega
   have q2 : (((m + 1 : Nat) : Int) == 0) = false := by simp; omega
   have q3 : ((m : Int) + 1 - 1) = (m : Int) := by omega
   have q4 : ((m : Int) + 1 == 0) = false := by simp; omega
   have q5 : (m : Int) < (m : Int) + 1 := by omega
   have q6 : (0 : Int) ≤ (m : Int) := by omega
   have hbig := HAL.out.2
   have HBIG := zH (show m + 1 + 1 ≤ 1000001 by omega)
   have q7 : m ≤ 1000000 := by omega
   have q8 : k ≤ 1000000 := by have := HN.out.2; omega
   clear hbig hm
   have hxy : (x = y ∨ x ≠ y) := by by_cases h : x = y; exact Or.inl h; exact Or.inr h
   have hXa := (Ext.refl wr).alloc (.cells #[.int .i64 x.1, .int .i64 x.2] 33)
   replace cg := hXa.get cg
   replace l0 := hXa.get l0
   replace l1 := hXa.get l1
   clear hXa
   have HFACT := zH (And.intro c0 (And.intro c1 (And.intro cg (And.intro l0 l1))))
   rcases hxy with hxy | hxy
   ·subst hxy
    have b1 : (x.1 == x.1) = true := by simp
    have b2 : (x.2 == x.2) = true := by simp
    go_wp2_with fail
    go_quiet (fail)
    go_wp2_with fail
    go_roundg (more.length - (k + 1))
    case measure => omega
    case rel => exact ⟨k + 1, _, hlt, rfl, by go_num, (by rw [HPT.out, HEQ.out (by trivial)]; exact HST.out.ext (((Ext.refl wr).alloc (.cells #[.int .i64 x.1, .int .i64 x.2] 33)).drewN _))⟩
   ·have HYX := zH (show y ≠ x from fun e => hxy e.symm)
    by_cases hx1 : y.1 = x.1
    ·have b1 : (y.1 == x.1) = true := by simpa using hx1
     have b2 : (y.2 == x.2) = false := by
      rw [← Bool.not_eq_true]; intro hh; exact hxy (Prod.ext hx1.symm (by simpa using hh : y.2 = x.2).symm)
     clear hxy hx1
     go_wp2_with fail
     go_quiet (fail)
     go_wp2_with fail
     have HQ := zH (HST.out.ext ((((Ext.refl wr).alloc (.cells #[.int .i64 x.1, .int .i64 x.2] 33)).drewN nq).drew))
     have HL5 := zH (Blk.ext (Blk.new wr 33 #[.int .i64 x.1, .int .i64 x.2]) (((Ext.refl _).drewN nq).drew))
     refine wp_region_held_drew (S := fun _ => True) (by kernel_rfl) trivial (fun _ => ?_)
     generalize hwq : (World.drewN (wr.alloc (.cells #[.int .i64 x.1, .int .i64 x.2] 33)) nq).drew = wq at *
     generalize wr.heap.size = X5 at *
     clear hwq c0 c1 cg l0 l1 HFACT
     have d0 := HL5.out.cell 0
     have d1 := HL5.out.cell 1
     simp at d0 d1
     have cg : wq.cell? ⟨g, o, none⟩ = some (.slice (some ⟨gv, 0, none⟩) (m + 1) cap) := by
      rw [HQ.out.blk.cell, Array.getElem?_setIfInBounds]
      simp [HG.out.2.2.2]
     refine md_val (i := 0) (v := ?z1_) (listed' := (bs 11 1)) (by rfl) (by kernel_rfl) (by kernel_rfl) (by kernel_rfl) (by intro _ _ _ h; exact h) (by rfl) ?hz1_ trivial (by kernel_rfl) ?rz1_
     case hz1_ => (intro w hSw; go_simp <;> with_reducible rfl)
     (try simp only [Act.put, zA, zB, zC])
     refine md_val (i := 1) (v := ?z2_) (listed' := (bs 11 3)) (by rfl) (by kernel_rfl) (by kernel_rfl) (by kernel_rfl) (by intro _ _ _ h; exact h) (by rfl) ?hz2_ trivial (by kernel_rfl) ?rz2_
     case hz2_ => (intro w hSw; go_simp <;> with_reducible rfl)
     (try simp only [Act.put, zA, zB, zC])
     refine md_val (i := 2) (v := ?z3_) (listed' := (bs 11 7)) (by rfl) (by kernel_rfl) (by kernel_rfl) (by kernel_rfl) (by intro _ _ _ h; exact h) (by rfl) ?hz3_ trivial (by kernel_rfl) ?rz3_
     case hz3_ => (intro w hSw; go_simp <;> with_reducible rfl)
     (try simp only [Act.put, zA, zB, zC])
     refine md_val (i := 3) (v := ?z4_) (listed' := (bs 11 15)) (by rfl) (by kernel_rfl) (by kernel_rfl) (by kernel_rfl) (by intro _ _ _ h; exact h) (by rfl) ?hz4_ trivial (by kernel_rfl) ?rz4_
     case hz4_ => (intro w hSw; go_simp <;> with_reducible rfl)
     (try simp only [Act.put, zA, zB, zC])
     refine md_two (i := 4) (j := 5) (listed' := (bs 11 31)) (lj := (bs 11 47)) (v := (.slice (some ⟨gv, 0, none⟩) (m + 1) cap)) (wi := wq) (u := (.agg #[.int .i64 x.1, .int .i64 x.2])) (wj := wq) (by rfl) (by rfl) (by kernel_rfl) (by rfl) (by go_simp) trivial (by kernel_rfl) (by rfl) (by go_simp) trivial (by kernel_rfl) ?_ ?_
     ·(try simp only [Act.put, zA, zB, zC])
      refine mU 5 (bs 11 63) (v := (.agg #[.int .i64 x.1, .int .i64 x.2])) (w' := wq) trivial ?_
      (try simp only [Act.put, zA, zB, zC])
      refine mU 6 (bs 11 127) (v := (.slice (some ⟨wq.heap.size, 0, none⟩) 1 1)) (w' := (wq.alloc (.cells #[.int .i64 x.1, .int .i64 x.2] 33))) trivial ?_
      (try simp only [Act.put, zA, zB, zC])
      have hE : Ext wq (wq.alloc (.cells #[.int .i64 x.1, .int .i64 x.2] 33)) := (Ext.refl _).alloc _
      have hq := HQ.out.ext hE
      refine md_appendF (j := 7) (listed' := (bs 11 255)) (by rfl) (by kernel_rfl) (by rfl) _ _ 29 (by rfl) base 33 i0 _ 2 16 Try.underlying29 HI.out.1 HI.out.2.1 HI.out.2.2.1 HI.out.2.2.2 rfl (by decide) noUL_zpt (.slice (some ⟨gv, 0, none⟩) (m + 1) cap) (m + 1) (ptCells acc) (by rfl) (by have h := hq.row; rwa [HM.out] at h) ⟨wq.heap.size, 0, none⟩ 1 1 [.int .i64 x.1, .int .i64 x.2] (by rfl) rfl (two_new _ _ _ _) (one_pt x) (noUL_pt x) (by decide) (by have := HBIG.out; unfold maxLen; omega) (by have := HBIG.out; omega) hq.base (by kernel_rfl) ?_
      intro gx cx w3 hf h2 h3 h4
      refine ⟨trivial, ?_⟩
      (try simp only [Act.put, zA, zB, zC])
      have hstep := hq.step (n := m + 1 + 1) (x := x) HG.out.1 HG.out.2.1 HLL.out.symm h2 h3 hf
      refine md_val (i := 8) (v := ?z5_) (listed' := (bs 11 511)) (by rfl) (by kernel_rfl) (by kernel_rfl) (by kernel_rfl) (by intro _ _ _ h; exact h) (by rfl) ?hz5_ trivial (by kernel_rfl) ?rz5_
      case hz5_ => (intro w hSw; go_simp <;> with_reducible rfl)
      (try simp only [Act.put, zA, zB, zC])
      refine md_val (i := 9) (v := ?z6_) (listed' := (bs 11 1023)) (by rfl) (by kernel_rfl) (by kernel_rfl) (by kernel_rfl) (by intro _ _ _ h; exact h) (by rfl) ?hz6_ trivial (by kernel_rfl) ?rz6_
      case hz6_ => (intro w hSw; go_simp <;> with_reducible rfl)
      (try simp only [Act.put, zA, zB, zC])
      have hb3 := hq.blk.grown h3 (hq.ne_g HG.out.1 HG.out.2.1)
      refine md_cell (i := 10) (listed' := (bs 11 2047)) (by rfl) (by kernel_rfl) (by rfl) _ _ _ (by rfl) g o _ (cs.setIfInBounds o (.slice (some ⟨gv, 0, none⟩) (m + 1) cap)).toList (.slice (some ⟨gx, 0, none⟩) (m + 1 + 1) cx) (by rfl) (by rfl) hb3 (by simp; have := HG.out.2.2.2; omega) (by kernel_rfl) (by rfl) (by rfl) trivial (by kernel_rfl) ?_
      (try simp only [Act.put])
      have HSTEP := zH hstep
      clear hstep hq hE h2 h3 h4 hf hb3
      generalize w3.setCells g o [.slice (some ⟨gx, 0, none⟩) (m + 1 + 1) cx] = w5 at *
      refine wpAnyH_done (by kernel_rfl) ?_ _
      go_wp2_with fail
      go_roundg (more.length - (k + 1))
      case measure => omega
      case rel => exact ⟨k + 1, _, hlt, rfl, by go_num, (by rw [HPT.out, HNE.out HYX.out]; exact HSTEP.out)⟩
     ·(try simp only [Act.put, zA, zB, zC])
      refine md_two (i := 4) (j := 6) (listed' := (bs 11 63)) (lj := (bs 11 111)) (v := (.slice (some ⟨gv, 0, none⟩) (m + 1) cap)) (wi := wq) (u := (.slice (some ⟨wq.heap.size, 0, none⟩) 1 1)) (wj := (wq.alloc (.cells #[.int .i64 x.1, .int .i64 x.2] 33))) (by rfl) (by rfl) (by kernel_rfl) (by rfl) (by go_simp) trivial (by kernel_rfl) (by rfl) (by go_simp) trivial (by kernel_rfl) ?_ ?_
      ·(try simp only [Act.put, zA, zB, zC])
       refine mU 6 (bs 11 127) (v := (.slice (some ⟨wq.heap.size, 0, none⟩) 1 1)) (w' := (wq.alloc (.cells #[.int .i64 x.1, .int .i64 x.2] 33))) trivial ?_
       (try simp only [Act.put, zA, zB, zC])
       have hE : Ext wq (wq.alloc (.cells #[.int .i64 x.1, .int .i64 x.2] 33)) := (Ext.refl _).alloc _
       have hq := HQ.out.ext hE
       refine md_appendF (j := 7) (listed' := (bs 11 255)) (by rfl) (by kernel_rfl) (by rfl) _ _ 29 (by rfl) base 33 i0 _ 2 16 Try.underlying29 HI.out.1 HI.out.2.1 HI.out.2.2.1 HI.out.2.2.2 rfl (by decide) noUL_zpt (.slice (some ⟨gv, 0, none⟩) (m + 1) cap) (m + 1) (ptCells acc) (by rfl) (by have h := hq.row; rwa [HM.out] at h) ⟨wq.heap.size, 0, none⟩ 1 1 [.int .i64 x.1, .int .i64 x.2] (by rfl) rfl (two_new _ _ _ _) (one_pt x) (noUL_pt x) (by decide) (by have := HBIG.out; unfold maxLen; omega) (by have := HBIG.out; omega) hq.base (by kernel_rfl) ?_
       intro gx cx w3 hf h2 h3 h4
       refine ⟨trivial, ?_⟩
       (try simp only [Act.put, zA, zB, zC])
       have hstep := hq.step (n := m + 1 + 1) (x := x) HG.out.1 HG.out.2.1 HLL.out.symm h2 h3 hf
       refine md_val (i := 8) (v := ?z7_) (listed' := (bs 11 511)) (by rfl) (by kernel_rfl) (by kernel_rfl) (by kernel_rfl) (by intro _ _ _ h; exact h) (by rfl) ?hz7_ trivial (by kernel_rfl) ?rz7_
       case hz7_ => (intro w hSw; go_simp <;> with_reducible rfl)
       (try simp only [Act.put, zA, zB, zC])
       refine md_val (i := 9) (v := ?z8_) (listed' := (bs 11 1023)) (by rfl) (by kernel_rfl) (by kernel_rfl) (by kernel_rfl) (by intro _ _ _ h; exact h) (by rfl) ?hz8_ trivial (by kernel_rfl) ?rz8_
       case hz8_ => (intro w hSw; go_simp <;> with_reducible rfl)
       (try simp only [Act.put, zA, zB, zC])
       have hb3 := hq.blk.grown h3 (hq.ne_g HG.out.1 HG.out.2.1)
       refine md_cell (i := 10) (listed' := (bs 11 2047)) (by rfl) (by kernel_rfl) (by rfl) _ _ _ (by rfl) g o _ (cs.setIfInBounds o (.slice (some ⟨gv, 0, none⟩) (m + 1) cap)).toList (.slice (some ⟨gx, 0, none⟩) (m + 1 + 1) cx) (by rfl) (by rfl) hb3 (by simp; have := HG.out.2.2.2; omega) (by kernel_rfl) (by rfl) (by rfl) trivial (by kernel_rfl) ?_
       (try simp only [Act.put])
       have HSTEP := zH hstep
       clear hstep hq hE h2 h3 h4 hf hb3
       generalize w3.setCells g o [.slice (some ⟨gx, 0, none⟩) (m + 1 + 1) cx] = w5 at *
       refine wpAnyH_done (by kernel_rfl) ?_ _
       go_wp2_with fail
       go_roundg (more.length - (k + 1))
       case measure => omega
       case rel => exact ⟨k + 1, _, hlt, rfl, by go_num, (by rw [HPT.out, HNE.out HYX.out]; exact HSTEP.out)⟩
      ·(try simp only [Act.put, zA, zB, zC])
       have cg2 := ((Ext.refl wq).alloc (.cells #[.int .i64 x.1, .int .i64 x.2] 33)).get cg
       refine mU 4 (bs 11 127) (v := (.slice (some ⟨gv, 0, none⟩) (m + 1) cap)) (w' := (wq.alloc (.cells #[.int .i64 x.1, .int .i64 x.2] 33))) trivial ?_
       (try simp only [Act.put, zA, zB, zC])
       clear cg2
       have hE : Ext wq (wq.alloc (.cells #[.int .i64 x.1, .int .i64 x.2] 33)) := (Ext.refl _).alloc _
       have hq := HQ.out.ext hE
       refine md_appendF (j := 7) (listed' := (bs 11 255)) (by rfl) (by kernel_rfl) (by rfl) _ _ 29 (by rfl) base 33 i0 _ 2 16 Try.underlying29 HI.out.1 HI.out.2.1 HI.out.2.2.1 HI.out.2.2.2 rfl (by decide) noUL_zpt (.slice (some ⟨gv, 0, none⟩) (m + 1) cap) (m + 1) (ptCells acc) (by rfl) (by have h := hq.row; rwa [HM.out] at h) ⟨wq.heap.size, 0, none⟩ 1 1 [.int .i64 x.1, .int .i64 x.2] (by rfl) rfl (two_new _ _ _ _) (one_pt x) (noUL_pt x) (by decide) (by have := HBIG.out; unfold maxLen; omega) (by have := HBIG.out; omega) hq.base (by kernel_rfl) ?_
       intro gx cx w3 hf h2 h3 h4
       refine ⟨trivial, ?_⟩
       (try simp only [Act.put, zA, zB, zC])
       have hstep := hq.step (n := m + 1 + 1) (x := x) HG.out.1 HG.out.2.1 HLL.out.symm h2 h3 hf
       refine md_val (i := 8) (v := ?z9_) (listed' := (bs 11 511)) (by rfl) (by kernel_rfl) (by kernel_rfl) (by kernel_rfl) (by intro _ _ _ h; exact h) (by rfl) ?hz9_ trivial (by kernel_rfl) ?rz9_
       case hz9_ => (intro w hSw; go_simp <;> with_reducible rfl)
       (try simp only [Act.put, zA, zB, zC])
       refine md_val (i := 9) (v := ?z10_) (listed' := (bs 11 1023)) (by rfl) (by kernel_rfl) (by kernel_rfl) (by kernel_rfl) (by intro _ _ _ h; exact h) (by rfl) ?hz10_ trivial (by kernel_rfl) ?rz10_
       case hz10_ => (intro w hSw; go_simp <;> with_reducible rfl)
       (try simp only [Act.put, zA, zB, zC])
       have hb3 := hq.blk.grown h3 (hq.ne_g HG.out.1 HG.out.2.1)
       refine md_cell (i := 10) (listed' := (bs 11 2047)) (by rfl) (by kernel_rfl) (by rfl) _ _ _ (by rfl) g o _ (cs.setIfInBounds o (.slice (some ⟨gv, 0, none⟩) (m + 1) cap)).toList (.slice (some ⟨gx, 0, none⟩) (m + 1 + 1) cx) (by rfl) (by rfl) hb3 (by simp; have := HG.out.2.2.2; omega) (by kernel_rfl) (by rfl) (by rfl) trivial (by kernel_rfl) ?_
       (try simp only [Act.put])
       have HSTEP := zH hstep
       clear hstep hq hE h2 h3 h4 hf hb3
       generalize w3.setCells g o [.slice (some ⟨gx, 0, none⟩) (m + 1 + 1) cx] = w5 at *
       refine wpAnyH_done (by kernel_rfl) ?_ _
       go_wp2_with fail
       go_roundg (more.length - (k + 1))
       case measure => omega
       case rel => exact ⟨k + 1, _, hlt, rfl, by go_num, (by rw [HPT.out, HNE.out HYX.out]; exact HSTEP.out)⟩
    ·have b1 : (y.1 == x.1) = false := by simpa using hx1
     clear hxy hx1
     go_wp2_with fail
     go_quiet (fail)
     go_wp2_with fail
     have HQ := zH (HST.out.ext ((((Ext.refl wr).alloc (.cells #[.int .i64 x.1, .int .i64 x.2] 33)).drewN nq).drew))
     have HL5 := zH (Blk.ext (Blk.new wr 33 #[.int .i64 x.1, .int .i64 x.2]) (((Ext.refl _).drewN nq).drew))
     refine wp_region_held_drew (S := fun _ => True) (by kernel_rfl) trivial (fun _ => ?_)
     generalize hwq : (World.drewN (wr.alloc (.cells #[.int .i64 x.1, .int .i64 x.2] 33)) nq).drew = wq at *
     generalize wr.heap.size = X5 at *
     clear hwq c0 c1 cg l0 l1 HFACT
     have d0 := HL5.out.cell 0
     have d1 := HL5.out.cell 1
     simp at d0 d1
     have cg : wq.cell? ⟨g, o, none⟩ = some (.slice (some ⟨gv, 0, none⟩) (m + 1) cap) := by
      rw [HQ.out.blk.cell, Array.getElem?_setIfInBounds]
      simp [HG.out.2.2.2]
     refine md_val (i := 0) (v := ?z11_) (listed' := (bs 11 1)) (by rfl) (by kernel_rfl) (by kernel_rfl) (by kernel_rfl) (by intro _ _ _ h; exact h) (by rfl) ?hz11_ trivial (by kernel_rfl) ?rz11_
     case hz11_ => (intro w hSw; go_simp <;> with_reducible rfl)
     (try simp only [Act.put, zA, zB, zC])
     refine md_val (i := 1) (v := ?z12_) (listed' := (bs 11 3)) (by rfl) (by kernel_rfl) (by kernel_rfl) (by kernel_rfl) (by intro _ _ _ h; exact h) (by rfl) ?hz12_ trivial (by kernel_rfl) ?rz12_
     case hz12_ => (intro w hSw; go_simp <;> with_reducible rfl)
     (try simp only [Act.put, zA, zB, zC])
     refine md_val (i := 2) (v := ?z13_) (listed' := (bs 11 7)) (by rfl) (by kernel_rfl) (by kernel_rfl) (by kernel_rfl) (by intro _ _ _ h; exact h) (by rfl) ?hz13_ trivial (by kernel_rfl) ?rz13_
     case hz13_ => (intro w hSw; go_simp <;> with_reducible rfl)
     (try simp only [Act.put, zA, zB, zC])
     refine md_val (i := 3) (v := ?z14_) (listed' := (bs 11 15)) (by rfl) (by kernel_rfl) (by kernel_rfl) (by kernel_rfl) (by intro _ _ _ h; exact h) (by rfl) ?hz14_ trivial (by kernel_rfl) ?rz14_
     case hz14_ => (intro w hSw; go_simp <;> with_reducible rfl)
     (try simp only [Act.put, zA, zB, zC])
     refine md_two (i := 4) (j := 5) (listed' := (bs 11 31)) (lj := (bs 11 47)) (v := (.slice (some ⟨gv, 0, none⟩) (m + 1) cap)) (wi := wq) (u := (.agg #[.int .i64 x.1, .int .i64 x.2])) (wj := wq) (by rfl) (by rfl) (by kernel_rfl) (by rfl) (by go_simp) trivial (by kernel_rfl) (by rfl) (by go_simp) trivial (by kernel_rfl) ?_ ?_
     ·(try simp only [Act.put, zA, zB, zC])
      refine mU 5 (bs 11 63) (v := (.agg #[.int .i64 x.1, .int .i64 x.2])) (w' := wq) trivial ?_
      (try simp only [Act.put, zA, zB, zC])
      refine mU 6 (bs 11 127) (v := (.slice (some ⟨wq.heap.size, 0, none⟩) 1 1)) (w' := (wq.alloc (.cells #[.int .i64 x.1, .int .i64 x.2] 33))) trivial ?_
      (try simp only [Act.put, zA, zB, zC])
      have hE : Ext wq (wq.alloc (.cells #[.int .i64 x.1, .int .i64 x.2] 33)) := (Ext.refl _).alloc _
      have hq := HQ.out.ext hE
      refine md_appendF (j := 7) (listed' := (bs 11 255)) (by rfl) (by kernel_rfl) (by rfl) _ _ 29 (by rfl) base 33 i0 _ 2 16 Try.underlying29 HI.out.1 HI.out.2.1 HI.out.2.2.1 HI.out.2.2.2 rfl (by decide) noUL_zpt (.slice (some ⟨gv, 0, none⟩) (m + 1) cap) (m + 1) (ptCells acc) (by rfl) (by have h := hq.row; rwa [HM.out] at h) ⟨wq.heap.size, 0, none⟩ 1 1 [.int .i64 x.1, .int .i64 x.2] (by rfl) rfl (two_new _ _ _ _) (one_pt x) (noUL_pt x) (by decide) (by have := HBIG.out; unfold maxLen; omega) (by have := HBIG.out; omega) hq.base (by kernel_rfl) ?_
      intro gx cx w3 hf h2 h3 h4
      refine ⟨trivial, ?_⟩
      (try simp only [Act.put, zA, zB, zC])
      have hstep := hq.step (n := m + 1 + 1) (x := x) HG.out.1 HG.out.2.1 HLL.out.symm h2 h3 hf
      refine md_val (i := 8) (v := ?z15_) (listed' := (bs 11 511)) (by rfl) (by kernel_rfl) (by kernel_rfl) (by kernel_rfl) (by intro _ _ _ h; exact h) (by rfl) ?hz15_ trivial (by kernel_rfl) ?rz15_
      case hz15_ => (intro w hSw; go_simp <;> with_reducible rfl)
      (try simp only [Act.put, zA, zB, zC])
      refine md_val (i := 9) (v := ?z16_) (listed' := (bs 11 1023)) (by rfl) (by kernel_rfl) (by kernel_rfl) (by kernel_rfl) (by intro _ _ _ h; exact h) (by rfl) ?hz16_ trivial (by kernel_rfl) ?rz16_
      case hz16_ => (intro w hSw; go_simp <;> with_reducible rfl)
      (try simp only [Act.put, zA, zB, zC])
      have hb3 := hq.blk.grown h3 (hq.ne_g HG.out.1 HG.out.2.1)
      refine md_cell (i := 10) (listed' := (bs 11 2047)) (by rfl) (by kernel_rfl) (by rfl) _ _ _ (by rfl) g o _ (cs.setIfInBounds o (.slice (some ⟨gv, 0, none⟩) (m + 1) cap)).toList (.slice (some ⟨gx, 0, none⟩) (m + 1 + 1) cx) (by rfl) (by rfl) hb3 (by simp; have := HG.out.2.2.2; omega) (by kernel_rfl) (by rfl) (by rfl) trivial (by kernel_rfl) ?_
      (try simp only [Act.put])
      have HSTEP := zH hstep
      clear hstep hq hE h2 h3 h4 hf hb3
      generalize w3.setCells g o [.slice (some ⟨gx, 0, none⟩) (m + 1 + 1) cx] = w5 at *
      refine wpAnyH_done (by kernel_rfl) ?_ _
      go_wp2_with fail
      go_roundg (more.length - (k + 1))
      case measure => omega
      case rel => exact ⟨k + 1, _, hlt, rfl, by go_num, (by rw [HPT.out, HNE.out HYX.out]; exact HSTEP.out)⟩
     ·(try simp only [Act.put, zA, zB, zC])
      refine md_two (i := 4) (j := 6) (listed' := (bs 11 63)) (lj := (bs 11 111)) (v := (.slice (some ⟨gv, 0, none⟩) (m + 1) cap)) (wi := wq) (u := (.slice (some ⟨wq.heap.size, 0, none⟩) 1 1)) (wj := (wq.alloc (.cells #[.int .i64 x.1, .int .i64 x.2] 33))) (by rfl) (by rfl) (by kernel_rfl) (by rfl) (by go_simp) trivial (by kernel_rfl) (by rfl) (by go_simp) trivial (by kernel_rfl) ?_ ?_
      ·(try simp only [Act.put, zA, zB, zC])
       refine mU 6 (bs 11 127) (v := (.slice (some ⟨wq.heap.size, 0, none⟩) 1 1)) (w' := (wq.alloc (.cells #[.int .i64 x.1, .int .i64 x.2] 33))) trivial ?_
       (try simp only [Act.put, zA, zB, zC])
       have hE : Ext wq (wq.alloc (.cells #[.int .i64 x.1, .int .i64 x.2] 33)) := (Ext.refl _).alloc _
       have hq := HQ.out.ext hE
       refine md_appendF (j := 7) (listed' := (bs 11 255)) (by rfl) (by kernel_rfl) (by rfl) _ _ 29 (by rfl) base 33 i0 _ 2 16 Try.underlying29 HI.out.1 HI.out.2.1 HI.out.2.2.1 HI.out.2.2.2 rfl (by decide) noUL_zpt (.slice (some ⟨gv, 0, none⟩) (m + 1) cap) (m + 1) (ptCells acc) (by rfl) (by have h := hq.row; rwa [HM.out] at h) ⟨wq.heap.size, 0, none⟩ 1 1 [.int .i64 x.1, .int .i64 x.2] (by rfl) rfl (two_new _ _ _ _) (one_pt x) (noUL_pt x) (by decide) (by have := HBIG.out; unfold maxLen; omega) (by have := HBIG.out; omega) hq.base (by kernel_rfl) ?_
       intro gx cx w3 hf h2 h3 h4
       refine ⟨trivial, ?_⟩
       (try simp only [Act.put, zA, zB, zC])
       have hstep := hq.step (n := m + 1 + 1) (x := x) HG.out.1 HG.out.2.1 HLL.out.symm h2 h3 hf
       refine md_val (i := 8) (v := ?z17_) (listed' := (bs 11 511)) (by rfl) (by kernel_rfl) (by kernel_rfl) (by kernel_rfl) (by intro _ _ _ h; exact h) (by rfl) ?hz17_ trivial (by kernel_rfl) ?rz17_
       case hz17_ => (intro w hSw; go_simp <;> with_reducible rfl)
       (try simp only [Act.put, zA, zB, zC])
       refine md_val (i := 9) (v := ?z18_) (listed' := (bs 11 1023)) (by rfl) (by kernel_rfl) (by kernel_rfl) (by kernel_rfl) (by intro _ _ _ h; exact h) (by rfl) ?hz18_ trivial (by kernel_rfl) ?rz18_
       case hz18_ => (intro w hSw; go_simp <;> with_reducible rfl)
       (try simp only [Act.put, zA, zB, zC])
       have hb3 := hq.blk.grown h3 (hq.ne_g HG.out.1 HG.out.2.1)
       refine md_cell (i := 10) (listed' := (bs 11 2047)) (by rfl) (by kernel_rfl) (by rfl) _ _ _ (by rfl) g o _ (cs.setIfInBounds o (.slice (some ⟨gv, 0, none⟩) (m + 1) cap)).toList (.slice (some ⟨gx, 0, none⟩) (m + 1 + 1) cx) (by rfl) (by rfl) hb3 (by simp; have := HG.out.2.2.2; omega) (by kernel_rfl) (by rfl) (by rfl) trivial (by kernel_rfl) ?_
       (try simp only [Act.put])
       have HSTEP := zH hstep
       clear hstep hq hE h2 h3 h4 hf hb3
       generalize w3.setCells g o [.slice (some ⟨gx, 0, none⟩) (m + 1 + 1) cx] = w5 at *
       refine wpAnyH_done (by kernel_rfl) ?_ _
       go_wp2_with fail
       go_roundg (more.length - (k + 1))
       case measure => omega
       case rel => exact ⟨k + 1, _, hlt, rfl, by go_num, (by rw [HPT.out, HNE.out HYX.out]; exact HSTEP.out)⟩
      ·(try simp only [Act.put, zA, zB, zC])
       have cg2 := ((Ext.refl wq).alloc (.cells #[.int .i64 x.1, .int .i64 x.2] 33)).get cg
       refine mU 4 (bs 11 127) (v := (.slice (some ⟨gv, 0, none⟩) (m + 1) cap)) (w' := (wq.alloc (.cells #[.int .i64 x.1, .int .i64 x.2] 33))) trivial ?_
       (try simp only [Act.put, zA, zB, zC])
       clear cg2
       have hE : Ext wq (wq.alloc (.cells #[.int .i64 x.1, .int .i64 x.2] 33)) := (Ext.refl _).alloc _
       have hq := HQ.out.ext hE
       refine md_appendF (j := 7) (listed' := (bs 11 255)) (by rfl) (by kernel_rfl) (by rfl) _ _ 29 (by rfl) base 33 i0 _ 2 16 Try.underlying29 HI.out.1 HI.out.2.1 HI.out.2.2.1 HI.out.2.2.2 rfl (by decide) noUL_zpt (.slice (some ⟨gv, 0, none⟩) (m + 1) cap) (m + 1) (ptCells acc) (by rfl) (by have h := hq.row; rwa [HM.out] at h) ⟨wq.heap.size, 0, none⟩ 1 1 [.int .i64 x.1, .int .i64 x.2] (by rfl) rfl (two_new _ _ _ _) (one_pt x) (noUL_pt x) (by decide) (by have := HBIG.out; unfold maxLen; omega) (by have := HBIG.out; omega) hq.base (by kernel_rfl) ?_
       intro gx cx w3 hf h2 h3 h4
       refine ⟨trivial, ?_⟩
       (try simp only [Act.put, zA, zB, zC])
       have hstep := hq.step (n := m + 1 + 1) (x := x) HG.out.1 HG.out.2.1 HLL.out.symm h2 h3 hf
       refine md_val (i := 8) (v := ?z19_) (listed' := (bs 11 511)) (by rfl) (by kernel_rfl) (by kernel_rfl) (by kernel_rfl) (by intro _ _ _ h; exact h) (by rfl) ?hz19_ trivial (by kernel_rfl) ?rz19_
       case hz19_ => (intro w hSw; go_simp <;> with_reducible rfl)
       (try simp only [Act.put, zA, zB, zC])
       refine md_val (i := 9) (v := ?z20_) (listed' := (bs 11 1023)) (by rfl) (by kernel_rfl) (by kernel_rfl) (by kernel_rfl) (by intro _ _ _ h; exact h) (by rfl) ?hz20_ trivial (by kernel_rfl) ?rz20_
       case hz20_ => (intro w hSw; go_simp <;> with_reducible rfl)
       (try simp only [Act.put, zA, zB, zC])
       have hb3 := hq.blk.grown h3 (hq.ne_g HG.out.1 HG.out.2.1)
       refine md_cell (i := 10) (listed' := (bs 11 2047)) (by rfl) (by kernel_rfl) (by rfl) _ _ _ (by rfl) g o _ (cs.setIfInBounds o (.slice (some ⟨gv, 0, none⟩) (m + 1) cap)).toList (.slice (some ⟨gx, 0, none⟩) (m + 1 + 1) cx) (by rfl) (by rfl) hb3 (by simp; have := HG.out.2.2.2; omega) (by kernel_rfl) (by rfl) (by rfl) trivial (by kernel_rfl) ?_
       (try simp only [Act.put])
       have HSTEP := zH hstep
       clear hstep hq hE h2 h3 h4 hf hb3
       generalize w3.setCells g o [.slice (some ⟨gx, 0, none⟩) (m + 1 + 1) cx] = w5 at *
       refine wpAnyH_done (by kernel_rfl) ?_ _
       go_wp2_with fail
       go_roundg (more.length - (k + 1))
       case measure => omega
       case rel => exact ⟨k + 1, _, hlt, rfl, by go_num, (by rw [HPT.out, HNE.out HYX.out]; exact HSTEP.out)⟩
  ·have HR := zH (show PutSt w wr base g o b0 cs v (putV ps more) by have h := HST.out; rwa [List.take_of_length_le (by omega)] at h)
   have hge : ¬ (k : Int) < (more.length : Int) := by omega
   go_wp2_with fail
   first | refine bodyPost_end (v := .tuple #[]) (results_none rfl _ _ _) rfl ?_ | refine bodyPost_ret (v := .tuple #[]) (results_none rfl _ _ _) rfl ?_
   first | exact ⟨v, rfl, HR.out⟩ | exact ⟨rfl, v, HR.out⟩

end Go.Proofs.Ytjkddchkjkocbaa

namespace Go.Proofs.Ytjkddchkjkocbaa
open Go.RowKit
attribute [local go_sem ↓] Go.wp_at_zero Go.wp_at_succ run_eql_point run_neq_point run_max_ii run_min_ii

structure AppSt (w wr : World) (base b0 : Nat) (v : Value) (acc : List (Int × Int)) : Prop where
  row : RowN wr base 33 2 v acc.length (ptCells acc)
  own : v.ownBlock = some b0 ∨ ∃ k, v.ownBlock = some k ∧ w.heap.size ≤ k
  only : Only (fun k => k = b0) w wr
  base : base ≤ wr.heap.size
theorem AppSt.ext {w wr w' : World} {base b0 : Nat} {v : Value} {acc : List (Int × Int)} (h : AppSt w wr base b0 v acc) (e : Ext wr w') : AppSt w w' base b0 v acc :=
  ⟨h.row.ext e, h.own, h.only.trans (Only.of_ext e), Nat.le_trans h.base e.size⟩
theorem AppSt.form {w wr : World} {base b0 : Nat} {v : Value} {acc : List (Int × Int)} (h : AppSt w wr base b0 v acc) : ∃ gv cap rest, v = .slice (some ⟨gv, 0, none⟩) acc.length cap ∧ Blk wr gv 33 (ptCells acc ++ rest).toArray := by
  obtain ⟨h1, ⟨rfl, _⟩ | ⟨gv, cap, rest, rfl, _, hb, _⟩⟩ := h.row
  · rcases h.own with h2 | ⟨k, h2, _⟩ <;> simp [Value.ownBlock] at h2
  · exact ⟨gv, cap, rest, rfl, hb⟩
theorem AppSt.step {w wa w3 : World} {base b0 n cap gx : Nat} {v : Value} {acc : List (Int × Int)} {x : Int × Int} (h : AppSt w wa base b0 v acc) (hl : n = (acc ++ [x]).length)
    (h2 : RowN w3 base 33 2 (.slice (some ⟨gx, 0, none⟩) n cap) n (ptCells acc ++ [.int .i64 x.1, .int .i64 x.2])) (h3 : wa.grownBy w3 v.ownBlock) (hf : v.ownBlock = some gx ∨ wa.heap.size ≤ gx) :
    AppSt w w3 base b0 (.slice (some ⟨gx, 0, none⟩) n cap) (acc ++ [x]) := by
  subst hl
  have hsz := h.only.size
  refine ⟨?_, ?_, ?_, ?_⟩
  · rw [ptCells_snoc]; exact h2
  · rcases hf with hf | hf
    · rcases h.own with h5 | ⟨k, h5, h6⟩
      · rw [h5] at hf; injection hf with e; exact Or.inl (by simp [Value.ownBlock, e])
      · rw [h5] at hf; injection hf with e; exact Or.inr ⟨gx, by simp [Value.ownBlock], by omega⟩
    · exact Or.inr ⟨gx, by simp [Value.ownBlock], by omega⟩
  · refine h.only.then (Only.of_grown h3) (fun i hi e => ?_)
    rcases h.own with h5 | ⟨k, h5, h6⟩
    · rw [h5] at e; injection e with e; exact e.symm
    · rw [h5] at e; injection e with e; omega
  · exact Nat.le_trans h.base h3.size
set_option maxRecDepth 20000 in
set_option maxHeartbeats 4000000 in
theorem appd_any (base b0 : Nat) (v : Value) (ps : List (Int × Int)) (u : Value) (more : List (Int × Int)) (w : World) (hne : ps ≠ []) (hrow : RowN w base 33 2 v ps.length (ptCells ps))
    (hv : v.ownBlock = some b0) (hbase : base ≤ w.heap.size) (hu : PtsV w u more) (hug : ∀ A l c, u = .slice (some A) l c → A.block ≠ b0) (hn : ps.length + more.length ≤ 1000000) :
    Calls Try.prog 30 #[v, u] w fun e w' => ∃ v', e = .returned v' ∧ AppSt w w' base b0 v' (putV ps more) := by
  obtain ⟨A, cu, rfl, hA⟩ := hu
  obtain ⟨i0, hi, hz0, hz1, hz2⟩ := info_parts infoPt
  have HI := zH (And.intro hi (And.intro hz0 (And.intro hz1 hz2)))
  clear hi hz0 hz1 hz2
  have HST := zH (show AppSt w w base b0 v (putV ps (more.take 0)) from ⟨hrow, Or.inl hv, Only.refl _ _, hbase⟩)
  have HA := zH hA
  have HU := zH hug
  have HN := zH (And.intro hne hn)
  clear hrow hv hbase hA hug hn hne
  go_enter Try.func30, Try.ntmps30
  go_wp2_with fail
  go_loopg [0, 5] more.length (fun n v i wr => ∃ (k : Nat) (v2 : Value), k ≤ more.length ∧ n = more.length - k ∧ i = .int .i64 k ∧ v = v2 ∧ AppSt w wr base b0 v2 (putV ps (more.take k)))
  case atStart => exact ⟨0, v, Nat.zero_le _, rfl, rfl, rfl, HST.out⟩
  case round =>
    clear HST
    obtain ⟨k, v, hk, rfl, rfl, rfl, hst⟩ := hrel
    have HST := zH hst
    clear hst
    by_cases hlt : k < more.length
    · obtain ⟨gu, ou, rfl, hp⟩ := HA.out (by rintro rfl; simp at hlt)
      have hng := HU.out _ _ _ rfl
      have HPT := zH (putV_take (ps := ps) hlt)
      have hlt2 : (k : Int) < (more.length : Int) := by omega
      have hlen := putV_len ps (more.take k)
      have htk : (more.take k).length = k := by rw [List.length_take]; omega
      have hnn : (putV ps (more.take k)) ≠ [] := putV_ne HN.out.1
      have HPP := zH (hp k hlt)
      have hbd := HN.out.2
      clear hp
      generalize hac : putV ps (more.take k) = acc at *
      generalize hxx : more.getD k (0, 0) = x at *
      have HAC := zH hac
      clear hac hxx
      have hal : 0 < acc.length := by cases acc with | nil => exact absurd rfl hnn | cons a t => simp
      have HAL := zH (And.intro hal (show acc.length + 1 ≤ 1000001 by omega))
      clear hlen htk hnn hbd hal
      have HPQ := zH (show wr.cell? ⟨gu, ou + k * 2, none⟩ = some (.int .i64 x.1) ∧ wr.cell? ⟨gu, ou + k * 2 + 1, none⟩ = some (.int .i64 x.2) from
        ⟨HST.out.only.get HPP.out.1 (fun e => hng e), HST.out.only.get HPP.out.2 (fun e => hng e)⟩)
      obtain ⟨gv, cap, rest, rfl, hbv⟩ := HST.out.form
      have HBV := zH hbv
      clear hbv hng HPP HU HA
      obtain ⟨m, hm⟩ : ∃ m, acc.length = m + 1 := ⟨acc.length - 1, by have := HAL.out.1; omega⟩
      have HM := zH hm
      obtain ⟨c0, c1⟩ := HPQ.out
      have hgl : (ptCells acc)[m * 2]? = some (.int .i64 (acc.getD (acc.length - 1) (0, 0)).1) ∧ (ptCells acc)[m * 2 + 1]? = some (.int .i64 (acc.getD (acc.length - 1) (0, 0)).2) := by
        have h := ptCells_get acc m (by omega)
        rwa [show acc.length - 1 = m by omega]
      have l0 : wr.cell? ⟨gv, m * 2, none⟩ = some (.int .i64 (acc.getD (acc.length - 1) (0, 0)).1) := by
        rw [HBV.out.cell, List.getElem?_toArray, List.getElem?_append_left (by rw [ptCells_length]; omega)]
        exact hgl.1
      have l1 : wr.cell? ⟨gv, m * 2 + 1, none⟩ = some (.int .i64 (acc.getD (acc.length - 1) (0, 0)).2) := by
        rw [HBV.out.cell, List.getElem?_toArray, List.getElem?_append_left (by rw [ptCells_length]; omega)]
        exact hgl.2
      clear hgl HBV
      have HEQ := zH (fun h => put1_same (acc := acc) (x := x) h)
      have HNE := zH (fun h => put1_new (acc := acc) (x := x) h)
      generalize acc.getD (acc.length - 1) (0, 0) = y at l0 l1 HEQ HNE
      have HLL := zH (show (acc ++ [x]).length = m + 1 + 1 by simp [hm])
      rw [hm] at HST ⊢
      have q1 : ((m + 1 : Nat) : Int) - 1 = (m : Int) := by omega
      have q2 : (((m + 1 : Nat) : Int) == 0) = false := by simp; omega
      have q3 : ((m : Int) + 1 - 1) = (m : Int) := by omega
      have q4 : ((m : Int) + 1 == 0) = false := by simp; omega
      have q5 : (m : Int) < (m : Int) + 1 := by omega
      have q6 : (0 : Int) ≤ (m : Int) := by omega
      have hbig := HAL.out.2
      have HBIG := zH (show m + 1 + 1 ≤ 1000001 by omega)
      have q7 : m ≤ 1000000 := by omega
      have q8 : k ≤ 1000000 := by have := HN.out.2; omega
      clear hbig hm
      by_cases hxy : y = x
      · subst hxy
        have b1 : (y.1 == y.1) = true := by simp
        have b2 : (y.2 == y.2) = true := by simp
        go_wp2_with fail
        go_quiet (fail)
        go_wp2_with fail
        go_roundg (more.length - (k + 1))
        case measure => omega
        case rel => exact ⟨k + 1, _, hlt, rfl, by go_num, rfl, (by rw [HPT.out, HEQ.out (by trivial)]; exact HST.out.ext ((Ext.refl _).drewN _))⟩
      · have HYX := zH hxy
        by_cases hx1 : y.1 = x.1
        · have b1 : (y.1 == x.1) = true := by simpa using hx1
          have b2 : (y.2 == x.2) = false := by
            rw [← Bool.not_eq_true]; intro hh; exact hxy (Prod.ext hx1 (by simpa using hh : y.2 = x.2))
          clear hxy hx1
          go_wp2_with fail
          go_quiet (fail)
          go_upto_region 5 with fail
          have HQ := zH (HST.out.ext ((Ext.refl wr).drewN nq))
          replace c0 := ((Ext.refl wr).drewN nq).get c0
          replace c1 := ((Ext.refl wr).drewN nq).get c1
          clear l0 l1
          generalize World.drewN wr nq = wq at *
          refine wp_region_lit ?_
          refine pV (w' := wq) ?_
          (try simp only [Act.put, zA, zB, zC])
          refine pV (w' := wq) ?_
          (try simp only [Act.put, zA, zB, zC])
          refine pV (w' := wq) ?_
          (try simp only [Act.put, zA, zB, zC])
          refine pV (w' := wq) ?_
          (try simp only [Act.put, zA, zB, zC])
          refine mv_val (v := (.agg #[.int .i64 x.1, .int .i64 x.2])) (w' := wq) (by rfl) (by go_simp) ?_
          (try simp only [Act.put, zA, zB, zC])
          refine mv_val (v := (.slice (some ⟨wq.heap.size, 0, none⟩) 1 1)) (w' := (wq.alloc (.cells #[.int .i64 x.1, .int .i64 x.2] 33))) (by rfl) (by go_simp) ?_
          (try simp only [Act.put, zA, zB, zC])
          have hE : Ext wq (wq.alloc (.cells #[.int .i64 x.1, .int .i64 x.2] 33)) := (Ext.refl _).alloc _
          have hq := HQ.out.ext hE
          refine wpList_if (by rfl) (wp_append_rowF _ _ 29 (by rfl) base 33 i0 _ 2 16 Try.underlying29 HI.out.1 HI.out.2.1 HI.out.2.2.1 HI.out.2.2.2 rfl (by decide) noUL_zpt (.slice (some ⟨gv, 0, none⟩) (m + 1) cap) (m + 1) (ptCells acc) (by rfl) (by have h := hq.row; rwa [HM.out] at h) ⟨wq.heap.size, 0, none⟩ 1 1 [.int .i64 x.1, .int .i64 x.2] (by rfl) rfl (two_new _ _ _ _) (one_pt x) (noUL_pt x) (by decide) (by have := HBIG.out; unfold maxLen; omega) (by have := HBIG.out; omega) hq.base ?_)
          intro gx cx w3 hf h2 h3 h4
          (try simp only [Act.put, zA, zB, zC])
          have HSTEP := zH (hq.step (n := m + 1 + 1) (x := x) HLL.out.symm h2 h3 hf)
          clear hq hE h2 h3 h4 hf c0 c1
          refine mv_val (v := .slice (some ⟨gx, 0, none⟩) (m + 1 + 1) cx) (w' := w3) (by rfl) (by go_simp) ?_
          (try simp only [Act.put, zA, zB, zC])
          go_wp2_with fail
          go_roundg (more.length - (k + 1))
          case measure => omega
          case rel => exact ⟨k + 1, _, hlt, rfl, by go_num, rfl, (by rw [HPT.out, HNE.out HYX.out]; exact HSTEP.out)⟩
        · have b1 : (y.1 == x.1) = false := by simpa using hx1
          clear hxy hx1
          go_wp2_with fail
          go_quiet (fail)
          go_upto_region 5 with fail
          have HQ := zH (HST.out.ext ((Ext.refl wr).drewN nq))
          replace c0 := ((Ext.refl wr).drewN nq).get c0
          replace c1 := ((Ext.refl wr).drewN nq).get c1
          clear l0 l1
          generalize World.drewN wr nq = wq at *
          refine wp_region_lit ?_
          refine pV (w' := wq) ?_
          (try simp only [Act.put, zA, zB, zC])
          refine pV (w' := wq) ?_
          (try simp only [Act.put, zA, zB, zC])
          refine pV (w' := wq) ?_
          (try simp only [Act.put, zA, zB, zC])
          refine pV (w' := wq) ?_
          (try simp only [Act.put, zA, zB, zC])
          refine mv_val (v := (.agg #[.int .i64 x.1, .int .i64 x.2])) (w' := wq) (by rfl) (by go_simp) ?_
          (try simp only [Act.put, zA, zB, zC])
          refine mv_val (v := (.slice (some ⟨wq.heap.size, 0, none⟩) 1 1)) (w' := (wq.alloc (.cells #[.int .i64 x.1, .int .i64 x.2] 33))) (by rfl) (by go_simp) ?_
          (try simp only [Act.put, zA, zB, zC])
          have hE : Ext wq (wq.alloc (.cells #[.int .i64 x.1, .int .i64 x.2] 33)) := (Ext.refl _).alloc _
          have hq := HQ.out.ext hE
          refine wpList_if (by rfl) (wp_append_rowF _ _ 29 (by rfl) base 33 i0 _ 2 16 Try.underlying29 HI.out.1 HI.out.2.1 HI.out.2.2.1 HI.out.2.2.2 rfl (by decide) noUL_zpt (.slice (some ⟨gv, 0, none⟩) (m + 1) cap) (m + 1) (ptCells acc) (by rfl) (by have h := hq.row; rwa [HM.out] at h) ⟨wq.heap.size, 0, none⟩ 1 1 [.int .i64 x.1, .int .i64 x.2] (by rfl) rfl (two_new _ _ _ _) (one_pt x) (noUL_pt x) (by decide) (by have := HBIG.out; unfold maxLen; omega) (by have := HBIG.out; omega) hq.base ?_)
          intro gx cx w3 hf h2 h3 h4
          (try simp only [Act.put, zA, zB, zC])
          have HSTEP := zH (hq.step (n := m + 1 + 1) (x := x) HLL.out.symm h2 h3 hf)
          clear hq hE h2 h3 h4 hf c0 c1
          refine mv_val (v := .slice (some ⟨gx, 0, none⟩) (m + 1 + 1) cx) (w' := w3) (by rfl) (by go_simp) ?_
          (try simp only [Act.put, zA, zB, zC])
          go_wp2_with fail
          go_roundg (more.length - (k + 1))
          case measure => omega
          case rel => exact ⟨k + 1, _, hlt, rfl, by go_num, rfl, (by rw [HPT.out, HNE.out HYX.out]; exact HSTEP.out)⟩
    · have HR := zH (show AppSt w wr base b0 _ (putV ps more) by have h := HST.out; rwa [List.take_of_length_le (by omega)] at h)
      have hge : ¬ (k : Int) < (more.length : Int) := by omega
      go_wp2_with fail
      go_ret
      exact ⟨_, rfl, HR.out⟩
end Go.Proofs.Ytjkddchkjkocbaa

namespace Go.Proofs.Ytjkddchkjkocbaa
open Go.RowKit
attribute [local go_sem ↓] Go.wp_at_zero Go.wp_at_succ run_eql_point run_neq_point run_max_ii run_min_ii

theorem ownsRow_ext {w w' : World} {base : Nat} {e : TypeId} {size : Nat} {v : Value} {n : Nat} {xs : List Value} (h : w.ownsRow base e size v n xs) (x : Ext w w') : w'.ownsRow base e size v n xs := by
  obtain ⟨h1, h2⟩ := h
  refine ⟨h1, ?_⟩
  rcases h2 with h2 | ⟨g, cap, cur, hv, hg, hh, r⟩
  · exact Or.inl h2
  · exact Or.inr ⟨g, cap, cur, hv, hg, (Below.block x g (Array.getElem?_eq_some_iff.1 hh).1).trans hh, r⟩

theorem owns_block {w : World} {base : Nat} {e : TypeId} {size : Nat} {v : Value} {n : Nat} {xs : List Value} (h : w.ownsRow base e size v n xs) : ∀ k, v.ownBlock = some k → base ≤ k := by
  intro k hk
  rcases h.2 with ⟨rfl, _⟩ | ⟨g, cap, cur, rfl, hg, _⟩
  · simp [Value.ownBlock] at hk
  · simp [Value.ownBlock] at hk; omega

theorem owns_empty (w : World) (t : TypeId) (size : Nat) : (w.alloc (.cells #[] t)).ownsRow w.heap.size t size (.slice (some ⟨w.heap.size, 0, none⟩) 0 0) 0 [] :=
  ⟨by simp, .inr ⟨w.heap.size, 0, #[], rfl, Nat.le_refl _, heap_alloc_new w _, Nat.le_refl _, Nat.zero_le _, by simp, by simp⟩⟩

set_option maxRecDepth 20000 in
set_option maxHeartbeats 1000000 in
theorem rquad_any (a b c : Int × Int) (tol : Int) (w : World) :
    Calls Try.prog 39 #[.agg #[.int .i64 a.1, .int .i64 a.2, .int .i64 b.1, .int .i64 b.2, .int .i64 c.1, .int .i64 c.2], .int .i64 tol] w (CurveSays (quadPts a b c tol) (quadSegV a b c tol).2 w) := by
  have HG := zH (show ∀ x, Ext (w.alloc (.cells #[.int .i64 a.1, .int .i64 a.2, .int .i64 b.1, .int .i64 b.2, .int .i64 c.1, .int .i64 c.2] 37)) x → x.cell? ⟨w.heap.size, 0, none⟩ = some (.int .i64 a.1) ∧ x.cell? ⟨w.heap.size, 1, none⟩ = some (.int .i64 a.2) ∧ x.cell? ⟨w.heap.size, 2, none⟩ = some (.int .i64 b.1) ∧ x.cell? ⟨w.heap.size, 3, none⟩ = some (.int .i64 b.2) ∧ x.cell? ⟨w.heap.size, 4, none⟩ = some (.int .i64 c.1) ∧ x.cell? ⟨w.heap.size, 5, none⟩ = some (.int .i64 c.2) from fun x h => ⟨h.get (by simp), h.get (by simp), h.get (by simp), h.get (by simp), h.get (by simp), h.get (by simp)⟩)
  by_cases he : (quadSegV a b c tol).2 = 0
  · obtain ⟨n, hn, hn1, hn2⟩ := piecesV_range (sqD a b c) tol [a, b, c] he
    have hp : quadPts a b c tol = upTo (fun i => quadAtV a b c i n) n := by
      unfold quadPts
      rw [if_pos he, show (quadSegV a b c tol).1 = (n : Int) from hn, Int.toNat_natCast]
    rw [hp]
    have HN := zH (show quadSegV a b c tol = ((n : Int), 0) from Prod.ext hn he)
    clear hn hp he
    rw [HN.out]
    obtain ⟨i0, hi, hz0, hz1, hz2⟩ := info_parts infoPt
    go_enter Try.func39, Try.ntmps39
    go_wp2_with (go_at_call 47; refine (rquadSeg_any a b c _ _).mono ?_; rw [HN.out]; rintro e w1 ⟨rfl, hb⟩)
    have hsz := hb.size
    simp only [World.size_alloc] at hsz
    go_loopw [8, 9] (fun v i wr => ∃ k : Nat, k ≤ n ∧ i = .int .i64 ((k : Int) + 1) ∧ wr.ownsRow (w.heap.size + 1) 33 2 v k (ptCells (upTo (fun i => quadAtV a b c i n) k)) ∧ Ext (w.alloc (.cells #[.int .i64 a.1, .int .i64 a.2, .int .i64 b.1, .int .i64 b.2, .int .i64 c.1, .int .i64 c.2] 37)) wr) (fun _ i _ => n + 1 - (intOf i).toNat)
    case atStart => exact ⟨0, Nat.zero_le _, rfl, (by have := owns_empty w1 33 2; exact ⟨this.1, this.2.imp id (fun ⟨g, cap, cur, h1, h2, h3⟩ => ⟨g, cap, cur, h1, by omega, h3⟩)⟩), hb.alloc _⟩
    case round =>
      obtain ⟨k, hk, rfl, hown, hx⟩ := hrel
      have g1 := HG.out _ hx
      by_cases hlt : k < n
      · have HL := zH (ptCells_length (upTo (fun i => quadAtV a b c i n) k))
        have HS := zH (upTo_succ (fun i => quadAtV a b c i n) k)
        go_wp2_with (first | (go_at_call 48; refine (rquadAt_any a b c _ _ _).mono ?_; rintro e w2 ⟨rfl, hc⟩; have hs2 := Ext.size hc) | (at_builtin; refine wpList_append_own _ rfl _ _ 29 rfl (w.heap.size + 1) 33 i0 (.agg #[.int .i64 0, .int .i64 0]) 2 16 Try.underlying29 hi hz0 hz1 hz2 rfl (by decide) _ _ _ rfl (ownsRow_ext hown (Ext.alloc (by assumption) _)) ⟨w2.heap.size, 0, none⟩ 1 1 [_, _] rfl rfl (two_new _ _ _ _) (by simp [Value.oneCell']) (by unfold maxLen; omega) (by omega) (by have := hx.size; simp at this ⊢; omega) ?_; intro v' w3 hown' hgrow _))
        go_roundw
        case rel => exact ⟨k + 1, hlt, by go_num, by rw [HS.out, ptCells_snoc]; exact hown', ((hx.trans (by assumption)).alloc _).grown hgrow (fun j hj => by have := owns_block hown j hj; simp; omega)⟩
        case measure => simp [intOf]; omega
      · go_wp2_with fail
        go_ret2
        obtain rfl : k = n := by omega
        refine ⟨_, rfl, ⟨⟨?_, ?_⟩, fun h => ?_⟩, ((Ext.refl _).alloc _).trans hx⟩
        · rw [upTo_length]; exact hown.1
        · rw [upTo_length]; exact hown.2.imp id (fun ⟨g, cap, cur, h1, h2, h3⟩ => ⟨g, cap, cur, h1, by omega, h3⟩)
        · have := congrArg List.length h
          rw [upTo_length, List.length_nil] at this
          omega
  · have hp : quadPts a b c tol = [] := by unfold quadPts; rw [if_neg he]
    rw [hp]
    have hne : ((quadSegV a b c tol).2 != 0) = true := by simpa using he
    have hne2 : ((quadSegV a b c tol).2 == 0) = false := by simpa using he
    clear he hp
    go_enter Try.func39, Try.ntmps39
    go_wp2_with (go_at_call 47; refine (rquadSeg_any a b c _ _).mono ?_; rintro e w' ⟨rfl, hb⟩)
    go_ret2
    exact ⟨_, rfl, ⟨World.ownsRow_nil _ _ _ _, fun _ => rfl⟩, ((Ext.refl _).alloc _).trans ‹_›⟩

set_option maxRecDepth 20000 in
set_option maxHeartbeats 1000000 in
theorem rcubic_any (a b c d : Int × Int) (tol : Int) (w : World) :
    Calls Try.prog 40 #[.agg #[.int .i64 a.1, .int .i64 a.2, .int .i64 b.1, .int .i64 b.2, .int .i64 c.1, .int .i64 c.2, .int .i64 d.1, .int .i64 d.2], .int .i64 tol] w (CurveSays (cubicPts a b c d tol) (cubicSegV a b c d tol).2 w) := by
  have HG := zH (show ∀ x, Ext (w.alloc (.cells #[.int .i64 a.1, .int .i64 a.2, .int .i64 b.1, .int .i64 b.2, .int .i64 c.1, .int .i64 c.2, .int .i64 d.1, .int .i64 d.2] 64)) x → x.cell? ⟨w.heap.size, 0, none⟩ = some (.int .i64 a.1) ∧ x.cell? ⟨w.heap.size, 1, none⟩ = some (.int .i64 a.2) ∧ x.cell? ⟨w.heap.size, 2, none⟩ = some (.int .i64 b.1) ∧ x.cell? ⟨w.heap.size, 3, none⟩ = some (.int .i64 b.2) ∧ x.cell? ⟨w.heap.size, 4, none⟩ = some (.int .i64 c.1) ∧ x.cell? ⟨w.heap.size, 5, none⟩ = some (.int .i64 c.2) ∧ x.cell? ⟨w.heap.size, 6, none⟩ = some (.int .i64 d.1) ∧ x.cell? ⟨w.heap.size, 7, none⟩ = some (.int .i64 d.2) from fun x h => ⟨h.get (by simp), h.get (by simp), h.get (by simp), h.get (by simp), h.get (by simp), h.get (by simp), h.get (by simp), h.get (by simp)⟩)
  by_cases he : (cubicSegV a b c d tol).2 = 0
  · obtain ⟨n, hn, hn1, hn2⟩ := piecesV_range (9 * max (sqD a b c) (sqD b c d)) tol [a, b, c, d] he
    have hp : cubicPts a b c d tol = upTo (fun i => cubicAtV a b c d i n) n := by
      unfold cubicPts
      rw [if_pos he, show (cubicSegV a b c d tol).1 = (n : Int) from hn, Int.toNat_natCast]
    rw [hp]
    have HN := zH (show cubicSegV a b c d tol = ((n : Int), 0) from Prod.ext hn he)
    clear hn hp he
    rw [HN.out]
    obtain ⟨i0, hi, hz0, hz1, hz2⟩ := info_parts infoPt
    go_enter Try.func40, Try.ntmps40
    go_wp2_with (go_at_call 49; refine (rcubicSeg_any a b c d _ _).mono ?_; rw [HN.out]; rintro e w1 ⟨rfl, hb⟩)
    have hsz := hb.size
    simp only [World.size_alloc] at hsz
    go_loopw [8, 9] (fun v i wr => ∃ k : Nat, k ≤ n ∧ i = .int .i64 ((k : Int) + 1) ∧ wr.ownsRow (w.heap.size + 1) 33 2 v k (ptCells (upTo (fun i => cubicAtV a b c d i n) k)) ∧ Ext (w.alloc (.cells #[.int .i64 a.1, .int .i64 a.2, .int .i64 b.1, .int .i64 b.2, .int .i64 c.1, .int .i64 c.2, .int .i64 d.1, .int .i64 d.2] 64)) wr) (fun _ i _ => n + 1 - (intOf i).toNat)
    case atStart => exact ⟨0, Nat.zero_le _, rfl, (by have := owns_empty w1 33 2; exact ⟨this.1, this.2.imp id (fun ⟨g, cap, cur, h1, h2, h3⟩ => ⟨g, cap, cur, h1, by omega, h3⟩)⟩), hb.alloc _⟩
    case round =>
      obtain ⟨k, hk, rfl, hown, hx⟩ := hrel
      have g1 := HG.out _ hx
      by_cases hlt : k < n
      · have HL := zH (ptCells_length (upTo (fun i => cubicAtV a b c d i n) k))
        have HS := zH (upTo_succ (fun i => cubicAtV a b c d i n) k)
        go_wp2_with (first | (go_at_call 50; refine (rcubicAt_any a b c d _ _ _).mono ?_; rintro e w2 ⟨rfl, hc⟩; have hs2 := Ext.size hc) | (at_builtin; refine wpList_append_own _ rfl _ _ 29 rfl (w.heap.size + 1) 33 i0 (.agg #[.int .i64 0, .int .i64 0]) 2 16 Try.underlying29 hi hz0 hz1 hz2 rfl (by decide) _ _ _ rfl (ownsRow_ext hown (Ext.alloc (by assumption) _)) ⟨w2.heap.size, 0, none⟩ 1 1 [_, _] rfl rfl (two_new _ _ _ _) (by simp [Value.oneCell']) (by unfold maxLen; omega) (by omega) (by have := hx.size; simp at this ⊢; omega) ?_; intro v' w3 hown' hgrow _))
        go_roundw
        case rel => exact ⟨k + 1, hlt, by go_num, by rw [HS.out, ptCells_snoc]; exact hown', ((hx.trans (by assumption)).alloc _).grown hgrow (fun j hj => by have := owns_block hown j hj; simp; omega)⟩
        case measure => simp [intOf]; omega
      · go_wp2_with fail
        go_ret2
        obtain rfl : k = n := by omega
        refine ⟨_, rfl, ⟨⟨?_, ?_⟩, fun h => ?_⟩, ((Ext.refl _).alloc _).trans hx⟩
        · rw [upTo_length]; exact hown.1
        · rw [upTo_length]; exact hown.2.imp id (fun ⟨g, cap, cur, h1, h2, h3⟩ => ⟨g, cap, cur, h1, by omega, h3⟩)
        · have := congrArg List.length h
          rw [upTo_length, List.length_nil] at this
          omega
  · have hp : cubicPts a b c d tol = [] := by unfold cubicPts; rw [if_neg he]
    rw [hp]
    have hne : ((cubicSegV a b c d tol).2 != 0) = true := by simpa using he
    have hne2 : ((cubicSegV a b c d tol).2 == 0) = false := by simpa using he
    clear he hp
    go_enter Try.func40, Try.ntmps40
    go_wp2_with (go_at_call 49; refine (rcubicSeg_any a b c d _ _).mono ?_; rintro e w' ⟨rfl, hb⟩)
    go_ret2
    exact ⟨_, rfl, ⟨World.ownsRow_nil _ _ _ _, fun _ => rfl⟩, ((Ext.refl _).alloc _).trans ‹_›⟩

end Go.Proofs.Ytjkddchkjkocbaa

namespace Go.Proofs.Ytjkddchkjkocbaa
open Go.RowKit
attribute [local go_sem ↓] Go.wp_at_zero Go.wp_at_succ run_eql_point run_neq_point run_max_ii run_min_ii

def segPts (p : Int × Int) (s : Sg) (tol : Int) : List (Int × Int) := if s.v = 3 then quadPts p s.a s.b tol else if s.v = 4 then cubicPts p s.a s.b s.c tol else [s.a]
def segErr (p : Int × Int) (s : Sg) (tol : Int) : Int := if s.v = 3 then (quadSegV p s.a s.b tol).2 else if s.v = 4 then (cubicSegV p s.a s.b s.c tol).2 else 0
def SegSays (pts : List (Int × Int)) (er : Int) (w : World) (e : Ending) (w' : World) : Prop :=
  ∃ v, e = .returned (.tuple #[v, .int .i64 er]) ∧ PtsV w' v pts ∧ (∀ A l c, v = .slice (some A) l c → w.heap.size ≤ A.block) ∧ Ext w w'
theorem OwnsPts.fresh {w w' : World} {v : Value} {ps : List (Int × Int)} (h : OwnsPts w w' v ps) : ∀ A l c, v = .slice (some A) l c → w.heap.size ≤ A.block := by
  intro A l c hv
  rcases h.1.2 with ⟨rfl, _⟩ | ⟨g, cap, cur, rfl, hg, _⟩
  · cases hv
  · injection hv with h1; injection h1 with h1; subst h1; exact hg
theorem upTo_len (f : Int → Int × Int) (n : Nat) : (upTo f n).length = n := upTo_length f n
theorem quadPts_len (a b c : Int × Int) (tol : Int) : (quadPts a b c tol).length ≤ 64 ∧ ((quadSegV a b c tol).2 = 0 → quadPts a b c tol ≠ []) := by
  unfold quadPts
  by_cases h : (quadSegV a b c tol).2 = 0
  · obtain ⟨n, hn, h1, h2⟩ := piecesV_range (sqD a b c) tol [a, b, c] h
    have e : (quadSegV a b c tol).1.toNat = n := by show (piecesV _ _ _).1.toNat = n; rw [hn]; simp
    rw [if_pos h, e, upTo_len]
    exact ⟨h2, fun _ hz => by have := congrArg List.length hz; rw [upTo_len] at this; simp at this; omega⟩
  · rw [if_neg h]; exact ⟨by simp, fun h' => absurd h' h⟩
theorem cubicPts_len (a b c d : Int × Int) (tol : Int) : (cubicPts a b c d tol).length ≤ 64 ∧ ((cubicSegV a b c d tol).2 = 0 → cubicPts a b c d tol ≠ []) := by
  unfold cubicPts
  by_cases h : (cubicSegV a b c d tol).2 = 0
  · obtain ⟨n, hn, h1, h2⟩ := piecesV_range (9 * max (sqD a b c) (sqD b c d)) tol [a, b, c, d] h
    have e : (cubicSegV a b c d tol).1.toNat = n := by show (piecesV _ _ _).1.toNat = n; rw [hn]; simp
    rw [if_pos h, e, upTo_len]
    exact ⟨h2, fun _ hz => by have := congrArg List.length hz; rw [upTo_len] at this; simp at this; omega⟩
  · rw [if_neg h]; exact ⟨by simp, fun h' => absurd h' h⟩
theorem segPts_len (p : Int × Int) (s : Sg) (tol : Int) : (segPts p s tol).length ≤ 64 ∧ (segErr p s tol = 0 → segPts p s tol ≠ []) := by
  unfold segPts segErr
  split
  · exact quadPts_len _ _ _ _
  · split
    · exact cubicPts_len _ _ _ _ _
    · exact ⟨by simp, fun _ => by simp⟩
theorem pt_new (w : World) (x y : Int) : PtsV (w.alloc (.cells #[.int .i64 x, .int .i64 y] 33)) (.slice (some ⟨w.heap.size, 0, none⟩) 1 1) [(x, y)] := by
  refine ⟨some ⟨w.heap.size, 0, none⟩, 1, rfl, fun _ => ⟨w.heap.size, 0, rfl, fun i hi => ?_⟩⟩
  have h := Blk.new w 33 #[.int .i64 x, .int .i64 y]
  obtain rfl : i = 0 := by simp at hi; omega
  exact ⟨h.cell 0, h.cell 1⟩

set_option maxRecDepth 20000 in
set_option maxHeartbeats 4000000 in
theorem segment_any (p1 p2 v a1 a2 b1 b2 c1 c2 tol : Int) (w : World) :
    Calls Try.prog 13 #[.agg #[.int .i64 p1, .int .i64 p2], .agg #[.int .i64 v, .int .i64 a1, .int .i64 a2, .int .i64 b1, .int .i64 b2, .int .i64 c1, .int .i64 c2], .int .i64 tol] w (SegSays (segPts (p1, p2) ⟨v, (a1, a2), (b1, b2), (c1, c2)⟩ tol) (segErr (p1, p2) ⟨v, (a1, a2), (b1, b2), (c1, c2)⟩ tol) w) := by
  have hE : Ext w ((w.alloc (.cells #[.int .i64 p1, .int .i64 p2] 33)).alloc (.cells #[.int .i64 v, .int .i64 a1, .int .i64 a2, .int .i64 b1, .int .i64 b2, .int .i64 c1, .int .i64 c2] 35)) := ((Ext.refl _).alloc _).alloc _
  have HE := zH hE
  clear hE
  by_cases h3 : v = 3
  · subst h3
    go_enter Try.func13, Try.ntmps13
    go_wp2_with (first | (go_at_call 9; refine (quad_any (p1, p2) (a1, a2) (b1, b2) tol _).mono ?_; rintro e w1 ⟨u, rfl, ho, hx⟩) | (go_at_call 27; refine (cubic_any (p1, p2) (a1, a2) (b1, b2) (c1, c2) tol _).mono ?_; rintro e w1 ⟨u, rfl, ho, hx⟩))
    go_ret2
    exact ⟨u, rfl, ho.read, fun A l c h => Nat.le_trans HE.out.size (ho.fresh A l c h), HE.out.trans hx⟩
  · by_cases h4 : v = 4
    · subst h4
      go_enter Try.func13, Try.ntmps13
      go_wp2_with (first | (go_at_call 9; refine (quad_any (p1, p2) (a1, a2) (b1, b2) tol _).mono ?_; rintro e w1 ⟨u, rfl, ho, hx⟩) | (go_at_call 27; refine (cubic_any (p1, p2) (a1, a2) (b1, b2) (c1, c2) tol _).mono ?_; rintro e w1 ⟨u, rfl, ho, hx⟩))
      go_ret2
      exact ⟨u, rfl, ho.read, fun A l c h => Nat.le_trans HE.out.size (ho.fresh A l c h), HE.out.trans hx⟩
    · have b3 : (v == 3) = false := by simpa using h3
      have b4 : (v == 4) = false := by simpa using h4
      have H1 := zH (show segPts (p1, p2) ⟨v, (a1, a2), (b1, b2), (c1, c2)⟩ tol = [(a1, a2)] by unfold segPts; simp [h3, h4])
      have H2 := zH (show segErr (p1, p2) ⟨v, (a1, a2), (b1, b2), (c1, c2)⟩ tol = 0 by unfold segErr; simp [h3, h4])
      rw [H1.out, H2.out]
      clear h3 h4
      go_enter Try.func13, Try.ntmps13
      go_wp2_with fail
      go_ret2
      refine ⟨_, rfl, ?_, fun A l c h => ?_, HE.out.alloc _⟩
      · have h := pt_new ((w.alloc (.cells #[.int .i64 p1, .int .i64 p2] 33)).alloc (.cells #[.int .i64 v, .int .i64 a1, .int .i64 a2, .int .i64 b1, .int .i64 b2, .int .i64 c1, .int .i64 c2] 35)) a1 a2
        simpa using h
      · injection h with h1; injection h1 with h1; subst h1; simp; omega

set_option maxRecDepth 20000 in
set_option maxHeartbeats 4000000 in
theorem rsegment_any (p1 p2 v a1 a2 b1 b2 c1 c2 tol : Int) (w : World) :
    Calls Try.prog 29 #[.agg #[.int .i64 p1, .int .i64 p2], .agg #[.int .i64 v, .int .i64 a1, .int .i64 a2, .int .i64 b1, .int .i64 b2, .int .i64 c1, .int .i64 c2], .int .i64 tol] w (SegSays (segPts (p1, p2) ⟨v, (a1, a2), (b1, b2), (c1, c2)⟩ tol) (segErr (p1, p2) ⟨v, (a1, a2), (b1, b2), (c1, c2)⟩ tol) w) := by
  have hE : Ext w ((w.alloc (.cells #[.int .i64 p1, .int .i64 p2] 33)).alloc (.cells #[.int .i64 v, .int .i64 a1, .int .i64 a2, .int .i64 b1, .int .i64 b2, .int .i64 c1, .int .i64 c2] 35)) := ((Ext.refl _).alloc _).alloc _
  have HE := zH hE
  clear hE
  by_cases h3 : v = 3
  · subst h3
    go_enter Try.func29, Try.ntmps29
    go_wp2_with (first | (go_at_call 39; refine (rquad_any (p1, p2) (a1, a2) (b1, b2) tol _).mono ?_; rintro e w1 ⟨u, rfl, ho, hx⟩) | (go_at_call 40; refine (rcubic_any (p1, p2) (a1, a2) (b1, b2) (c1, c2) tol _).mono ?_; rintro e w1 ⟨u, rfl, ho, hx⟩))
    go_ret2
    exact ⟨u, rfl, ho.read, fun A l c h => Nat.le_trans HE.out.size (ho.fresh A l c h), HE.out.trans hx⟩
  · by_cases h4 : v = 4
    · subst h4
      go_enter Try.func29, Try.ntmps29
      go_wp2_with (first | (go_at_call 39; refine (rquad_any (p1, p2) (a1, a2) (b1, b2) tol _).mono ?_; rintro e w1 ⟨u, rfl, ho, hx⟩) | (go_at_call 40; refine (rcubic_any (p1, p2) (a1, a2) (b1, b2) (c1, c2) tol _).mono ?_; rintro e w1 ⟨u, rfl, ho, hx⟩))
      go_ret2
      exact ⟨u, rfl, ho.read, fun A l c h => Nat.le_trans HE.out.size (ho.fresh A l c h), HE.out.trans hx⟩
    · have b3 : (v == 3) = false := by simpa using h3
      have b4 : (v == 4) = false := by simpa using h4
      have H1 := zH (show segPts (p1, p2) ⟨v, (a1, a2), (b1, b2), (c1, c2)⟩ tol = [(a1, a2)] by unfold segPts; simp [h3, h4])
      have H2 := zH (show segErr (p1, p2) ⟨v, (a1, a2), (b1, b2), (c1, c2)⟩ tol = 0 by unfold segErr; simp [h3, h4])
      rw [H1.out, H2.out]
      clear h3 h4
      go_enter Try.func29, Try.ntmps29
      go_wp2_with fail
      go_ret2
      refine ⟨_, rfl, ?_, fun A l c h => ?_, HE.out.alloc _⟩
      · have h := pt_new ((w.alloc (.cells #[.int .i64 p1, .int .i64 p2] 33)).alloc (.cells #[.int .i64 v, .int .i64 a1, .int .i64 a2, .int .i64 b1, .int .i64 b2, .int .i64 c1, .int .i64 c2] 35)) a1 a2
        simpa using h
      · injection h with h1; injection h1 with h1; subst h1; simp; omega

end Go.Proofs.Ytjkddchkjkocbaa

namespace Go.Proofs.Ytjkddchkjkocbaa
open Go.RowKit

structure PlE where
  s : Value
  pts : List (Int × Int)
  cl : Bool
def plCells (L : List PlE) : List Value := L.flatMap fun e => [e.s, .bool e.cl]
def plOf (L : List PlE) : List (List (Int × Int) × Bool) := L.map fun e => (e.pts, e.cl)
theorem plCells_snoc (L : List PlE) (e : PlE) : plCells (L ++ [e]) = plCells L ++ [e.s, .bool e.cl] := by simp [plCells]
theorem plCells_length (L : List PlE) : (plCells L).length = L.length * 2 := by
  induction L with
  | nil => rfl
  | cons x xs ih => simp only [plCells, List.flatMap_cons, List.length_append, List.length_cons, List.length_nil] at ih ⊢; omega
theorem plOf_snoc (L : List PlE) (e : PlE) : plOf (L ++ [e]) = plOf L ++ [(e.pts, e.cl)] := by simp [plOf]
structure Plys (w : World) (base : Nat) (v : Value) (L : List PlE) : Prop where
  row : RowN w base 31 2 v L.length (plCells L)
  el : ∀ e, e ∈ L → RowN w base 33 2 e.s e.pts.length (ptCells e.pts)
  own : ∀ e, e ∈ L → ∃ b, e.s.ownBlock = some b ∧ v.ownBlock ≠ some b
  apart : L.Pairwise (fun a b => a.s.ownBlock ≠ b.s.ownBlock)
  base : base ≤ w.heap.size
theorem Plys.ext {w w' : World} {base : Nat} {v : Value} {L : List PlE} (h : Plys w base v L) (x : Ext w w') : Plys w' base v L :=
  ⟨h.row.ext x, fun e he => (h.el e he).ext x, h.own, h.apart, Nat.le_trans h.base x.size⟩
theorem noUL_pl (s : Value) (b : Bool) (h : ∃ k, s.ownBlock = some k) : NoUL [s, .bool b] := by
  intro x hx k
  simp at hx
  rcases hx with rfl | rfl
  · intro e
    obtain ⟨j, hj⟩ := h
    rw [e] at hj
    simp [Value.ownBlock] at hj
  · simp
theorem one_own {s : Value} (h : ∃ k, s.ownBlock = some k) : s.oneCell' = true := by
  obtain ⟨k, hk⟩ := h
  cases s <;> first | rfl | (simp [Value.ownBlock] at hk)
theorem one_pl (s : Value) (b : Bool) (h : ∃ k, s.ownBlock = some k) : ∀ u ∈ [s, .bool b], u.oneCell' = true := by
  intro u hu
  simp at hu
  rcases hu with rfl | rfl
  · exact one_own h
  · rfl
theorem Plys.snoc {w wa w' : World} {base gx cap : Nat} {v : Value} {L : List PlE} {e : PlE} (h : Plys w base v L) (x : Ext w wa) (he : RowN wa base 33 2 e.s e.pts.length (ptCells e.pts)) (b : Nat) (hb : e.s.ownBlock = some b) (hbw : w.heap.size ≤ b)
    (h2 : RowN w' base 31 2 (.slice (some ⟨gx, 0, none⟩) (L.length + 1) cap) (L.length + 1) (plCells L ++ [e.s, .bool e.cl])) (h3 : wa.grownBy w' v.ownBlock) (hf : v.ownBlock = some gx ∨ wa.heap.size ≤ gx) :
    Plys w' base (.slice (some ⟨gx, 0, none⟩) (L.length + 1) cap) (L ++ [e]) := by
  have hbv : ∀ k, v.ownBlock = some k → k < w.heap.size := h.row.lt'
  have hbl : b < wa.heap.size := he.lt' b hb
  refine ⟨?_, ?_, ?_, ?_, ?_⟩
  · rw [plCells_snoc, List.length_append]; exact h2
  · intro q hq
    rcases List.mem_append.1 hq with hq | hq
    · refine ((h.el q hq).ext x).only (Only.of_grown h3) (fun k hk e2 => ?_)
      obtain ⟨c, h5, h6⟩ := h.own q hq
      rw [h5] at hk
      injection hk with hk
      subst hk
      exact h6 e2
    · simp at hq
      subst hq
      refine he.only (Only.of_grown h3) (fun k hk e2 => ?_)
      rw [hb] at hk
      injection hk with hk
      subst hk
      have := hbv _ e2
      omega
  · intro q hq
    rcases List.mem_append.1 hq with hq | hq
    · obtain ⟨c, h5, h6⟩ := h.own q hq
      refine ⟨c, h5, fun e2 => ?_⟩
      simp [Value.ownBlock] at e2
      subst e2
      rcases hf with hf | hf
      · exact h6 hf
      · have := (h.el q hq).lt' _ h5
        have := x.size
        omega
    · simp at hq
      subst hq
      refine ⟨b, hb, fun e2 => ?_⟩
      simp [Value.ownBlock] at e2
      subst e2
      rcases hf with hf | hf
      · have := hbv _ hf; omega
      · omega
  · rw [List.pairwise_append]
    refine ⟨h.apart, List.pairwise_singleton _ _, fun a ha c hc => ?_⟩
    simp at hc
    subst hc
    obtain ⟨k, h5, _⟩ := h.own a ha
    rw [h5, hb]
    intro e2
    injection e2 with e2
    have := (h.el a ha).lt' _ h5
    omega
  · exact Nat.le_trans h.base (Nat.le_trans x.size h3.size)
theorem Plys.last {w w' : World} {base gv cap b0 : Nat} {s s' : Value} {pts pts' : List (Int × Int)} {cl cl' : Bool} {L : List PlE} {rest : List Value} (h : Plys w base (.slice (some ⟨gv, 0, none⟩) (L.length + 1) cap) (L ++ [⟨s, pts, cl⟩]))
    (hs : s.ownBlock = some b0) (ho : Only (fun k => k = gv ∨ k = b0) w w') (hr : RowN w' base 33 2 s' pts'.length (ptCells pts')) (hs' : s'.ownBlock = some b0 ∨ ∃ k, s'.ownBlock = some k ∧ w.heap.size ≤ k)
    (hcap : L.length + 1 ≤ cap ∧ cap ≤ maxLen ∧ (plCells (L ++ [⟨s, pts, cl⟩])).length + rest.length = cap * 2) (hn : NoUL rest) (hb : Blk w' gv 31 (plCells (L ++ [⟨s', pts', cl'⟩]) ++ rest).toArray) :
    Plys w' base (.slice (some ⟨gv, 0, none⟩) (L.length + 1) cap) (L ++ [⟨s', pts', cl'⟩]) := by
  have hlast : (⟨s, pts, cl⟩ : PlE) ∈ L ++ [⟨s, pts, cl⟩] := by simp
  have hbg : gv ≠ b0 := by
    obtain ⟨c, h5, h6⟩ := h.own _ hlast
    rw [hs] at h5
    injection h5 with h5
    subst h5
    intro e
    exact h6 (by simp [Value.ownBlock, e])
  have hgw : gv < w.heap.size := h.row.lt' gv (by simp [Value.ownBlock])
  have hap := List.pairwise_append.1 h.apart
  have hk' : ∃ k, s'.ownBlock = some k := by rcases hs' with e | ⟨k, e, _⟩ <;> exact ⟨_, e⟩
  have hoth : ∀ e, e ∈ L → ∀ k, e.s.ownBlock = some k → k < w.heap.size ∧ k ≠ gv ∧ k ≠ b0 := by
    intro e he k hk
    refine ⟨(h.el e (by simp [he])).lt' k hk, ?_, ?_⟩
    · obtain ⟨c, h5, h6⟩ := h.own e (by simp [he])
      rw [h5] at hk
      injection hk with hk
      subst hk
      intro e2
      exact h6 (by simp [Value.ownBlock, e2])
    · intro e2
      subst e2
      exact hap.2.2 e he ⟨s, pts, cl⟩ (by simp) (hk.trans hs.symm)
  refine ⟨?_, ?_, ?_, ?_, ?_⟩
  · refine ⟨by rw [plCells_length], .inr ⟨gv, cap, rest, by rw [List.length_append]; rfl, ?_, hb, by rw [List.length_append]; exact hcap.1, hcap.2.1, ?_, ?_⟩⟩
    · exact h.row.block gv (by simp [Value.ownBlock])
    · rw [plCells_length, List.length_append]
      have := hcap.2.2
      rw [plCells_length, List.length_append] at this
      exact this
    · have h7 : NoUL (plCells (L ++ [⟨s, pts, cl⟩])) := by
        obtain ⟨_, ⟨e, _⟩ | ⟨g, c, r, _, _, _, _, _, _, hh⟩⟩ := h.row
        · cases e
        · exact hh.left
      rw [plCells_snoc] at h7 ⊢
      exact (h7.left.app (noUL_pl _ _ hk')).app hn
  · intro e he
    rcases List.mem_append.1 he with he | he
    · exact (h.el e (by simp [he])).only ho (fun k hk e2 => by obtain ⟨_, h8, h9⟩ := hoth e he k hk; exact e2.elim h8 h9)
    · simp at he
      subst he
      exact hr
  · intro e he
    rcases List.mem_append.1 he with he | he
    · exact h.own e (by simp [he])
    · simp at he
      subst he
      rcases hs' with e1 | ⟨k, e1, e2⟩
      · exact ⟨b0, e1, by simp [Value.ownBlock]; exact hbg⟩
      · exact ⟨k, e1, by simp [Value.ownBlock]; omega⟩
  · rw [List.pairwise_append]
    refine ⟨hap.1, List.pairwise_singleton _ _, fun a ha c hc => ?_⟩
    simp at hc
    subst hc
    obtain ⟨k, h5, _⟩ := h.own a (by simp [ha])
    obtain ⟨h8, _, h9⟩ := hoth a ha k h5
    rw [h5]
    rcases hs' with e1 | ⟨k2, e1, e2⟩
    · rw [e1]; intro e3; injection e3 with e3; exact h9 e3
    · rw [e1]; intro e3; injection e3 with e3; omega
  · exact Nat.le_trans h.base ho.size

theorem arr_cl (L : List PlE) (s : Value) (pts : List (Int × Int)) (cl cl' : Bool) (rest : List Value) : ((plCells (L ++ [⟨s, pts, cl⟩]) ++ rest).toArray).setIfInBounds (L.length * 2 + 1) (.bool cl') = (plCells (L ++ [⟨s, pts, cl'⟩]) ++ rest).toArray := by
  rw [plCells_snoc, plCells_snoc, List.setIfInBounds_toArray]
  congr 1
  have h := plCells_length L
  rw [List.append_assoc, List.append_assoc, List.set_append_right _ _ (by omega), show L.length * 2 + 1 - (plCells L).length = 1 by omega]
  rfl
theorem arr_s (L : List PlE) (s s' : Value) (pts pts' : List (Int × Int)) (cl : Bool) (rest : List Value) : ((plCells (L ++ [⟨s, pts, cl⟩]) ++ rest).toArray).setIfInBounds (L.length * 2) s' = (plCells (L ++ [⟨s', pts', cl⟩]) ++ rest).toArray := by
  rw [plCells_snoc, plCells_snoc, List.setIfInBounds_toArray]
  congr 1
  have h := plCells_length L
  rw [List.append_assoc, List.append_assoc, List.set_append_right _ _ (by omega), show L.length * 2 - (plCells L).length = 0 by omega]
  rfl
theorem arr_get (L : List PlE) (s : Value) (pts : List (Int × Int)) (cl : Bool) (rest : List Value) : ((plCells (L ++ [⟨s, pts, cl⟩]) ++ rest).toArray)[L.length * 2]? = some s ∧ ((plCells (L ++ [⟨s, pts, cl⟩]) ++ rest).toArray)[L.length * 2 + 1]? = some (.bool cl) := by
  have h := plCells_length L
  rw [plCells_snoc, List.append_assoc, List.getElem?_toArray, List.getElem?_toArray]
  constructor
  · rw [List.getElem?_append_right (by rw [h]; exact Nat.le_refl _), show L.length * 2 - (plCells L).length = 0 by omega]
    rfl
  · rw [List.getElem?_append_right (by rw [h]; omega), show L.length * 2 + 1 - (plCells L).length = 1 by omega]
    rfl
structure LastAt (w : World) (base : Nat) (L : List PlE) (pts : List (Int × Int)) (cl : Bool) (gv cap b0 caps : Nat) (rest rests : List Value) : Prop where
  bg : Blk w gv 31 (plCells (L ++ [⟨.slice (some ⟨b0, 0, none⟩) pts.length caps, pts, cl⟩]) ++ rest).toArray
  cap : L.length + 1 ≤ cap ∧ cap ≤ maxLen ∧ (plCells (L ++ [⟨.slice (some ⟨b0, 0, none⟩) pts.length caps, pts, cl⟩])).length + rest.length = cap * 2
  nr : NoUL rest
  bp : Blk w b0 33 (ptCells pts ++ rests).toArray
  caps : pts.length ≤ caps ∧ caps ≤ maxLen ∧ (ptCells pts).length + rests.length = caps * 2
  ns : NoUL rests
  ne : gv ≠ b0
  base : base ≤ b0
theorem LastAt.ext {w w' : World} {base : Nat} {L : List PlE} {pts : List (Int × Int)} {cl : Bool} {gv cap b0 caps : Nat} {rest rests : List Value} (h : LastAt w base L pts cl gv cap b0 caps rest rests) (x : Ext w w') : LastAt w' base L pts cl gv cap b0 caps rest rests :=
  ⟨h.bg.ext x, h.cap, h.nr, h.bp.ext x, h.caps, h.ns, h.ne, h.base⟩
theorem LastAt.cells {w : World} {base : Nat} {L : List PlE} {pts : List (Int × Int)} {cl : Bool} {gv cap b0 caps : Nat} {rest rests : List Value} (h : LastAt w base L pts cl gv cap b0 caps rest rests) (m : Nat) (hm : pts.length = m + 1) :
    w.cell? ⟨gv, L.length * 2, none⟩ = some (.slice (some ⟨b0, 0, none⟩) pts.length caps) ∧ w.cell? ⟨gv, L.length * 2 + 1, none⟩ = some (.bool cl) ∧ w.cell? ⟨b0, 0, none⟩ = some (.int .i64 (pts.headD (0, 0)).1) ∧ w.cell? ⟨b0, 1, none⟩ = some (.int .i64 (pts.headD (0, 0)).2) ∧
    w.cell? ⟨b0, m * 2, none⟩ = some (.int .i64 (pts.getLastD (0, 0)).1) ∧ w.cell? ⟨b0, m * 2 + 1, none⟩ = some (.int .i64 (pts.getLastD (0, 0)).2) := by
  obtain ⟨g1, g2⟩ := arr_get L (.slice (some ⟨b0, 0, none⟩) pts.length caps) pts cl rest
  have hb : ∀ j u, (ptCells pts)[j]? = some u → w.cell? ⟨b0, j, none⟩ = some u := by
    intro j u hu
    rw [h.bp.cell, List.getElem?_toArray, List.getElem?_append_left (List.getElem?_eq_some_iff.1 hu).1]
    exact hu
  have q0 := ptCells_get pts 0 (by omega)
  have qm := ptCells_get pts m (by omega)
  have e0 : pts.getD 0 (0, 0) = pts.headD (0, 0) := by cases pts with | nil => simp at hm | cons a t => rfl
  have em : pts.getD m (0, 0) = pts.getLastD (0, 0) := by rw [getLastD_get, hm]; rfl
  rw [e0] at q0
  rw [em] at qm
  exact ⟨by rw [h.bg.cell]; exact g1, by rw [h.bg.cell]; exact g2, hb _ _ q0.1, hb _ _ q0.2, hb _ _ qm.1, hb _ _ qm.2⟩
theorem LastAt.row {w : World} {base : Nat} {L : List PlE} {pts : List (Int × Int)} {cl : Bool} {gv cap b0 caps : Nat} {rest rests : List Value} (h : LastAt w base L pts cl gv cap b0 caps rest rests) : RowN w base 33 2 (.slice (some ⟨b0, 0, none⟩) pts.length caps) pts.length (ptCells pts) :=
  ⟨ptCells_length pts, .inr ⟨b0, caps, rests, rfl, h.base, h.bp, h.caps.1, h.caps.2.1, h.caps.2.2, (noUL_pts pts).app h.ns⟩⟩
theorem LastAt.closed {w : World} {base : Nat} {L : List PlE} {pts : List (Int × Int)} {cl : Bool} {gv cap b0 caps : Nat} {rest rests : List Value} (h : LastAt w base L pts cl gv cap b0 caps rest rests) : LastAt (w.setCell ⟨gv, L.length * 2 + 1, none⟩ (.bool true)) base L pts true gv cap b0 caps rest rests := by
  have h1 := h.bg.set_ (L.length * 2 + 1) (.bool true)
  rw [arr_cl] at h1
  refine ⟨h1, ⟨h.cap.1, h.cap.2.1, ?_⟩, h.nr, h.bp.far (Ne.symm h.ne) _, h.caps, h.ns, h.ne, h.base⟩
  have h2 := h.cap.2.2
  rw [plCells_length] at h2 ⊢
  simpa using h2
theorem LastAt.drop {w : World} {base m : Nat} {L : List PlE} {pts : List (Int × Int)} {cl : Bool} {gv cap b0 caps : Nat} {rest rests : List Value} (h : LastAt w base L pts cl gv cap b0 caps rest rests) (hm : pts.length = m + 1) :
    LastAt (w.setCell ⟨gv, L.length * 2, none⟩ (.slice (some ⟨b0, 0, none⟩) m caps)) base L pts.dropLast cl gv cap b0 caps rest ([.int .i64 (pts.getLastD (0, 0)).1, .int .i64 (pts.getLastD (0, 0)).2] ++ rests) := by
  have hl : pts.dropLast.length = m := by rw [List.length_dropLast]; omega
  have h1 := h.bg.set_ (L.length * 2) (.slice (some ⟨b0, 0, none⟩) m caps)
  rw [arr_s (pts' := pts.dropLast)] at h1
  have hne : pts ≠ [] := by intro e; rw [e] at hm; simp at hm
  have hc : ptCells pts = ptCells pts.dropLast ++ [.int .i64 (pts.getLastD (0, 0)).1, .int .i64 (pts.getLastD (0, 0)).2] := by
    have h2 := List.dropLast_concat_getLast hne
    have h3 : pts.getLastD (0, 0) = pts.getLast hne := by rw [List.getLastD_eq_getLast?, List.getLast?_eq_some_getLast hne]; rfl
    rw [h3, ← ptCells_snoc, h2]
  refine ⟨by rw [hl]; exact h1, ⟨h.cap.1, h.cap.2.1, ?_⟩, h.nr, ?_, ⟨by have := h.caps.1; omega, h.caps.2.1, ?_⟩, ?_, h.ne, h.base⟩
  · have h2 := h.cap.2.2
    rw [plCells_length] at h2 ⊢
    simpa using h2
  · rw [← List.append_assoc, ← hc]
    exact h.bp.far (Ne.symm h.ne) _
  · have h2 := h.caps.2.2
    rw [hc] at h2
    rw [List.length_append] at h2 ⊢
    omega
  · exact (noUL_pt _).app h.ns
theorem Plys.turn {w w' : World} {base : Nat} {L : List PlE} {pts pts' : List (Int × Int)} {cl cl' : Bool} {gv cap b0 caps : Nat} {rest rests : List Value} (h : Plys w base (.slice (some ⟨gv, 0, none⟩) (L.length + 1) cap) (L ++ [⟨.slice (some ⟨b0, 0, none⟩) pts.length caps, pts, cl⟩]))
    (k : LastAt w' base L pts' cl' gv cap b0 caps rest rests) (ho : Only (fun j => j = gv ∨ j = b0) w w') : Plys w' base (.slice (some ⟨gv, 0, none⟩) (L.length + 1) cap) (L ++ [⟨.slice (some ⟨b0, 0, none⟩) pts'.length caps, pts', cl'⟩]) := by
  refine h.last (rest := rest) (b0 := b0) rfl ho k.row (Or.inl rfl) ⟨k.cap.1, k.cap.2.1, ?_⟩ k.nr k.bg
  have h2 := k.cap.2.2
  rw [plCells_length] at h2 ⊢
  simpa using h2
theorem Plys.form {w : World} {base : Nat} {v s : Value} {L : List PlE} {pts : List (Int × Int)} {cl : Bool} (h : Plys w base v (L ++ [⟨s, pts, cl⟩])) :
    ∃ gv cap b0 caps rest rests, v = .slice (some ⟨gv, 0, none⟩) (L.length + 1) cap ∧ s = .slice (some ⟨b0, 0, none⟩) pts.length caps ∧ LastAt w base L pts cl gv cap b0 caps rest rests := by
  obtain ⟨c, h5, h6⟩ := h.own ⟨s, pts, cl⟩ (by simp)
  have hel : RowN w base 33 2 s pts.length (ptCells pts) := h.el ⟨s, pts, cl⟩ (by simp)
  replace h5 : s.ownBlock = some c := h5
  obtain ⟨_, ⟨rfl, _⟩ | ⟨b0, caps, rests, rfl, q1, q2, q3, q4, q5, q6⟩⟩ := hel
  · simp [Value.ownBlock] at h5
  · simp [Value.ownBlock] at h5
    subst h5
    obtain ⟨_, ⟨rfl, hz⟩ | ⟨gv, cap, rest, rfl, p1, p2, p3, p4, p5, p6⟩⟩ := h.row
    · simp at hz
    · rw [List.length_append] at p3
      refine ⟨gv, cap, b0, caps, rest, rests, by rw [List.length_append]; rfl, rfl, ⟨p2, ⟨p3, p4, p5⟩, p6.right, q2, ⟨q3, q4, q5⟩, q6.right, ?_, q1⟩⟩
      intro e
      exact h6 (by simp [Value.ownBlock, e])
def closeV (pts : List (Int × Int)) : List (Int × Int) := if 1 < pts.length ∧ pts.getLastD (0, 0) = pts.headD (0, 0) then pts.dropLast else pts
def pst1 (tol : Int) (st : Int × List (List (Int × Int) × Bool)) (s : Sg) : Int × List (List (Int × Int) × Bool) :=
  if st.1 ≠ 0 then st else
  if s.v = 1 then (0, st.2 ++ [([s.a], false)]) else
  let pl := st.2.getLastD ([], false)
  if s.v = 5 then (0, st.2.dropLast ++ [(closeV pl.1, true)]) else
  let er := segErr (pl.1.getLastD (0, 0)) s tol
  if er ≠ 0 then (er, []) else (0, st.2.dropLast ++ [(putV pl.1 (segPts (pl.1.getLastD (0, 0)) s tol), pl.2)])
def pathTo (tol : Int) (l : List Sg) (k : Nat) : Int × List (List (Int × Int) × Bool) := (l.take k).foldl (pst1 tol) (0, [])
theorem pathTo_succ {tol : Int} {l : List Sg} {k : Nat} (h : k < l.length) : pathTo tol l (k + 1) = pst1 tol (pathTo tol l k) (l.getD k sg0) := by
  unfold pathTo
  rw [List.take_succ_eq_append_getElem h, List.foldl_append]
  simp [List.getD, h]
end Go.Proofs.Ytjkddchkjkocbaa

namespace Go.Proofs.Ytjkddchkjkocbaa
open Go.RowKit
attribute [local go_sem ↓] Go.wp_at_zero Go.wp_at_succ run_eql_point run_neq_point run_max_ii run_min_ii

theorem infoPl : (Try.prog.info? 31).map (fun i => (i.zero, i.size, i.bytes)) = some (some (.agg #[.slice none 0 0, .bool false]), 2, 32) := by kernel_rfl
theorem noUL_zpl : NoUL (Value.agg #[.slice none 0 0, .bool false]).cells.toList := by intro x hx k; simp [Value.cells] at hx; rcases hx with rfl | rfl <;> simp
structure PathSt (w wr : World) (base : Nat) (tol : Int) (l : List Sg) (k : Nat) (v : Value) (L : List PlE) : Prop where
  says : pathTo tol l k = (0, plOf L)
  hsome : 0 < k → L ≠ []
  pts : ∀ e, e ∈ L → e.pts ≠ [] ∧ e.pts.length ≤ 1 + 64 * k
  len : L.length ≤ k
  pl : Plys wr base v L
  x : Ext w wr
theorem PathSt.first {w wr : World} {base : Nat} {tol : Int} {l : List Sg} {k : Nat} {v : Value} {L : List PlE} {s : Sg} (h : PathSt w wr base tol l k v L) (hv : s.v = 1) (hk : k < l.length) (hg : l.getD k sg0 = s) :
    pathTo tol l (k + 1) = (0, plOf L ++ [([s.a], false)]) := by
  rw [pathTo_succ hk, hg, h.says]
  unfold pst1
  simp [hv]
theorem plOf_last (L : List PlE) (e : PlE) : (plOf (L ++ [e])).getLastD ([], false) = (e.pts, e.cl) ∧ (plOf (L ++ [e])).dropLast = plOf L := by rw [plOf_snoc]; simp
theorem step_close {tol : Int} {L : List PlE} {e : PlE} {s : Sg} (hv : s.v = 5) : pst1 tol (0, plOf (L ++ [e])) s = (0, plOf L ++ [(closeV e.pts, true)]) := by
  unfold pst1
  simp only [(plOf_last L e).1, (plOf_last L e).2]
  rw [if_neg (by simp), if_neg (by rw [hv]; decide), if_pos hv]
theorem step_err {tol : Int} {L : List PlE} {e : PlE} {s : Sg} (h1 : s.v ≠ 1) (h5 : s.v ≠ 5) (he : segErr (e.pts.getLastD (0, 0)) s tol ≠ 0) : pst1 tol (0, plOf (L ++ [e])) s = (segErr (e.pts.getLastD (0, 0)) s tol, []) := by
  unfold pst1
  simp only [(plOf_last L e).1, (plOf_last L e).2]
  rw [if_neg (by simp), if_neg h1, if_neg h5, if_pos he]
theorem step_more {tol : Int} {L : List PlE} {e : PlE} {s : Sg} (h1 : s.v ≠ 1) (h5 : s.v ≠ 5) (he : segErr (e.pts.getLastD (0, 0)) s tol = 0) : pst1 tol (0, plOf (L ++ [e])) s = (0, plOf L ++ [(putV e.pts (segPts (e.pts.getLastD (0, 0)) s tol), e.cl)]) := by
  unfold pst1
  simp only [(plOf_last L e).1, (plOf_last L e).2]
  rw [if_neg (by simp), if_neg h1, if_neg h5, if_neg (fun h => h he)]
theorem err_end {tol : Int} {l : List Sg} {k : Nat} {er : Int} (hk : k ≤ l.length) (h : pathTo tol l k = (er, [])) (he : er ≠ 0) : pathTo tol l l.length = (er, []) := by
  have : ∀ j, k + j ≤ l.length → pathTo tol l (k + j) = (er, []) := by
    intro j
    induction j with
    | zero => intro _; exact h
    | succ j ih =>
      intro hj
      have h2 := ih (by omega)
      rw [show k + (j + 1) = k + j + 1 by omega, pathTo_succ (by omega), h2]
      unfold pst1
      simp [he]
  have h3 := this (l.length - k) (by omega)
  rwa [show k + (l.length - k) = l.length by omega] at h3
theorem first_one {l : List Sg} {k : Nat} {s : Sg} (h : PV l) (hk : k < l.length) (hg : l.getD k sg0 = s) (h1 : s.v ≠ 1) : 0 < k := by
  rcases Nat.eq_zero_or_pos k with rfl | hp
  · exfalso
    have h2 := h.2 0 hk
    rw [hg, lastV_zero] at h2
    unfold okSg standsV at h2
    simp [h1] at h2
  · exact hp
theorem plCells_get (L : List PlE) (j : Nat) (e : PlE) (h : L[j]? = some e) : (plCells L)[j * 2]? = some e.s ∧ (plCells L)[j * 2 + 1]? = some (.bool e.cl) := by
  induction L generalizing j with
  | nil => simp at h
  | cons x xs ih =>
    cases j with
    | zero => simp at h; subst h; exact ⟨rfl, rfl⟩
    | succ j =>
      obtain ⟨h1, h2⟩ := ih j (by simpa using h)
      refine ⟨?_, ?_⟩
      · rw [show (j + 1) * 2 = j * 2 + 2 by omega]; exact h1
      · rw [show (j + 1) * 2 + 1 = j * 2 + 1 + 2 by omega]; exact h2
theorem RowN.slice {w : World} {base : Nat} {e : TypeId} {size : Nat} {v : Value} {n : Nat} {xs : List Value} (h : RowN w base e size v n xs) : ∃ A c, v = .slice A n c := by
  obtain ⟨_, ⟨rfl, hz⟩ | ⟨gv, cap, rest, rfl, _⟩⟩ := h
  · exact ⟨none, 0, by rw [hz]⟩
  · exact ⟨_, cap, rfl⟩
theorem last_cut {L : List PlE} (h : L ≠ []) : ∃ L0 e, L = L0 ++ [e] := ⟨L.dropLast, L.getLast h, (List.dropLast_concat_getLast h).symm⟩

def total (ps : List (List (Int × Int) × Bool)) : Nat := ps.foldl (fun n p => n + p.1.length) 0
def PathOut (tol : Int) (l : List Sg) (er : Int) (ps : List (List (Int × Int) × Bool)) : Prop :=
  (¬ PV l ∧ er = 10 ∧ ps = []) ∨ (PV l ∧ (tol < 1 ∨ 256 < tol) ∧ er = 2 ∧ ps = []) ∨ (PV l ∧ ¬ (tol < 1 ∨ 256 < tol) ∧ (pathTo tol l l.length).1 ≠ 0 ∧ er = (pathTo tol l l.length).1 ∧ ps = []) ∨
  (PV l ∧ ¬ (tol < 1 ∨ 256 < tol) ∧ (pathTo tol l l.length).1 = 0 ∧ 4096 < total (pathTo tol l l.length).2 ∧ er = 5 ∧ ps = []) ∨ (PV l ∧ ¬ (tol < 1 ∨ 256 < tol) ∧ (pathTo tol l l.length).1 = 0 ∧ ¬ 4096 < total (pathTo tol l l.length).2 ∧ er = 0 ∧ ps = (pathTo tol l l.length).2)
theorem PathOut.one {tol : Int} {l : List Sg} {er er' : Int} {ps ps' : List (List (Int × Int) × Bool)} (h : PathOut tol l er ps) (k : PathOut tol l er' ps') : er = er' ∧ ps = ps' := by
  unfold PathOut at h k
  rcases h with ⟨h1, rfl, rfl⟩ | ⟨h1, h2, rfl, rfl⟩ | ⟨h1, h2, h3, rfl, rfl⟩ | ⟨h1, h2, h3, h4, rfl, rfl⟩ | ⟨h1, h2, h3, h4, rfl, rfl⟩ <;>
    rcases k with ⟨k1, rfl, rfl⟩ | ⟨k1, k2, rfl, rfl⟩ | ⟨k1, k2, k3, rfl, rfl⟩ | ⟨k1, k2, k3, k4, rfl, rfl⟩ | ⟨k1, k2, k3, k4, rfl, rfl⟩ <;>
    first | exact ⟨rfl, rfl⟩ | exact absurd k1 h1 | exact absurd h1 k1 | exact absurd k2 h2 | exact absurd h2 k2 | exact absurd k3 h3 | exact absurd h3 k3 | exact absurd k4 h4 | exact absurd h4 k4
def PathSays (tol : Int) (l : List Sg) (w : World) (e : Ending) (w' : World) : Prop := ∃ (v : Value) (L : List PlE) (er : Int), e = .returned (.tuple #[v, .int .i64 er]) ∧ PathOut tol l er (plOf L) ∧ Plys w' w.heap.size v L ∧ Ext w w'
theorem Plys.nil (w : World) (base : Nat) (h : base ≤ w.heap.size) : Plys w base (.slice none 0 0) [] :=
  ⟨RowN.nil _ _ _ _, fun e he => by simp at he, fun e he => by simp at he, List.Pairwise.nil, h⟩
theorem Valid_t {u : Value} {l : List Sg} {w : World} (hu : SegsV w u l) (hn : l.length ≤ 300) (hp : PV l) : Calls Try.prog 12 #[u] w fun e w' => e = .returned (.bool true) ∧ Ext w w' := by
  refine (pathValid_any u l w hu hn).mono ?_
  rintro e w' ⟨b, rfl, hb, hx⟩
  exact ⟨by rw [hb.2 hp], hx⟩
theorem Valid_f {u : Value} {l : List Sg} {w : World} (hu : SegsV w u l) (hn : l.length ≤ 300) (hp : ¬ PV l) : Calls Try.prog 12 #[u] w fun e w' => e = .returned (.bool false) ∧ Ext w w' := by
  refine (pathValid_any u l w hu hn).mono ?_
  rintro e w' ⟨b, rfl, hb, hx⟩
  refine ⟨?_, hx⟩
  cases b with
  | false => rfl
  | true => exact absurd (hb.1 rfl) hp
theorem PathSt.next {w w' : World} {base : Nat} {tol : Int} {l : List Sg} {k : Nat} {v' : Value} {L0 : List PlE} {e : PlE} (hL : ∀ q, q ∈ L0 → q.pts ≠ [] ∧ q.pts.length ≤ 1 + 64 * k) (hl : L0.length ≤ k) (says : pathTo tol l (k + 1) = (0, plOf (L0 ++ [e]))) (hne : e.pts ≠ []) (hle : e.pts.length ≤ 1 + 64 * (k + 1)) (pl : Plys w' base v' (L0 ++ [e])) (x : Ext w w') : PathSt w w' base tol l (k + 1) v' (L0 ++ [e]) := by
  refine ⟨says, fun _ => by simp, fun q hq => ?_, by rw [List.length_append]; simp; omega, pl, x⟩
  rcases List.mem_append.1 hq with hq | hq
  · exact ⟨(hL q hq).1, by have := (hL q hq).2; omega⟩
  · simp at hq
    subst hq
    exact ⟨hne, hle⟩
theorem PathSt.turn {w wr w' : World} {tol : Int} {l : List Sg} {k : Nat} {L0 : List PlE} {pts pts' : List (Int × Int)} {cl cl' : Bool} {gv cap b0 caps : Nat} {rest rests : List Value} (h : PathSt w wr w.heap.size tol l k (.slice (some ⟨gv, 0, none⟩) (L0.length + 1) cap) (L0 ++ [⟨.slice (some ⟨b0, 0, none⟩) pts.length caps, pts, cl⟩]))
    (k2 : LastAt w' w.heap.size L0 pts' cl' gv cap b0 caps rest rests) (ho : Only (fun j => j = gv ∨ j = b0) wr w') (says : pathTo tol l (k + 1) = (0, plOf L0 ++ [(pts', cl')])) (hne : pts' ≠ []) (hle : pts'.length ≤ 1 + 64 * (k + 1)) :
    PathSt w w' w.heap.size tol l (k + 1) (.slice (some ⟨gv, 0, none⟩) (L0.length + 1) cap) (L0 ++ [⟨.slice (some ⟨b0, 0, none⟩) pts'.length caps, pts', cl'⟩]) := by
  have hgv := h.pl.row.block gv (by simp [Value.ownBlock])
  refine PathSt.next (fun q hq => h.pts q (by simp [hq])) (by have := h.len; rw [List.length_append] at this; omega) (by rw [plOf_snoc]; exact says) hne hle (h.pl.turn k2 ho) (ho.ext h.x (fun i hi e => ?_))
  have := k2.base
  rcases e with rfl | rfl <;> omega
theorem closeV_one {pts : List (Int × Int)} (h : pts.length = 0 + 1) : closeV pts = pts := by unfold closeV; rw [if_neg]; omega
theorem closeV_ne {pts : List (Int × Int)} (h : pts.getLastD (0, 0) ≠ pts.headD (0, 0)) : closeV pts = pts := by unfold closeV; rw [if_neg (fun e => h e.2)]
theorem closeV_eq {pts : List (Int × Int)} {m : Nat} (h : pts.getLastD (0, 0) = pts.headD (0, 0)) (hm : pts.length = m + 1) (h0 : m ≠ 0) : closeV pts = pts.dropLast := by unfold closeV; rw [if_pos ⟨by omega, h⟩]
theorem says_close {w wr : World} {base : Nat} {tol : Int} {l : List Sg} {k : Nat} {v : Value} {L0 : List PlE} {e : PlE} {s : Sg} {ps : List (Int × Int)} (h : PathSt w wr base tol l k v (L0 ++ [e])) (hv : s.v = 5) (hk : k < l.length) (hg : l.getD k sg0 = s) (hc : closeV e.pts = ps) : pathTo tol l (k + 1) = (0, plOf L0 ++ [(ps, true)]) := by
  rw [pathTo_succ hk, hg, h.says, step_close hv, hc]
theorem RowN.made' {w : World} {X base : Nat} {e : TypeId} {xs : List Value} {n size : Nat} (hb : Blk w X e xs.toArray) (hg : base ≤ X) (hl : xs.length = n * size) (hn : NoUL xs) (hm : n ≤ maxLen) : RowN w base e size (.slice (some ⟨X, 0, none⟩) n n) n xs :=
  ⟨hl, .inr ⟨X, n, [], rfl, hg, by rw [List.append_nil]; exact hb, Nat.le_refl _, hm, by simpa using hl, by rw [List.append_nil]; exact hn⟩⟩
theorem says_more {w wr : World} {base : Nat} {tol : Int} {l : List Sg} {k : Nat} {v : Value} {L0 : List PlE} {e : PlE} {s : Sg} {sp : List (Int × Int)} {yl : Int × Int} (h : PathSt w wr base tol l k v (L0 ++ [e])) (h1 : s.v ≠ 1) (h5 : s.v ≠ 5) (hk : k < l.length) (hg : l.getD k sg0 = s)
    (hy : e.pts.getLastD (0, 0) = yl) (he : segErr yl s tol = 0) (hsp : sp = segPts yl s tol) : pathTo tol l (k + 1) = (0, plOf L0 ++ [(putV e.pts sp, e.cl)]) := by
  subst hsp
  subst hy
  rw [pathTo_succ hk, hg, h.says]
  exact step_more h1 h5 he
theorem out_err {w wr : World} {base : Nat} {tol er : Int} {l : List Sg} {k : Nat} {v : Value} {L0 : List PlE} {e : PlE} {s : Sg} {yl : Int × Int} (h : PathSt w wr base tol l k v (L0 ++ [e])) (hp : PV l) (ht : ¬ (tol < 1 ∨ 256 < tol)) (h1 : s.v ≠ 1) (h5 : s.v ≠ 5) (hk : k < l.length) (hg : l.getD k sg0 = s)
    (hy : e.pts.getLastD (0, 0) = yl) (hse : er = segErr yl s tol) (he : er ≠ 0) : PathOut tol l er (plOf []) := by
  subst hse
  subst hy
  have h2 : pathTo tol l (k + 1) = (segErr (e.pts.getLastD (0, 0)) s tol, []) := by
    rw [pathTo_succ hk, hg, h.says]
    exact step_err h1 h5 he
  have h3 := err_end hk h2 he
  refine Or.inr (Or.inr (Or.inl ⟨hp, ht, ?_, ?_, rfl⟩))
  · rw [h3]; exact he
  · rw [h3]
theorem out_big {tol : Int} {l : List Sg} {L : List PlE} {N : Nat} (hp : PV l) (ht : ¬ (tol < 1 ∨ 256 < tol)) (h : pathTo tol l l.length = (0, plOf L)) (hN : total (plOf L) = N) (hb : 4096 < N) : PathOut tol l 5 (plOf []) := by
  refine Or.inr (Or.inr (Or.inr (Or.inl ⟨hp, ht, ?_, ?_, rfl, rfl⟩)))
  · rw [h]
  · rw [h]; show 4096 < total (plOf L); omega
theorem out_ok {tol : Int} {l : List Sg} {L : List PlE} {N : Nat} (hp : PV l) (ht : ¬ (tol < 1 ∨ 256 < tol)) (h : pathTo tol l l.length = (0, plOf L)) (hN : total (plOf L) = N) (hb : ¬ 4096 < N) : PathOut tol l 0 (plOf L) := by
  refine Or.inr (Or.inr (Or.inr (Or.inr ⟨hp, ht, ?_, ?_, rfl, ?_⟩)))
  · rw [h]
  · rw [h]; show ¬ 4096 < total (plOf L); omega
  · rw [h]
theorem PathSt.put {w wr wc w3 : World} {tol : Int} {l : List Sg} {k : Nat} {L0 : List PlE} {pts sp : List (Int × Int)} {cl : Bool} {gv cap b0 caps : Nat} {v' : Value} {rest rests : List Value} (h : PathSt w wr w.heap.size tol l k (.slice (some ⟨gv, 0, none⟩) (L0.length + 1) cap) (L0 ++ [⟨.slice (some ⟨b0, 0, none⟩) pts.length caps, pts, cl⟩]))
    (hl : LastAt wr w.heap.size L0 pts cl gv cap b0 caps rest rests) (hx : Ext wr wc) (hp : PutSt wc w3 w.heap.size gv (L0.length * 2) b0 (plCells (L0 ++ [⟨.slice (some ⟨b0, 0, none⟩) pts.length caps, pts, cl⟩]) ++ rest).toArray v' (putV pts sp)) (says : pathTo tol l (k + 1) = (0, plOf L0 ++ [(putV pts sp, cl)])) (hs : sp.length ≤ 64) :
    PathSt w w3 w.heap.size tol l (k + 1) (.slice (some ⟨gv, 0, none⟩) (L0.length + 1) cap) (L0 ++ [⟨v', putV pts sp, cl⟩]) := by
  have hgv := h.pl.row.block gv (by simp [Value.ownBlock])
  have hq := h.pts ⟨.slice (some ⟨b0, 0, none⟩) pts.length caps, pts, cl⟩ (by simp)
  have hq1 : pts ≠ [] := hq.1
  have hq2 : pts.length ≤ 1 + 64 * k := hq.2
  refine PathSt.next (fun q hq => h.pts q (by simp [hq])) (by have := h.len; rw [List.length_append] at this; omega) (by rw [plOf_snoc]; exact says) (putV_ne hq1) (by have := (putV_len pts sp).2; show (putV pts sp).length ≤ _; omega) ?_ (hp.only.ext (h.x.trans hx) (fun i hi e => ?_))
  · refine (h.pl.ext hx).last (rest := rest) (b0 := b0) rfl hp.only hp.row hp.own hl.cap hl.nr ?_
    have h5 := hp.blk
    rw [arr_s (pts' := putV pts sp)] at h5
    exact h5
  · have := hl.base
    rcases e with rfl | rfl <;> omega
theorem Plys.read {w : World} {base : Nat} {v : Value} {L : List PlE} (h : Plys w base v L) :
    ∃ A c, v = .slice A L.length c ∧ (L ≠ [] → ∃ g, A = some ⟨g, 0, none⟩ ∧ ∀ j, j < L.length → ∃ As cs, w.cell? ⟨g, j * 2, none⟩ = some (.slice As (L.getD j ⟨.slice none 0 0, [], false⟩).pts.length cs) ∧ w.cell? ⟨g, j * 2 + 1, none⟩ = some (.bool (L.getD j ⟨.slice none 0 0, [], false⟩).cl)) := by
  obtain ⟨_, ⟨rfl, hz⟩ | ⟨gv, cap, rest, rfl, p1, p2, p3, p4, p5, p6⟩⟩ := h.row
  · exact ⟨none, 0, by rw [hz], fun hne => absurd (List.eq_nil_of_length_eq_zero hz) hne⟩
  · refine ⟨_, cap, rfl, fun _ => ⟨gv, rfl, fun j hj => ?_⟩⟩
    obtain ⟨e, he⟩ : ∃ e, L[j]? = some e := ⟨L[j], List.getElem?_eq_getElem hj⟩
    have hd : L.getD j ⟨.slice none 0 0, [], false⟩ = e := by rw [List.getD_eq_getElem?_getD, he]; rfl
    obtain ⟨q1, q2⟩ := plCells_get L j e he
    have hm : e ∈ L := List.mem_of_getElem? he
    have c1 := (p2.cell (j * 2)).trans (show _ = some e.s by rw [List.getElem?_toArray, List.getElem?_append_left (List.getElem?_eq_some_iff.1 q1).1]; exact q1)
    have c2 := (p2.cell (j * 2 + 1)).trans (show _ = some (.bool e.cl) by rw [List.getElem?_toArray, List.getElem?_append_left (List.getElem?_eq_some_iff.1 q2).1]; exact q2)
    rw [hd]
    obtain ⟨As, cs, hs⟩ := RowN.slice (h.el e hm)
    rw [hs] at c1
    exact ⟨As, cs, c1, c2⟩
theorem foldl_len (ps : List (List (Int × Int) × Bool)) (n : Nat) : ps.foldl (fun n p => n + p.1.length) n = n + total ps := by
  unfold total
  induction ps generalizing n with
  | nil => rfl
  | cons p ps ih => rw [List.foldl_cons, List.foldl_cons, ih, ih (0 + p.1.length)]; omega
theorem total_snoc (ps : List (List (Int × Int) × Bool)) (p : List (Int × Int) × Bool) : total (ps ++ [p]) = total ps + p.1.length := by unfold total; rw [List.foldl_append]; rfl
theorem total_succ {L : List PlE} {j : Nat} (h : j < L.length) : total (plOf (L.take (j + 1))) = total (plOf (L.take j)) + (L.getD j ⟨.slice none 0 0, [], false⟩).pts.length := by
  rw [List.take_succ_eq_append_getElem h, plOf_snoc, total_snoc]
  simp [List.getD, h]
theorem total_le {L : List PlE} (h : ∀ e, e ∈ L → e.pts.length ≤ 20000) : ∀ j, total (plOf (L.take j)) ≤ 20000 * j := by
  intro j
  induction j with
  | zero => simp [plOf, total]
  | succ j ih =>
    by_cases hj : j < L.length
    · rw [total_succ hj]
      have hd : L.getD j ⟨.slice none 0 0, [], false⟩ = L[j] := by simp [List.getD, hj]
      have := h _ (List.getElem_mem hj)
      rw [hd]
      omega
    · rw [List.take_of_length_le (by omega)] at ih ⊢
      omega
set_option maxRecDepth 20000 in
set_option maxHeartbeats 8000000 in
theorem path_any (u : Value) (l : List Sg) (tol : Int) (w : World) (hu : SegsV w u l) (hn : l.length ≤ 300) :
  Calls Try.prog 5 #[u, .int .i64 tol] w (PathSays tol l w) := by
 by_cases hp : PV l
 ·have HV := zH (Valid_t hu hn hp)
  by_cases ht : tol < 1
  ·have HO := zH (show PathOut tol l 2 (plOf []) from Or.inr (Or.inl ⟨hp, Or.inl ht, rfl, rfl⟩))
   clear hp hu
   go_enter Try.func5, Try.ntmps5
   go_wp2_with (first | (go_at_call 12; refine HV.out.mono ?_; rintro e w1 ⟨rfl, hx⟩; have HX := zH hx; clear hx))
   go_ret2
   exact ⟨.slice none 0 0, [], 2, rfl, HO.out, Plys.nil _ _ HX.out.size, HX.out⟩
  ·by_cases ht2 : 256 < tol
   ·have HO := zH (show PathOut tol l 2 (plOf []) from Or.inr (Or.inl ⟨hp, Or.inr ht2, rfl, rfl⟩))
    clear hp hu
    go_enter Try.func5, Try.ntmps5
    go_wp2_with (first | (go_at_call 12; refine HV.out.mono ?_; rintro e w1 ⟨rfl, hx⟩; have HX := zH hx; clear hx))
    go_ret2
    exact ⟨.slice none 0 0, [], 2, rfl, HO.out, Plys.nil _ _ HX.out.size, HX.out⟩
   ·have HP := zH hp
    have HT := zH (show ¬ (tol < 1 ∨ 256 < tol) from fun h => h.elim ht ht2)
    obtain ⟨A, cu, rfl, hA⟩ := hu
    have HA := zH hA
    have HN := zH hn
    obtain ⟨i0, hi, hz0, hz1, hz2⟩ := info_parts infoPl
    have HI := zH (And.intro hi (And.intro hz0 (And.intro hz1 hz2)))
    clear hi hz0 hz1 hz2 hA hp hn
    go_enter Try.func5, Try.ntmps5
    go_wp2_with (first | (go_at_call 12; refine HV.out.mono ?_; rintro e w1 ⟨rfl, hx⟩; have HX := zH hx; clear hx))
    go_loopg [6, 29] l.length (fun n out i wr => ∃ (k : Nat) (L : List PlE), k ≤ l.length ∧ n = l.length - k ∧ i = .int .i64 k ∧ PathSt w wr w.heap.size tol l k out L)
    case atStart => exact ⟨0, [], Nat.zero_le _, rfl, rfl, ⟨rfl, fun h => absurd h (Nat.lt_irrefl _), fun e he => by simp at he, Nat.le_refl _, Plys.nil _ _ HX.out.size, HX.out⟩⟩
    case round =>
     obtain ⟨k, L, hk, rfl, rfl, hst⟩ := hrel
     have HST := zH hst
     clear hst ht ht2
     by_cases hlt : k < l.length
     ·obtain ⟨gu, ou, rfl, hsg⟩ := HA.out (by rintro rfl; simp at hlt)
      obtain ⟨v, a1, a2, b1, b2, c1, c2, hg, h0, h1, h2, h3, h4, h5, h6⟩ := (hsg.ext HST.out.x) k hlt
      have HG := zH hg
      have HLT := zH hlt
      clear hsg hg
      have hk3 : k ≤ 300 := by have := HN.out; omega
      have hlt2 : (k : Int) < (l.length : Int) := by omega
      go_upto_region 9 with fail
      have hW := Blk.new wr 35 #[.int .i64 v, .int .i64 a1, .int .i64 a2, .int .i64 b1, .int .i64 b2, .int .i64 c1, .int .i64 c2]
      have hXW : Ext wr (wr.alloc (.cells #[.int .i64 v, .int .i64 a1, .int .i64 a2, .int .i64 b1, .int .i64 b2, .int .i64 c1, .int .i64 c2] 35)) := (Ext.refl _).alloc _
      have hHS : w.heap.size ≤ wr.heap.size := HST.out.x.size
      generalize wr.alloc (.cells #[.int .i64 v, .int .i64 a1, .int .i64 a2, .int .i64 b1, .int .i64 b2, .int .i64 c1, .int .i64 c2] 35) = wa at *
      generalize wr.heap.size = X8 at *
      have HW := zH hW
      have HXW := zH hXW
      have HHS := zH hHS
      clear hW hXW hHS h0 h1 h2 h3 h4 h5 h6
      have s0 := HW.out.cell 0
      have s1 := HW.out.cell 1
      have s2 := HW.out.cell 2
      have s3 := HW.out.cell 3
      have s4 := HW.out.cell 4
      have s5 := HW.out.cell 5
      have s6 := HW.out.cell 6
      simp at s0 s1 s2 s3 s4 s5 s6
      by_cases hv1 : v = 1
      ·subst hv1
       have hsw := (HST.out.first (s := ⟨1, (a1, a2), (b1, b2), (c1, c2)⟩) rfl HLT.out HG.out)
       have HSW := zH hsw
       clear hsw
       go_upto_region 10 with fail
       refine wp_region_lit ?_
       refine pV (w' := wa) ?_
       (try simp only [Act.put, zA, zB, zC])
       refine pV (w' := wa) ?_
       (try simp only [Act.put, zA, zB, zC])
       refine mv_val (v := (.agg #[.int .i64 a1, .int .i64 a2])) (w' := wa) (by rfl) (by go_simp) ?_
       (try simp only [Act.put, zA, zB, zC])
       refine mv_val (v := (.slice (some ⟨wa.heap.size, 0, none⟩) 1 1)) (w' := (wa.alloc (.cells #[.int .i64 a1, .int .i64 a2] 33))) (by rfl) (by go_simp) ?_
       (try simp only [Act.put, zA, zB, zC])
       refine mv_val (v := (.agg #[(.slice (some ⟨wa.heap.size, 0, none⟩) 1 1), .bool false])) (w' := (wa.alloc (.cells #[.int .i64 a1, .int .i64 a2] 33))) (by rfl) (by go_simp) ?_
       (try simp only [Act.put, zA, zB, zC])
       refine mv_val (v := (.slice (some ⟨(wa.alloc (.cells #[.int .i64 a1, .int .i64 a2] 33)).heap.size, 0, none⟩) 1 1)) (w' := ((wa.alloc (.cells #[.int .i64 a1, .int .i64 a2] 33)).alloc (.cells #[(.slice (some ⟨wa.heap.size, 0, none⟩) 1 1), .bool false] 31))) (by rfl) (by go_simp) ?_
       (try simp only [Act.put, zA, zB, zC])
       have hx2 : Ext wa ((wa.alloc (.cells #[.int .i64 a1, .int .i64 a2] 33)).alloc (.cells #[(.slice (some ⟨wa.heap.size, 0, none⟩) 1 1), .bool false] 31)) := ((Ext.refl _).alloc _).alloc _
       have hpl := HST.out.pl.ext (HXW.out.trans hx2)
       have hrp : RowN ((wa.alloc (.cells #[.int .i64 a1, .int .i64 a2] 33)).alloc (.cells #[(.slice (some ⟨wa.heap.size, 0, none⟩) 1 1), .bool false] 31)) w.heap.size 33 2 (.slice (some ⟨wa.heap.size, 0, none⟩) 1 1) 1 (ptCells [(a1, a2)]) := RowN.made' (xs := ptCells [(a1, a2)]) (Blk.ext (Blk.new wa 33 #[.int .i64 a1, .int .i64 a2]) ((Ext.refl _).alloc _)) (Nat.le_trans HHS.out (Nat.le_trans (Nat.le_of_lt (HW.out.lt)) (Nat.le_refl _))) rfl (noUL_pts _) (by unfold maxLen; omega)
       refine wpList_if (by rfl) (wp_append_rowF _ _ 24 (by rfl) w.heap.size 31 i0 _ 2 32 Try.underlying24 HI.out.1 HI.out.2.1 HI.out.2.2.1 HI.out.2.2.2 rfl (by decide) noUL_zpl _ L.length (plCells L) (by rfl) hpl.row ⟨(wa.alloc (.cells #[.int .i64 a1, .int .i64 a2] 33)).heap.size, 0, none⟩ 1 1 [(.slice (some ⟨wa.heap.size, 0, none⟩) 1 1), .bool false] (by rfl) rfl (two_new _ _ _ _) (one_pl _ _ ⟨_, rfl⟩) (noUL_pl _ _ ⟨_, rfl⟩) (by decide) (by have := HST.out.len; unfold maxLen; omega) (by have := HST.out.len; omega) hpl.base ?_)
       intro gx cx w3 hf k2 k3 _k4
       (try simp only [Act.put, zA, zB, zC])
       have hsn := HST.out.pl.snoc (HXW.out.trans hx2) (e := ⟨(.slice (some ⟨wa.heap.size, 0, none⟩) 1 1), [(a1, a2)], false⟩) hrp wa.heap.size rfl HXW.out.size k2 k3 hf
       have hxx : Ext w w3 := ((HST.out.x.trans HXW.out).trans hx2).grown k3 (fun j hj => HST.out.pl.row.block j hj)
       have hnx := PathSt.next (e := ⟨(.slice (some ⟨wa.heap.size, 0, none⟩) 1 1), [(a1, a2)], false⟩) HST.out.pts HST.out.len (by rw [plOf_snoc]; exact HSW.out) (by simp) (by simp) hsn hxx
       have HNX := zH hnx
       clear hnx hsn hxx k2 k3 hf hrp hpl hx2 _k4
       refine mv_val (v := .slice (some ⟨gx, 0, none⟩) (L.length + 1) cx) (w' := w3) (by rfl) (by go_simp) ?_
       (try simp only [Act.put, zA, zB, zC])
       go_wp2_with fail
       go_roundg (l.length - (k + 1))
       case measure => have := HLT.out; omega
       case rel => exact ⟨k + 1, _, HLT.out, rfl, by go_num, HNX.out⟩
      ·have hk0 := first_one HP.out HLT.out HG.out hv1
       obtain ⟨L0, ⟨s, pts, cl⟩, rfl⟩ := last_cut (HST.out.hsome hk0)
       obtain ⟨gv, cap, b0, caps, rest, rests, rfl, rfl, hla⟩ := HST.out.pl.form
       have HLA := zH hla
       clear hla hk0
       have hpt := HST.out.pts ⟨.slice (some ⟨b0, 0, none⟩) pts.length caps, pts, cl⟩ (by simp)
       have hpn : pts ≠ [] := hpt.1
       have hpl2 : pts.length ≤ 1 + 64 * k := hpt.2
       obtain ⟨m2, hm2⟩ : ∃ m2, pts.length = m2 + 1 := ⟨pts.length - 1, by have := List.length_pos_iff.2 hpn; omega⟩
       have hlaw := HLA.out.ext HXW.out
       obtain ⟨cs, cb, p0, p1, z0, z1⟩ := hlaw.cells m2 hm2
       have fb := hlaw.bg.frozen (L0.length * 2 + 1)
       have fs := hlaw.bg.frozen (L0.length * 2)
       have HLW := zH hlaw
       have HM2 := zH hm2
       have HPT := zH (And.intro hpn hpl2)
       clear hlaw hpt hpn
       rw [hm2] at cs hpl2
       have hl0 : L0.length ≤ 300 := by have := HST.out.len; rw [List.length_append] at this; omega
       have q1 : ((L0.length + 1 : Nat) : Int) - 1 = (L0.length : Int) := by omega
       have q3 : (L0.length : Int) + 1 - 1 = (L0.length : Int) := by omega
       have q5 : (L0.length : Int) < (L0.length : Int) + 1 := by omega
       have q6 : (0 : Int) ≤ (L0.length : Int) := by omega
       have r1 : ((m2 + 1 : Nat) : Int) - 1 = (m2 : Int) := by omega
       have r3 : (m2 : Int) + 1 - 1 = (m2 : Int) := by omega
       have r5 : (m2 : Int) < (m2 : Int) + 1 := by omega
       have r6 : (0 : Int) ≤ (m2 : Int) := by omega
       have r7 : m2 ≤ 20000 := by omega
       have bv1 : (v == 1) = false := by simpa using hv1
       by_cases hv5 : v = 5
       ·subst hv5
        go_upto_region 18 with fail
        have hz := HLW.out.closed
        have hoz : Only (fun j => j = gv ∨ j = b0) wr (wa.setCell ⟨gv, L0.length * 2 + 1, none⟩ (.bool true)) := (Only.of_ext HXW.out).then (Only.of_own ((Own.refl gv wa).set_at (L0.length * 2 + 1) none (.bool true))) (fun i _ e => Or.inl e)
        clear cs cb p0 p1 z0 z1 fb fs s0 s1 s2 s3 s4 s5 s6
        generalize (wa.setCell ⟨gv, L0.length * 2 + 1, none⟩ (.bool true)) = wz at *
        have HZ := zH hz
        have HOZ := zH hoz
        clear hz hoz
        obtain ⟨cs, _, p0, p1, z0, z1⟩ := HZ.out.cells m2 HM2.out
        have fs := HZ.out.bg.frozen (L0.length * 2)
        rw [HM2.out] at cs
        have r8 : m2 + 1 ≤ caps := by have := HZ.out.caps.1; rw [HM2.out] at this; exact this
        have r9 : (m2 : Int) ≤ (caps : Int) := by omega
        have HSC := zH (fun (ps : List (Int × Int)) (hc : closeV pts = ps) => says_close (s := ⟨5, (a1, a2), (b1, b2), (c1, c2)⟩) HST.out rfl HLT.out HG.out hc)
        by_cases hm0 : m2 = 0
        ·subst hm0
         have hc0 := closeV_one HM2.out
         have HC0 := zH hc0
         clear hc0
         go_wp2_with fail
         go_quiet (fail)
         have HNX := zH (HST.out.turn (HZ.out.ext ((Ext.refl wz).drewN nq)) (HOZ.out.then (Only.of_ext (p := fun _ => False) ((Ext.refl wz).drewN nq)) (fun _ _ e => e.elim)) (HSC.out _ (HC0.out)) HPT.out.1 (by have := HPT.out.2; omega))
         go_wp2_with fail
         go_roundg (l.length - (k + 1))
         case measure => have := HLT.out; omega
         case rel => exact ⟨k + 1, _, HLT.out, rfl, by go_num, HNX.out⟩
        ·have g1 : (1 : Int) < (m2 : Int) + 1 := by omega
         have HM0 := zH hm0
         have HCE := zH (fun h => closeV_eq (pts := pts) h HM2.out HM0.out)
         have HCN := zH (fun h => closeV_ne (pts := pts) h)
         generalize hyl : pts.getLastD (0, 0) = yl at z0 z1 HCE HCN
         generalize hxf : pts.headD (0, 0) = xf at p0 p1 HCE HCN
         have HYL := zH hyl
         clear hyl hxf
         by_cases hx1 : yl.1 = xf.1
         ·by_cases hx2 : yl.2 = xf.2
          ·have be1 : (yl.1 == xf.1) = true := by simpa using hx1
           have be2 : (yl.2 == xf.2) = true := by simpa using hx2
           have HC := zH (HCE.out (Prod.ext hx1 hx2))
           clear hx1 hx2
           go_wp2_with fail
           go_quiet (fail)
           go_upto_region 21 with fail
           have hz2 := (HZ.out.ext ((Ext.refl wz).drewN nq)).drop HM2.out
           have HNX := zH (HST.out.turn hz2 ((HOZ.out.then (Only.of_ext (p := fun _ => False) ((Ext.refl wz).drewN nq)) (fun _ _ e => e.elim)).then (Only.of_own ((Own.refl gv (wz.drewN nq)).set_at (L0.length * 2) none (.slice (some ⟨b0, 0, none⟩) m2 caps))) (fun i _ e => Or.inl e)) (HSC.out _ HC.out) (by intro e; have := congrArg List.length e; rw [List.length_dropLast, HM2.out] at this; simp at this; exact HM0.out this) (by rw [List.length_dropLast]; have := HPT.out.2; omega))
           clear hz2
           go_wp2_with fail
           go_roundg (l.length - (k + 1))
           case measure => have := HLT.out; omega
           case rel => exact ⟨k + 1, _, HLT.out, rfl, by go_num, HNX.out⟩
          ·have be1 : (yl.1 == xf.1) = true := by simpa using hx1
           have be2 : (yl.2 == xf.2) = false := by simpa using hx2
           have HC := zH (HCN.out (fun e => hx2 (by rw [e])))
           clear hx1 hx2
           go_wp2_with fail
           go_quiet (fail)
           have HNX := zH (HST.out.turn (HZ.out.ext ((Ext.refl wz).drewN nq)) (HOZ.out.then (Only.of_ext (p := fun _ => False) ((Ext.refl wz).drewN nq)) (fun _ _ e => e.elim)) (HSC.out _ (HC.out)) HPT.out.1 (by have := HPT.out.2; omega))
           go_wp2_with fail
           go_roundg (l.length - (k + 1))
           case measure => have := HLT.out; omega
           case rel => exact ⟨k + 1, _, HLT.out, rfl, by go_num, HNX.out⟩
         ·have be1 : (yl.1 == xf.1) = false := by simpa using hx1
          have HC := zH (HCN.out (fun e => hx1 (by rw [e])))
          clear hx1
          go_wp2_with fail
          go_quiet (fail)
          have HNX := zH (HST.out.turn (HZ.out.ext ((Ext.refl wz).drewN nq)) (HOZ.out.then (Only.of_ext (p := fun _ => False) ((Ext.refl wz).drewN nq)) (fun _ _ e => e.elim)) (HSC.out _ (HC.out)) HPT.out.1 (by have := HPT.out.2; omega))
          go_wp2_with fail
          go_roundg (l.length - (k + 1))
          case measure => have := HLT.out; omega
          case rel => exact ⟨k + 1, _, HLT.out, rfl, by go_num, HNX.out⟩
       ·have bv5 : (v == 5) = false := by simpa using hv5
        have bv5n : (v != 5) = true := by simp [bne, hv5]
        have HV15 := zH (And.intro hv1 hv5)
        clear hv1 hv5
        have r8 : pts.length ≤ 20000 := by have := HPT.out.2; omega
        generalize hyl : pts.getLastD (0, 0) = yl at z0 z1
        have HYL := zH hyl
        clear hyl
        obtain ⟨er, her⟩ : ∃ x, x = segErr yl ⟨v, (a1, a2), (b1, b2), (c1, c2)⟩ tol := ⟨_, rfl⟩
        obtain ⟨sp, hsp⟩ : ∃ x, x = segPts yl ⟨v, (a1, a2), (b1, b2), (c1, c2)⟩ tol := ⟨_, rfl⟩
        have HSEG := zH (show ∀ W, Calls Try.prog 13 #[.agg #[.int .i64 yl.1, .int .i64 yl.2], .agg #[.int .i64 v, .int .i64 a1, .int .i64 a2, .int .i64 b1, .int .i64 b2, .int .i64 c1, .int .i64 c2], .int .i64 tol] W (SegSays sp er W) from fun W => by rw [her, hsp]; exact segment_any yl.1 yl.2 v a1 a2 b1 b2 c1 c2 tol W)
        have HER := zH (And.intro her hsp)
        clear her hsp
        go_upto_region 13 with fail
        have f0_ : ∀ x, Ext wa x → x.cell? ⟨gv, L0.length * 2, none⟩ = some (.slice (some ⟨b0, 0, none⟩) (m2 + 1) caps) := fun x hx => hx.get cs
        have f1_ : ∀ x, Ext wa x → x.cell? ⟨b0, m2 * 2, none⟩ = some (.int .i64 yl.1) := fun x hx => hx.get z0
        have f2_ : ∀ x, Ext wa x → x.cell? ⟨b0, m2 * 2 + 1, none⟩ = some (.int .i64 yl.2) := fun x hx => hx.get z1
        have f3_ : ∀ x, Ext wa x → x.cell? ⟨X8, 0, none⟩ = some (.int .i64 v) := fun x hx => hx.get s0
        have f4_ : ∀ x, Ext wa x → x.cell? ⟨X8, 1, none⟩ = some (.int .i64 a1) := fun x hx => hx.get s1
        have f5_ : ∀ x, Ext wa x → x.cell? ⟨X8, 2, none⟩ = some (.int .i64 a2) := fun x hx => hx.get s2
        have f6_ : ∀ x, Ext wa x → x.cell? ⟨X8, 3, none⟩ = some (.int .i64 b1) := fun x hx => hx.get s3
        have f7_ : ∀ x, Ext wa x → x.cell? ⟨X8, 4, none⟩ = some (.int .i64 b2) := fun x hx => hx.get s4
        have f8_ : ∀ x, Ext wa x → x.cell? ⟨X8, 5, none⟩ = some (.int .i64 c1) := fun x hx => hx.get s5
        have f9_ : ∀ x, Ext wa x → x.cell? ⟨X8, 6, none⟩ = some (.int .i64 c2) := fun x hx => hx.get s6
        have t1_ : IntKind.i64.wrap ((m2 : Int) + 1 - 1) = (m2 : Int) := by rw [r3]; exact IntWalk.i64_in _ ⟨by omega, by omega⟩
        have t2_ : IntKind.i64.wrap (m2 : Int) = (m2 : Int) := IntWalk.i64_in _ ⟨by omega, by omega⟩
        have t3_ : IntKind.i64.wrap (((m2 + 1 : Nat) : Int) - 1) = (m2 : Int) := by rw [r1]; exact t2_
        clear cs cb p0 p1 z0 z1 fb fs s0 s1 s2 s3 s4 s5 s6
        go_cut [10, 11] (fun u q wx => q = .int .i64 er ∧ PtsV wx u sp ∧ (∀ A l c, u = .slice (some A) l c → wa.heap.size ≤ A.block) ∧ Ext wa wx)
        case first =>
         go_region_held3 (fun w' => Ext wa w') (first | assumption | exact Ext.drew (Ext.refl _) | (apply Ext.via; assumption; assumption)) (first | (go_at_call 13; refine (HSEG.out _).mono ?_; rintro e w2 ⟨u, rfl, hpt, hfr, hx2⟩))
         go_wp2_with fail
         go_meet
         exact ⟨rfl, hpt, hfr, ‹Ext wa _›⟩
        case rest =>
         obtain ⟨rfl, hpt, hfr, hxc⟩ := hcut
         clear f0_ f1_ f2_ f3_ f4_ f5_ f6_ f7_ f8_ f9_ t1_ t2_ t3_
         by_cases he : er = 0
         ·subst he
          have HSM := zH (says_more (e := ⟨.slice (some ⟨b0, 0, none⟩) pts.length caps, pts, cl⟩) HST.out HV15.out.1 HV15.out.2 HLT.out HG.out HYL.out HER.out.1.symm HER.out.2)
          have hsl : sp.length ≤ 64 := by rw [HER.out.2]; exact (segPts_len _ _ _).1
          have HSL := zH hsl
          have hgb := HLW.out.bg.lt
          have hbb := HLW.out.bp.lt
          have hlc := HLW.out.ext hxc
          have HPU := zH (put_any w.heap.size gv (L0.length * 2) b0 _ (.slice (some ⟨b0, 0, none⟩) pts.length caps) pts u10 sp wc HPT.out.1 hlc.row hlc.bg (arr_get _ _ _ _ _).1 rfl hlc.ne (by have := HST.out.x.size; have := HXW.out.size; have := hxc.size; omega) hpt (fun A l c h => by have := hfr A l c h; constructor <;> omega) (by have := HPT.out.2; omega))
          have HXC := zH (HXW.out.trans hxc)
          clear hlc hgb hbb hsl hpt hfr hxc
          go_wp2_with (first | (go_at_call 14; refine HPU.out.mono ?_; rintro e w3 ⟨v', rfl, hps⟩; have HNX := zH (HST.out.put HLA.out HXC.out hps HSM.out HSL.out); clear hps))
          go_roundg (l.length - (k + 1))
          case measure => have := HLT.out; omega
          case rel => exact ⟨k + 1, _, HLT.out, rfl, by go_num, HNX.out⟩
         ·have HO := zH (out_err (e := ⟨.slice (some ⟨b0, 0, none⟩) pts.length caps, pts, cl⟩) HST.out HP.out HT.out HV15.out.1 HV15.out.2 HLT.out HG.out HYL.out HER.out.1 he)
          have HXX := zH ((HST.out.x.trans HXW.out).trans hxc)
          have be : (er != 0) = true := by simp [bne, he]
          clear hpt hfr hxc
          go_wp2_with fail
          go_ret2
          exact ⟨.slice none 0 0, [], er, rfl, HO.out, Plys.nil _ _ HXX.out.size, HXX.out⟩
     ·obtain rfl : k = l.length := by omega
      have HLA := zH (HST.out.pl.read)
      obtain ⟨Av, cv, hvv, hva⟩ := HLA.out
      subst hvv
      have HVA := zH hva
      clear hva HLA
      have hL3 : L.length ≤ 300 := by have := HST.out.len; have := HN.out; omega
      have hlt2 : ¬ (l.length : Int) < (l.length : Int) := by omega
      go_wp2_with fail
      go_loopg [13, 115] L.length (fun n t i wy => ∃ (j : Nat), j ≤ L.length ∧ n = L.length - j ∧ i = .int .i64 j ∧ t = .int .i64 (total (plOf (L.take j)) : Nat) ∧ Ext wr wy)
      case atStart => exact ⟨0, Nat.zero_le _, rfl, rfl, by simp [plOf, total], Ext.refl _⟩
      case round =>
       obtain ⟨j, hj, rfl, rfl, rfl, hy⟩ := hrel
       by_cases hjl : j < L.length
       ·obtain ⟨g, rfl, hva⟩ := HVA.out (by rintro rfl; simp at hjl)
        obtain ⟨As, cs, e1, e2⟩ := hva j hjl
        have hts := total_succ hjl
        have htl := total_le (L := L) (fun e he => by have := (HST.out.pts e he).2; have := HN.out; omega) (j + 1)
        have e1 := hy.get e1
        have e2 := hy.get e2
        generalize total (plOf (L.take j)) = N at *
        obtain ⟨N2, hN2⟩ : ∃ x, x = total (plOf (L.take (j + 1))) := ⟨_, rfl⟩
        rw [← hN2] at hts htl
        have HN2 := zH hN2
        clear hN2
        generalize (L.getD j ⟨.slice none 0 0, [], false⟩).pts.length = n at *
        generalize (L.getD j ⟨.slice none 0 0, [], false⟩).cl = cl at *
        have HY := zH hy
        subst hts
        clear hva hy
        have hjl2 : (j : Int) < (L.length : Int) := by omega
        go_wp2_with fail
        go_roundg (L.length - (j + 1))
        case measure => omega
        case rel => exact ⟨j + 1, hjl, rfl, by go_num, by rw [← HN2.out]; go_num, HY.out.trans ((Ext.refl _).alloc _)⟩
       ·obtain rfl : j = L.length := by omega
        rw [List.take_length]
        have HY := zH hy
        clear hy
        have hj2 : ¬ (L.length : Int) < (L.length : Int) := by omega
        have hT := HST.out.says
        have HTT := zH hT
        clear hT
        generalize hN : total (plOf L) = N at *
        by_cases hbig : 4096 < N
        ·have hO := out_big HP.out HT.out HTT.out hN hbig
         have HO := zH hO
         have HXX := zH (HST.out.x.trans HY.out)
         clear hO hN
         have hb2 : (4096 : Int) < (N : Int) := by omega
         go_wp2_with fail
         go_ret2
         exact ⟨.slice none 0 0, [], 5, rfl, HO.out, Plys.nil _ _ HXX.out.size, HXX.out⟩
        ·have hO := out_ok HP.out HT.out HTT.out hN hbig
         have HO := zH hO
         have HXX := zH (HST.out.x.trans HY.out)
         clear hO hN
         have hb2 : ¬ (4096 : Int) < (N : Int) := by omega
         go_wp2_with fail
         go_ret2
         exact ⟨_, L, 0, rfl, HO.out, HST.out.pl.ext HY.out, HXX.out⟩
 ·have HV := zH (Valid_f hu hn hp)
  have HO := zH (show PathOut tol l 10 (plOf []) from Or.inl ⟨hp, rfl, rfl⟩)
  clear hp hu
  go_enter Try.func5, Try.ntmps5
  go_wp2_with (first | (go_at_call 12; refine HV.out.mono ?_; rintro e w1 ⟨rfl, hx⟩; have HX := zH hx; clear hx))
  go_ret2
  exact ⟨.slice none 0 0, [], 10, rfl, HO.out, Plys.nil _ _ HX.out.size, HX.out⟩
end Go.Proofs.Ytjkddchkjkocbaa
