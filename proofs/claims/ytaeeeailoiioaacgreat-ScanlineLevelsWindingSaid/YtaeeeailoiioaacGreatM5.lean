/- Contracts that the claim stands on: XHp to XMkP. -/
import Derived.RangeFuncNested
import Derived.RangeFuncBound
import Derived.RangeFuncCalls
import Derived.RangeFuncLeaves
import Derived.Shelf.Abstract
import Derived.Shelf.RegionOpen
import Derived.OwnWalkIn
import Derived.TacticsInMore
import Derived.LoopNIn
import Derived.LoopIn
import Derived.Maps.AppendAt
import Derived.OrdersIn
import Derived.Deep.DeepCutAuto
import Derived.Test.YtaeeeailoiioaacGreatM4
namespace Go.Proofs.YtaeeeailoiioaacGreat
open Go.RowKit

def Dig (w w' : World) : Prop := ∀ (v : Value) (xs : List Nat), DigS w v xs → DigS w' v xs
theorem Dig.refl (w : World) : Dig w w := fun _ _ h => h
theorem Dig.trans {a b c : World} (h : Dig a b) (k : Dig b c) : Dig a c := fun v xs x => k v xs (h v xs x)
theorem Dig.of_ext {w w' : World} (x : Ext w w') : Dig w w' := fun _ _ h => h.ext x
theorem Dig.of_own {w w' : World} {g : Nat} {t : TypeId} {cs : Array Value} (hb : Blk w g t cs) (hn : NoU cs) (o : Own g w w') : Dig w w' := fun _ _ h => h.own hb hn o
theorem RV.Is.dig {w w' : World} {a : RV} {q : Rat} (h : a.Is w q) (d : Dig w w') : a.Is w' q := ⟨⟨h.1.1, d _ _ h.1.2⟩, ⟨h.2.1, d _ _ h.2.2⟩⟩
theorem RV.In.dig {L : Nat} {w w' : World} {a : RV} {q : Rat} (h : a.In L w q) (d : Dig w w') : a.In L w' q := by
  obtain ⟨y, z, ⟨a1, ⟨x1, h1, h2⟩, h3⟩, ⟨a2, ⟨x2, h4, h5⟩, h6⟩, h7⟩ := h
  exact ⟨y, z, ⟨a1, ⟨x1, d _ _ h1, h2⟩, h3⟩, ⟨a2, ⟨x2, d _ _ h4, h5⟩, h6⟩, h7⟩
theorem NIn.dig {L : Nat} {w w' : World} {cs : Array Value} {q : Rat} (h : NIn L w cs q) (d : Dig w w') : NIn L w' cs q := by obtain ⟨a, h1, h2⟩ := h; exact ⟨a, h1, h2.dig d⟩
theorem NIs.dig {w w' : World} {cs : Array Value} {q : Rat} (h : NIs w cs q) (d : Dig w w') : NIs w' cs q := by obtain ⟨a, h1, h2⟩ := h; exact ⟨a, h1, h2.dig d⟩
theorem RV.In.nin {L : Nat} {w : World} {a : RV} {q : Rat} (h : a.In L w q) : NIn L w #[.bool a.n, .slice a.p a.l a.c, .bool a.m, .slice a.p2 a.l2 a.c2] q := ⟨a, rfl, h⟩
theorem RV.Is.nin {L : Nat} {w : World} {a : RV} {q : Rat} (h : a.Is w q) (hl : Nm.rl q ≤ L) : NIn L w #[.bool a.n, .slice a.p a.l a.c, .bool a.m, .slice a.p2 a.l2 a.c2] q := ⟨a, rfl, h.isIn hl⟩
theorem own_setCells (w : World) (g o : Nat) (vs : List Value) : Own g w (w.setCells g o vs) := Own.setCells_l _ _ (Own.refl g w)

inductive Ent where
  | blk (g : Nat) (t : TypeId) (cs : List Value)
  | row (t : TypeId) (size : Nat) (v : Value) (n : Nat) (xs : List Value)
def Ent.own : Ent → Option Nat
  | .blk g _ _ => some g
  | .row _ _ v _ _ => v.ownBlock
def Ent.Holds (b : Nat) (w : World) : Ent → Prop
  | .blk g t cs => b ≤ g ∧ Blk w g t cs.toArray ∧ NoUL cs
  | .row t size v n xs => RowN w b t size v n xs
theorem Ent.Holds.ext {b : Nat} {w w' : World} {e : Ent} (h : e.Holds b w) (x : Ext w w') : e.Holds b w' := by
  cases e with
  | blk g t cs => exact ⟨h.1, h.2.1.ext x, h.2.2⟩
  | row t size v n xs => exact RowN.ext h x
theorem RowN.lt {w : World} {base : Nat} {e : TypeId} {size : Nat} {v : Value} {n : Nat} {xs : List Value} (h : RowN w base e size v n xs) : ∀ k, v.ownBlock = some k → k < w.heap.size := by
  intro k hk
  obtain ⟨h1, ⟨rfl, _⟩ | ⟨g, cap, rest, rfl, b, hg, _⟩⟩ := h
  · simp [Value.ownBlock] at hk
  have := hg.lt; simp [Value.ownBlock] at hk; omega
theorem Ent.Holds.ge {b : Nat} {w : World} {e : Ent} (h : e.Holds b w) : ∀ k, e.own = some k → b ≤ k := by
  cases e with
  | blk g t cs => intro k hk; injection hk with hk; exact hk ▸ h.1
  | row t size v n xs => exact RowN.block h
theorem Ent.Holds.lt {b : Nat} {w : World} {e : Ent} (h : e.Holds b w) : ∀ k, e.own = some k → k < w.heap.size := by
  cases e with
  | blk g t cs => intro k hk; injection hk with hk; exact hk ▸ h.2.1.lt
  | row t size v n xs => exact RowN.lt h
theorem Ent.Holds.kept {b : Nat} {w w' : World} {e : Ent} {r : Option Nat} (h : e.Holds b w) (hg : w.grownBy w' r) (hne : ∀ k, e.own = some k → r ≠ some k) : e.Holds b w' := by
  cases e with
  | blk g t cs => exact ⟨h.1, h.2.1.grown hg (hne g rfl), h.2.2⟩
  | row t size v n xs =>
    obtain ⟨h1, h2 | ⟨g, cap, rest, rfl, a, hb, c⟩⟩ := h
    · exact ⟨h1, .inl h2⟩
    exact ⟨h1, .inr ⟨g, cap, rest, rfl, a, hb.grown hg (hne g rfl), c⟩⟩

structure Hp (w0 w : World) (m : List Ent) : Prop where
  ext : Ext w0 w
  all : ∀ (i : Nat) (e : Ent), m[i]? = some e → e.Holds w0.heap.size w
  apart : ∀ (i j : Nat) (e f : Ent), m[i]? = some e → m[j]? = some f → i ≠ j → ∀ k, e.own = some k → f.own ≠ some k

section
variable {w0 w w' : World} {m : List Ent}
theorem Hp.start (w : World) : Hp w w [] := ⟨Ext.refl w, fun i e h => by simp at h, fun i j e f h => by simp at h⟩
theorem Hp.step (h : Hp w0 w m) (x : Ext w w') : Hp w0 w' m := ⟨h.ext.trans x, fun i e he => (h.all i e he).ext x, h.apart⟩
theorem Hp.dig0 (h : Hp w0 w m) : Dig w0 w := Dig.of_ext h.ext
theorem Hp.add {e : Ent} (h : Hp w0 w m) (he : e.Holds w0.heap.size w) (hf : ∀ (i : Nat) (f : Ent), m[i]? = some f → ∀ k, f.own = some k → e.own ≠ some k) : Hp w0 w (m ++ [e]) := by
 have hget : ∀ (i : Nat) (f : Ent), (m ++ [e])[i]? = some f → m[i]? = some f ∨ (i = m.length ∧ f = e) := by
  intro i f hf
  rcases Nat.lt_trichotomy i m.length with hl | hl | hl
  ·rw [List.getElem?_append_left hl] at hf; exact .inl hf
  ·subst hl; rw [List.getElem?_append_right (Nat.le_refl _)] at hf; simp at hf; exact .inr ⟨rfl, hf.symm⟩
  rw [List.getElem?_append_right (Nat.le_of_lt hl), List.getElem?_eq_none (by simp; omega)] at hf; cases hf
 refine ⟨h.ext, fun i f hf => ?_, fun i j f g hi hj hij k hk => ?_⟩
 ·rcases hget i f hf with h1 | ⟨_, rfl⟩
  ·exact h.all i f h1
  exact he
 rcases hget i f hi with h1 | ⟨e1, rfl⟩ <;> rcases hget j g hj with h2 | ⟨e2, rfl⟩
 ·exact h.apart i j f g h1 h2 hij k hk
 ·exact hf i f h1 k hk
 ·exact fun h3 => hf j g h2 k h3 hk
 exact absurd (e1.trans e2.symm) hij
theorem Hp.alloc (h : Hp w0 w m) (t : TypeId) (cs : List Value) (hn : NoUL cs) : Hp w0 (w.alloc (.cells cs.toArray t)) (m ++ [.blk w.heap.size t cs]) :=
  (h.step ((Ext.refl w).alloc _)).add ⟨h.ext.size, Blk.new w t cs.toArray, hn⟩ (fun i f hf k hk e => by
    injection e with e
    have := (h.all i f hf).lt k hk
    omega)
theorem Hp.addRow {t : TypeId} {size : Nat} {v : Value} {n : Nat} {xs : List Value} (h : Hp w0 w m) (x : Ext w w') (r : RowN w' w.heap.size t size v n xs) : Hp w0 w' (m ++ [.row t size v n xs]) :=
  (h.step x).add (by
    obtain ⟨h1, h2 | ⟨g, cap, rest, a, b, c⟩⟩ := r
    · exact ⟨h1, .inl h2⟩
    · exact ⟨h1, .inr ⟨g, cap, rest, a, Nat.le_trans h.ext.size b, c⟩⟩) (fun i f hf k hk e => by
    have h1 := (h.all i f hf).lt k hk
    have h2 := RowN.block r k e
    omega)
theorem Hp.addNil (h : Hp w0 w m) (t : TypeId) (size : Nat) : Hp w0 w (m ++ [.row t size (.slice none 0 0) 0 []]) :=
  h.add (RowN.nil _ _ _ _) (fun _ _ _ _ _ e => by simp [Ent.own, Value.ownBlock] at e)
theorem Hp.take (h : Hp w0 w m) (n : Nat) : Hp w0 w (m.take n) := by
  have hget : ∀ (i : Nat) (f : Ent), (m.take n)[i]? = some f → m[i]? = some f := by
    intro i f hf
    rw [List.getElem?_take] at hf
    split at hf
    · exact hf
    cases hf
  exact ⟨h.ext, fun i e he => h.all i e (hget i e he), fun i j e f hi hj => h.apart i j e f (hget i e hi) (hget j f hj)⟩
theorem Hp.blk {i g : Nat} {t : TypeId} {cs : List Value} (h : Hp w0 w m) (hi : m[i]? = some (.blk g t cs)) : Blk w g t cs.toArray := (h.all i _ hi).2.1
theorem Hp.noU {i g : Nat} {t : TypeId} {cs : List Value} (h : Hp w0 w m) (hi : m[i]? = some (.blk g t cs)) : NoUL cs := (h.all i _ hi).2.2
theorem Hp.row {i : Nat} {t : TypeId} {size : Nat} {v : Value} {n : Nat} {xs : List Value} (h : Hp w0 w m) (hi : m[i]? = some (.row t size v n xs)) : RowN w w0.heap.size t size v n xs := h.all i _ hi
theorem Hp.range {i g : Nat} {t : TypeId} {cs : List Value} (h : Hp w0 w m) (hi : m[i]? = some (.blk g t cs)) (o n : Nat) : w.rangeAt g o ((cs.drop o).take n) := by
  have hr := World.rangeAt_of_block (h.blk hi) o n
  have e : (cs.toArray.extract o (o + n)).toList = (cs.drop o).take n := by simp [List.extract_eq_take_drop]
  rw [← e]
  exact hr
theorem Hp.cell {i g : Nat} {t : TypeId} {cs : List Value} (h : Hp w0 w m) (hi : m[i]? = some (.blk g t cs)) (o : Nat) {v : Value} (hv : cs[o]? = some v) : w.cell? ⟨g, o, none⟩ = some v := by
  rw [(h.blk hi).cell o, List.getElem?_toArray, hv]
theorem Hp.frozen {i g : Nat} {t : TypeId} {cs : List Value} (h : Hp w0 w m) (hi : m[i]? = some (.blk g t cs)) (o : Nat) : w.frozen? ⟨g, o, none⟩ = false := (h.blk hi).frozen o
theorem Hp.ge {i k : Nat} {e : Ent} (h : Hp w0 w m) (hi : m[i]? = some e) (hk : e.own = some k) : w0.heap.size ≤ k := (h.all i e hi).ge k hk
theorem Hp.lt {i k : Nat} {e : Ent} (h : Hp w0 w m) (hi : m[i]? = some e) (hk : e.own = some k) : k < w.heap.size := (h.all i e hi).lt k hk
theorem Hp.turn {i : Nat} {e e' : Ent} {r : Option Nat} (h : Hp w0 w m) (hi : m[i]? = some e) (hr : ∀ k, r = some k → e.own = some k) (hg : w.grownBy w' r) (he : e'.Holds w0.heap.size w')
  (hf : ∀ k, e'.own = some k → e.own = some k ∨ w.heap.size ≤ k) : Hp w0 w' (m.set i e') := by
 have hx : Ext w0 w' := h.ext.grown hg (fun k hk => h.ge hi (hr k hk))
 have hil : i < m.length := (List.getElem?_eq_some_iff.1 hi).1
 have hget : ∀ (j : Nat) (f : Ent), (m.set i e')[j]? = some f → (j = i ∧ f = e') ∨ (j ≠ i ∧ m[j]? = some f) := by
  intro j f hj
  rw [List.getElem?_set] at hj
  by_cases hij : i = j
  ·rw [if_pos hij, if_pos (by omega)] at hj
   injection hj with hj
   exact .inl ⟨hij.symm, hj.symm⟩
  rw [if_neg hij] at hj
  exact .inr ⟨fun x => hij x.symm, hj⟩
 have off : ∀ (j : Nat) (f : Ent), j ≠ i → m[j]? = some f → ∀ k, f.own = some k → e'.own ≠ some k := by
  intro j f hj hf2 k hk hk2
  rcases hf k hk2 with h1 | h1
  ·exact h.apart j i f e hf2 hi hj k hk h1
  have := h.lt hf2 hk; omega
 refine ⟨hx, fun j f hj => ?_, fun j k f g hj hk hjk b hb => ?_⟩
 ·rcases hget j f hj with ⟨_, rfl⟩ | ⟨hj, hf2⟩
  ·exact he
  exact (h.all j f hf2).kept hg (fun k hk h3 => h.apart j i f e hf2 hi hj k hk (hr k h3))
 rcases hget j f hj with ⟨e1, rfl⟩ | ⟨h1, h2⟩ <;> rcases hget k g hk with ⟨e2, rfl⟩ | ⟨h3, h4⟩
 ·omega
 ·exact fun h5 => off k g h3 h4 b h5 hb
 ·exact off j f h1 h2 b hb
 exact h.apart j k f g h2 h4 hjk b hb
theorem Hp.store {i g : Nat} {t : TypeId} {cs : List Value} (h : Hp w0 w m) (hi : m[i]? = some (.blk g t cs)) (o : Nat) (vs : List Value) (hl : o + vs.length ≤ cs.length) (hn : NoUL vs) :
  Hp w0 (w.setCells g o vs) (m.set i (.blk g t (cs.take o ++ vs ++ cs.drop (o + vs.length)))) := by
 have hb := (h.blk hi).setPart o vs hl
 have hnu := h.noU hi
 refine h.turn (r := some g) hi (fun k hk => hk) ?_ ⟨h.ge hi rfl, hb, ?_⟩ (fun k hk => .inl hk)
 ·exact (own_setCells w g o vs)
 intro x hx
 rcases List.mem_append.1 hx with hx | hx
 ·rcases List.mem_append.1 hx with hx | hx
  ·exact hnu x (List.mem_of_mem_take hx)
  exact hn x hx
 exact hnu x (List.mem_of_mem_drop hx)
theorem Hp.storeDig {i g : Nat} {t : TypeId} {cs : List Value} (h : Hp w0 w m) (hi : m[i]? = some (.blk g t cs)) (o : Nat) (vs : List Value) : Dig w (w.setCells g o vs) :=
  Dig.of_own (h.blk hi) (h.noU hi).arr (own_setCells w g o vs)
theorem Hp.there {i g : Nat} {t : TypeId} {cs : List Value} (h : Hp w0 w m) (hi : m[i]? = some (.blk g t cs)) (o n : Nat) (hl : o + n ≤ cs.length) : w.there g o n := (h.blk hi).therePart o n hl
theorem Dig.grown {base : Nat} {e : TypeId} {size : Nat} {v : Value} {n : Nat} {xs : List Value} (h : RowN w base e size v n xs) (hg : w.grownBy w' v.ownBlock) : Dig w w' := by
  obtain ⟨h1, ⟨rfl, _⟩ | ⟨g, cap, rest, rfl, a, hb, _, _, _, hn⟩⟩ := h
  · exact Dig.of_ext ⟨hg.os, hg.tape, hg.output, hg.size, fun k hk => hg.block k hk (by simp [Value.ownBlock])⟩
  exact Dig.of_own hb hn.arr hg
theorem Hp.grow {i gx cx : Nat} {t : TypeId} {size n n' : Nat} {v : Value} {xs xs' : List Value} (h : Hp w0 w m) (hi : m[i]? = some (.row t size v n xs)) (hf : v.ownBlock = some gx ∨ w.heap.size ≤ gx)
    (h2 : RowN w' w0.heap.size t size (.slice (some ⟨gx, 0, none⟩) n' cx) n' xs') (h3 : w.grownBy w' v.ownBlock) : Hp w0 w' (m.set i (.row t size (.slice (some ⟨gx, 0, none⟩) n' cx) n' xs')) :=
  h.turn hi (fun k hk => hk) h3 h2 (fun k hk => by
    have hk : gx = k := by simpa [Ent.own, Value.ownBlock] using hk
    subst hk
    exact hf)
theorem Hp.growDig {i : Nat} {t : TypeId} {size n : Nat} {v : Value} {xs : List Value} (h : Hp w0 w m) (hi : m[i]? = some (.row t size v n xs)) (h3 : w.grownBy w' v.ownBlock) : Dig w w' := Dig.grown (h.row hi) h3
end

section
variable {w0 w w' : World} {m : List Ent}
theorem RowN.setPart {base : Nat} {t : TypeId} {size g n cap : Nat} {xs : List Value} (h : RowN w base t size (.slice (some ⟨g, 0, none⟩) n cap) n xs) (o : Nat) (vs : List Value) (hl : o + vs.length ≤ xs.length) (hn : NoUL vs) :
  RowN (w.setCells g o vs) base t size (.slice (some ⟨g, 0, none⟩) n cap) n (xs.take o ++ vs ++ xs.drop (o + vs.length)) := by
 have hlen : (xs.take o ++ vs ++ xs.drop (o + vs.length)).length = xs.length := by simp; omega
 obtain ⟨h1, ⟨hv, _⟩ | ⟨g', cap', rest, hv, a, hb, h3, h4, h5, h6⟩⟩ := h
 ·cases hv
 injection hv with e1 e2 e3
 injection e1 with e1
 injection e1 with e1
 subst e1
 subst e3
 refine ⟨by rw [hlen]; exact h1, .inr ⟨g, cap, rest, rfl, a, ?_, h3, h4, by rw [hlen]; exact h5, ?_⟩⟩
 ·have := hb.setPart o vs (by rw [List.length_append]; omega)
  rw [List.take_append_of_le_length (by omega), List.drop_append_of_le_length (by omega), ← List.append_assoc] at this
  exact this
 intro x hx
 have hx1 := h6
 rcases List.mem_append.1 hx with hx | hx
 ·rcases List.mem_append.1 hx with hx | hx
  ·rcases List.mem_append.1 hx with hx | hx
   ·exact h6 x (List.mem_append_left _ (List.mem_of_mem_take hx))
   exact hn x hx
  exact h6 x (List.mem_append_left _ (List.mem_of_mem_drop hx))
 exact h6 x (List.mem_append_right _ hx)
theorem RowN.there {base : Nat} {t : TypeId} {size g n cap : Nat} {xs : List Value} (h : RowN w base t size (.slice (some ⟨g, 0, none⟩) n cap) n xs) (o k : Nat) (hl : o + k ≤ xs.length) : w.there g o k := by
  obtain ⟨h1, ⟨hv, _⟩ | ⟨g', cap', rest, hv, a, hb, h3, h4, h5, h6⟩⟩ := h
  · cases hv
  injection hv with e1 e2 e3
  injection e1 with e1
  injection e1 with e1
  subst e1
  exact hb.therePart o k (by rw [List.length_append]; omega)
theorem RowN.rangeAt {base : Nat} {t : TypeId} {size g n cap : Nat} {xs : List Value} (h : RowN w base t size (.slice (some ⟨g, 0, none⟩) n cap) n xs) (o : Nat) (ys : List Value) (hy : ∀ j v, ys[j]? = some v → xs[o + j]? = some v) : w.rangeAt g o ys := by
  obtain ⟨h1, ⟨hv, _⟩ | ⟨g', cap', rest, hv, a, hb, h3, h4, h5, h6⟩⟩ := h
  · cases hv
  injection hv with e1 e2 e3
  injection e1 with e1
  injection e1 with e1
  subst e1
  intro j v hj
  have := hy j v hj
  rw [hb.cell, List.getElem?_toArray, List.getElem?_append_left (List.getElem?_eq_some_iff.1 this).1]
  exact this
theorem flat_get {α : Type} {f : α → List Value} {c : Nat} (hc : ∀ x, (f x).length = c) : ∀ (es : List α) (k : Nat) (e : α), es[k]? = some e → ∀ j v, (f e)[j]? = some v → (es.flatMap f)[k * c + j]? = some v
  | [], k, e, h, _, _, _ => by simp at h
  | x :: xs, 0, e, h, j, v, hv => by
    simp at h
    subst h
    rw [List.flatMap_cons, List.getElem?_append_left (by have := (List.getElem?_eq_some_iff.1 hv).1; omega)]
    simpa using hv
  | x :: xs, k + 1, e, h, j, v, hv => by
    rw [List.flatMap_cons, List.getElem?_append_right (by rw [hc, Nat.add_mul]; omega), hc]
    have := flat_get hc xs k e (by simpa using h) j v hv
    rw [show (k + 1) * c + j - c = k * c + j by rw [Nat.add_mul]; omega]
    exact this
theorem flat_length {α : Type} {f : α → List Value} {c : Nat} (hc : ∀ x, (f x).length = c) : ∀ (es : List α), (es.flatMap f).length = es.length * c
  | [] => by simp
  | x :: xs => by rw [List.flatMap_cons, List.length_append, hc, flat_length hc xs, List.length_cons, Nat.add_mul]; omega
theorem Hp.elem {α : Type} {f : α → List Value} {i : Nat} {t : TypeId} {size g n cap : Nat} {es : List α} (h : Hp w0 w m) (hi : m[i]? = some (.row t size (.slice (some ⟨g, 0, none⟩) n cap) n (es.flatMap f))) (hc : ∀ x, (f x).length = size) {k : Nat} {e : α} (he : es[k]? = some e) : w.rangeAt g (k * size) (f e) :=
  (h.row hi).rangeAt _ _ (fun j v hj => flat_get hc es k e he j v hj)
theorem RowN.form {base : Nat} {t : TypeId} {size n : Nat} {v : Value} {xs : List Value} (h : RowN w base t size v n xs) : ∃ A c, v = .slice A n c ∧ (0 < n → ∃ g, A = some ⟨g, 0, none⟩) := by
  obtain ⟨h1, ⟨rfl, rfl⟩ | ⟨g, cap, rest, rfl, _⟩⟩ := h
  · exact ⟨none, 0, rfl, fun h => absurd h (by omega)⟩
  exact ⟨_, _, rfl, fun _ => ⟨g, rfl⟩⟩
theorem Hp.storeRow {i : Nat} {t : TypeId} {size g n cap : Nat} {xs : List Value} (h : Hp w0 w m) (hi : m[i]? = some (.row t size (.slice (some ⟨g, 0, none⟩) n cap) n xs)) (o : Nat) (vs : List Value) (hl : o + vs.length ≤ xs.length) (hn : NoUL vs) :
    Hp w0 (w.setCells g o vs) (m.set i (.row t size (.slice (some ⟨g, 0, none⟩) n cap) n (xs.take o ++ vs ++ xs.drop (o + vs.length)))) :=
  h.turn (r := some g) hi (fun k hk => by simpa [Ent.own, Value.ownBlock] using hk) (own_setCells w g o vs) ((h.row hi).setPart o vs hl hn) (fun k hk => .inl hk)
theorem Hp.storeRowDig {i : Nat} {t : TypeId} {size g n cap : Nat} {xs : List Value} (h : Hp w0 w m) (hi : m[i]? = some (.row t size (.slice (some ⟨g, 0, none⟩) n cap) n xs)) (o : Nat) (vs : List Value) : Dig w (w.setCells g o vs) := by
  refine Dig.grown (h.row hi) ?_
  exact own_setCells w g o vs

structure Fr (G : Nat → Prop) (w w' : World) : Prop where
  os : w'.os = w.os
  tape : w'.tape = w.tape
  output : w'.output = w.output
  size : w.heap.size ≤ w'.heap.size
  block : ∀ k, k < w.heap.size → ¬ G k → w'.heap[k]? = w.heap[k]?
theorem Fr.of_ext {G : Nat → Prop} (x : Ext w w') : Fr G w w' := ⟨x.os, x.tape, x.output, x.size, fun k hk _ => x.block k hk⟩
theorem Fr.trans {G : Nat → Prop} {a b c : World} (h : Fr G a b) (k : Fr G b c) : Fr G a c := ⟨k.os.trans h.os, k.tape.trans h.tape, k.output.trans h.output, Nat.le_trans h.size k.size, fun i hi hG => (k.block i (Nat.lt_of_lt_of_le hi h.size) hG).trans (h.block i hi hG)⟩
theorem Fr.trans_new {G : Nat → Prop} {a b c : World} {r : Option Nat} (h : Fr G a b) (k : b.grownBy c r) (hr : ∀ j, r = some j → G j ∨ a.heap.size ≤ j) : Fr G a c :=
  ⟨k.os.trans h.os, k.tape.trans h.tape, k.output.trans h.output, Nat.le_trans h.size k.size, fun i hi hG => (k.block i (Nat.lt_of_lt_of_le hi h.size) (fun e => by
    rcases hr i e.symm with h1 | h1
    · exact hG h1
    omega)).trans (h.block i hi hG)⟩
theorem Fr.cell {G : Nat → Prop} {g o : Nat} {s : Option Nat} {v : Value} (f : Fr G w w') (h : w.cell? ⟨g, o, s⟩ = some v) (hn : ¬ G g) : w'.cell? ⟨g, o, s⟩ = some v :=
  (World.cell?_of_block (f.block g (World.block_lt_of_cell? w ⟨g, o, s⟩ h) hn)).trans h
theorem Fr.range {G : Nat → Prop} {g o : Nat} {cs : List Value} (f : Fr G w w') (h : w.rangeAt g o cs) (hn : ¬ G g) : w'.rangeAt g o cs := fun j v hv => f.cell (h j v hv) hn
theorem Fr.base {G : Nat → Prop} (f : Fr G w w') (h : Hp w0 w m) (hG : ∀ k, G k → w0.heap.size ≤ k) : Ext w0 w' :=
  ⟨f.os.trans h.ext.os, f.tape.trans h.ext.tape, f.output.trans h.ext.output, Nat.le_trans h.ext.size f.size, fun k hk => (f.block k (Nat.lt_of_lt_of_le hk h.ext.size) (fun hk2 => by have := hG k hk2; omega)).trans (h.ext.block k hk)⟩
theorem Hp.offBlk {i j g g' : Nat} {e : Ent} {t : TypeId} {cs : List Value} (h : Hp w0 w m) (hi : m[i]? = some e) (hj : m[j]? = some (.blk g' t cs)) (hij : i ≠ j) (hg : e.own = some g) : ¬ g = g' := fun e2 => h.apart i j _ _ hi hj hij g hg (congrArg some e2.symm)
theorem Hp.offRow {i j g size n : Nat} {e : Ent} {t : TypeId} {v : Value} {xs : List Value} (h : Hp w0 w m) (hi : m[i]? = some e) (hj : m[j]? = some (.row t size v n xs)) (hij : i ≠ j) (hg : e.own = some g) : ¬ Value.ownBlock v = some g := fun e2 => h.apart i j _ _ hi hj hij g hg e2
theorem Hp.off {i j g : Nat} {e f : Ent} (h : Hp w0 w m) (hi : m[i]? = some e) (hj : m[j]? = some f) (hij : i ≠ j) (hg : e.own = some g) : f.own ≠ some g := h.apart i j e f hi hj hij g hg
end
end Go.Proofs.YtaeeeailoiioaacGreat

namespace Go.Proofs.YtaeeeailoiioaacGreat
open Go.RowKit Go.Shelf

section
variable {P : Program} {n l : Nat} {Q : Exit → Act → World → Prop}
theorem rowsIn_of {row : String} {args : Array Value} {w : World} {R : Value → World → Prop} (h : Rows P row args w R) : RowsIn (Fence.wide.inRound l) n P row args w R := fun c cs _ =>
  let ⟨v, w', r, s⟩ := h c cs
  ⟨v, w', r, stepsIn_wide.2 s⟩
theorem opIn_of {o : Oper} {a : Act} {w : World} {K : Act → World → Prop} (ho : ∀ c, o.op ≠ .defer c) (_hQ : ¬ LetsOut Q) (h : o.wp P a w K Q) : o.wpIn (Fence.wide.inRound l) n P a w K Q := by
 unfold Oper.wp at h
 refine ⟨fun _ _ => trivial, ?_⟩
 rw [Oper.semAt_eq _ _ _ ho]
 generalize (execOp a.eval o).run P w = r at h
 cases r with
 | ok x w' =>
  cases x <;> simp only [Oper.upon] at h <;> simp only [Oper.uponIn]
  case value => exact h
  case skip => exact h
  case defer => exact h
  case enter => exact ⟨fun hd => by simp [Fence.wide] at hd, CallsIn.inRound l (callsIn_wide.2 h)⟩
  case row => exact ⟨fun hd => by simp [Fence.wide] at hd, rowsIn_of h⟩
 | halt x w' => cases x <;> simp only [Oper.upon] at h <;> simp only [Oper.uponIn] <;> exact h
def noDefer (ops : List Oper) : Bool := ops.all fun o => match o.op with | .defer _ => false | _ => true
theorem noDefer_spec {ops : List Oper} (h : noDefer ops = true) {o : Oper} (ho : o ∈ ops) : ∀ c, o.op ≠ .defer c := by
  intro c e
  have := List.all_eq_true.1 h o ho
  rw [e] at this
  cases this
theorem anyIn_of {md : Region.Mode} {ops : Array Oper} (hd : noDefer ops.toList = true) (hQ : ¬ LetsOut Q) : ∀ (fuel : Nat) (listed : Array Bool) (a : Act) (w : World), wpAny P md ops Q fuel listed a w → wpAnyIn (Fence.wide.inRound l) n P md ops Q fuel listed a w
  | 0, _, _, _, h => h
  | fuel + 1, listed, a, w, h => ⟨h.1, fun i hi => by
    have h2 := h.2 i hi
    unfold wpOp at h2
    unfold wpOpIn
    cases ho : ops[i]? with
    | none => rw [ho] at h2; exact anyIn_of hd hQ fuel _ _ _ h2
    | some o =>
      rw [ho] at h2
      simp only at h2 ⊢
      split
      · rename_i hw
        rw [if_pos hw] at h2
        rcases h2 with h2 | ⟨_, h3⟩
        · exact Oper.wpIn_mono (fun a' w' h4 => anyIn_of hd hQ fuel _ _ _ h4) (opIn_of (noDefer_spec hd (by
            have h5 := Array.mem_of_getElem? ho
            exact h5.1)) hQ h2)
        exact absurd h3 hQ
      rename_i hw
      rw [if_neg hw] at h2
      exact ⟨fun _ _ => trivial, anyIn_of hd hQ fuel _ _ _ h2⟩⟩
theorem listIn_of {ops : Array Oper} (hQ : ¬ LetsOut Q) : ∀ (rest : List Oper) (_ : noDefer rest = true) (a : Act) (w : World), wpList P ops Q rest a w → wpListIn (Fence.wide.inRound l) n P ops Q rest a w
 | [], _, _, _, h => h
 | o :: rest, hd, a, w, h => by
  unfold wpList at h
  unfold wpListIn
  have hd2 : noDefer rest = true := by
   unfold noDefer at hd ⊢
   rw [List.all_cons, Bool.and_eq_true] at hd
   exact hd.2
  split
  ·rename_i hw
   rw [if_pos hw] at h
   rcases h with h | ⟨_, h3⟩
   ·exact Oper.wpIn_mono (fun a' w' h4 => listIn_of hQ rest hd2 a' w' h4) (opIn_of (noDefer_spec hd (by simp)) hQ h)
   exact absurd h3 hQ
  rename_i hw
  rw [if_neg hw] at h
  exact ⟨fun _ _ => trivial, listIn_of hQ rest hd2 _ _ h⟩
theorem wpIn_region_held_drew {id : Nat} {ops : Array Oper} {S : World → Prop} {a : Act} {w : World} (hm : P.follows .mixedOrders = true) (hd : noDefer ops.toList = true) (hQ : ¬ LetsOut Q) (hS : S w.drew)
    (h : S w.drew → wpAnyH P .any ops Q S ops.size (Array.replicate ops.size false) a w.drew) : (Code.region id ops true).wpIn (Fence.wide.inRound l) n P Q a w :=
  wpIn_region_any hm (anyIn_of hd hQ _ _ _ _ (wpAny_of_held _ _ _ _ (h hS)))
theorem wpIn_region_plain {id : Nat} {ops : List Oper} {a : Act} {w : World} (hd : noDefer ops = true) (hQ : ¬ LetsOut Q) (h : wpList P ops.toArray Q ops a w) : (Code.region id ops.toArray false).wpIn (Fence.wide.inRound l) n P Q a w :=
  wpIn_region_lit (listIn_of hQ _ hd _ _ h)
end
end Go.Proofs.YtaeeeailoiioaacGreat

namespace Go.Proofs.YtaeeeailoiioaacGreat
open Go.RowKit Go.Shelf
attribute [local go_sem] Oper.semAt_some
attribute [local go_sem ↓] Go.wp_at_zero Go.wp_at_succ run_eql_point run_neq_point run_max_ii run_min_ii

def ptVal2 (x : Int × Int) : Value := .agg #[.int .i64 x.1, .int .i64 x.2]
def RingsO (ok : Nat → Prop) (w : World) (v : Value) (rs : List Ring) : Prop :=
  ∃ (A : Option Addr) (cap : Nat), v = .slice A rs.length cap ∧ (0 < rs.length → ∃ g off, A = some ⟨g, off, none⟩ ∧ ok g ∧ ∀ i r, rs[i]? = some r → ∃ B cb, w.cell? ⟨g, off + i, none⟩ = some (.slice B r.length cb) ∧ PtsV w (.slice B r.length cb) r ∧ ∀ A, B = some A → ok A.block)
set_option maxRecDepth 100000 in
set_option maxHeartbeats 4000000 in
theorem edges1_in (m : Nat) (hm : 1 ≤ m) (l Bx N : Nat) (G : Nat → Prop) (u : Value) (rs : List Ring) (J Jx : List ((Int × Int) × (Int × Int)) → World → Prop) (w : World)
  (hcb : w.cell? ⟨Bx, 0, none⟩ = some u) (_hGb : ¬ G Bx) (hR : RingsO (fun k => ¬ G k) w u rs) (hrl : ∀ r, r ∈ rs → r.length ≤ 4096) (hrs : rs.length ≤ 100000)
  (hJ : ∀ s A B, J s A → Ext A B → J s B)
  (hY : ∀ pre x W, J pre W → pre.length < N → x ∈ edgesV rs → YieldAt Fence.wide (m - 1) Tryz.prog l #[ptVal2 x.1, ptVal2 x.2] W fun e W' => (e = .returned (.bool true) ∧ J (pre ++ [x]) W' ∧ Fr G W W') ∨ (e = .returned (.bool false) ∧ Jx (pre ++ [x]) W'))
  (hN : (edgesV rs).length ≤ N) (h0 : J [] w) :
  CallsIn Fence.wide m Tryz.prog 74 #[.func (.yield l) #[] #[], .pointer (some ⟨Bx, 0, none⟩)] w fun e W' => (∃ v, e = .returned v) ∧
   ((∃ ys, ys = edgesV rs ∧ J ys W') ∨ (∃ pre, pre <+: edgesV rs ∧ Jx pre W')) := by
 obtain ⟨A, cap, rfl, hA⟩ := hR
 have HA := zH hA
 have HJ := zH hJ
 have HY := zH hY
 have HRL := zH hrl
 clear hA hJ hY hrl
 refine callsIn_of_wp Tryz.func74 rfl trivial ?_ rfl
 simp only [Tryz.ntmps74, List.size_toArray, List.length_cons, List.length_nil, Nat.reduceAdd, Nat.reduceSub, Array.replicate_succ, Array.replicate_zero, List.push_toArray, List.append_toArray, List.nil_append, List.cons_append]
 gi_wp2
 gi_loopw [10] (fun i wr => ∃ k : Nat, k ≤ rs.length ∧ i = .int .i64 k ∧ Fr G w wr ∧ J (edgesV (rs.take k)) wr) (fun i _ => rs.length - (intOf i).toNat)
 case atStart => exact ⟨0, Nat.zero_le _, rfl, Fr.of_ext (Ext.refl _), h0⟩
 case round =>
  obtain ⟨k, hk, rfl, hfr, hj⟩ := hrel
  have HFR := zH hfr
  have HJ1 := zH hj
  clear hfr hj
  by_cases hlt : k < rs.length
  ·obtain ⟨r, hr⟩ : ∃ r, rs[k]? = some r := ⟨_, List.getElem?_eq_getElem hlt⟩
   obtain ⟨g, off, rfl, hg, h1⟩ := HA.out (by omega)
   obtain ⟨B, cb, hc1, hp1, hB⟩ := h1 k r hr
   have c1 := HFR.out.cell hc1 hg
   have hlt2 : (k : Int) < (rs.length : Int) := by omega
   have HP := zH hp1
   have HB := zH hB
   have HR := zH hr
   have hr4 := HRL.out r (List.mem_of_getElem? hr)
   clear h1 hc1 hp1 hB hr
   gi_wp2
   generalize wr = W0 at *
   gi_loopw [16] (fun i wr => ∃ j : Nat, j ≤ r.length ∧ i = .int .i64 j ∧ Fr G W0 wr ∧ J (edgesV (rs.take k) ++ ringEn r j) wr) (fun i _ => r.length - (intOf i).toNat)
   case atStart => exact ⟨0, Nat.zero_le _, rfl, Fr.of_ext (Ext.refl _), by have h := HJ1.out; rwa [show ringEn r 0 = [] from rfl, List.append_nil]⟩
   case round =>
    obtain ⟨j, hjl, rfl, hfr, hj⟩ := hrel
    have HF2 := zH hfr
    have HJ2 := zH hj
    clear hfr hj
    by_cases hjt : j < r.length
    ·have hjt2 : (j : Int) < (r.length : Int) := by omega
     obtain ⟨a, ha⟩ : ∃ a, r[j]? = some a := ⟨_, List.getElem?_eq_getElem hjt⟩
     have hmod : (j + 1) % r.length < r.length := Nat.mod_lt _ (by omega)
     obtain ⟨b, hb⟩ : ∃ b, r[(j + 1) % r.length]? = some b := ⟨_, List.getElem?_eq_getElem hmod⟩
     have hEA := zH (edgeAt_some ha hb)
     have hpts : ∃ g2 off2, B = some ⟨g2, off2, none⟩ ∧ ¬ G g2 ∧ PtsAt w g2 off2 r := by
      obtain ⟨A2, c2, hv2, h2⟩ := HP.out
      injection hv2 with e1 _ _
      obtain ⟨g2, off2, h3, h4⟩ := h2 (fun e => by rw [e] at hjt; simp at hjt)
      exact ⟨g2, off2, e1.trans h3, HB.out _ (e1.trans h3), h4⟩
     obtain ⟨g2, off2, rfl, hg2, hpa⟩ := hpts
     have HFW := zH (HFR.out.trans HF2.out)
     have hga : ∀ i p, r[i]? = some p → r.getD i (0, 0) = p := fun i p h => by rw [List.getD_eq_getElem?_getD, h]; rfl
     have hpj := hpa j hjt
     have hpm := hpa _ hmod
     rw [hga j a ha] at hpj
     rw [hga _ b hb] at hpm
     have x0 := HFW.out.cell hpj.1 hg2
     have x1 := HFW.out.cell hpj.2 hg2
     have y0 := HFW.out.cell hpm.1 hg2
     have y1 := HFW.out.cell hpm.2 hg2
     have wj : IntKind.i64.wrap ((j : Int) + 1) = (j : Int) + 1 := by rw [IntKind.wrap_i64]; omega
     have hrem : ((j : Int) + 1).tmod (r.length : Int) = (((j + 1) % r.length : Nat) : Int) := by rw [Int.tmod_eq_emod_of_nonneg (by omega)]; simp
     have HHA := zH ha
     have HHB := zH hb
     clear hpa hpj hpm ha hb hga
     generalize hM : (j + 1) % r.length = M at *
     clear hM
     obtain ⟨a0, a1⟩ := a
     obtain ⟨b0, b1⟩ := b
     dsimp only at x0 x1 y0 y1
     by_cases hab : (a0, a1) = (b0, b1)
     ·injection hab with e0 e1
      subst e0
      subst e1
      have hne : (a0 == a0 && a1 == a1) = true := by simp
      have HED := zH (hEA.out.trans (if_pos rfl))
      have y0a := ((Ext.refl wr).alloc (.cells #[.int .i64 a0, .int .i64 a1] 44)).get y0
      have y1a := ((Ext.refl wr).alloc (.cells #[.int .i64 a0, .int .i64 a1] 44)).get y1
      have hx2 : Ext wr ((wr.alloc (.cells #[.int .i64 a0, .int .i64 a1] 44)).alloc (.cells #[.int .i64 a0, .int .i64 a1] 44)) := ((Ext.refl wr).alloc _).alloc _
      gi_wp2
      refine ⟨fun _ h => (by cases h), ?_⟩
      gi_wp2
      go_roundw
      case rel => exact ⟨j + 1, hjt, by go_num, HF2.out.trans (Fr.of_ext hx2), by rw [ringEn_succ_none HED.out]; exact HJ.out _ _ _ HJ2.out hx2⟩
      case measure => simp [intOf]; omega
     have hne : (a0 == b0 && a1 == b1) = false := by
      rw [Bool.and_eq_false_iff, beq_eq_false_iff_ne, beq_eq_false_iff_ne]
      by_cases h0 : a0 = b0
      ·exact .inr fun h1 => hab (by rw [h0, h1])
      exact .inl h0
     have HED := zH (hEA.out.trans (if_neg hab))
     clear hab
     have y0a := ((Ext.refl wr).alloc (.cells #[.int .i64 a0, .int .i64 a1] 44)).get y0
     have y1a := ((Ext.refl wr).alloc (.cells #[.int .i64 a0, .int .i64 a1] 44)).get y1
     have hx2 : Ext wr ((wr.alloc (.cells #[.int .i64 a0, .int .i64 a1] 44)).alloc (.cells #[.int .i64 b0, .int .i64 b1] 44)) := ((Ext.refl wr).alloc _).alloc _
     have hlen : (edgesV (rs.take k) ++ ringEn r j).length < N := by
      have h1 := (edges_pre HR.out (show j + 1 ≤ r.length by omega)).length_le
      rw [ringEn_succ_some HED.out] at h1
      simp at h1 ⊢
      omega
     obtain ⟨fn, tmps, assign, body, hy, hRd⟩ := HY.out _ ((a0, a1), (b0, b1)) _ (HJ.out _ _ _ HJ2.out hx2) hlen (by
      have h1 := edges_pre HR.out (show j + 1 ≤ r.length by omega)
      rw [ringEn_succ_some HED.out] at h1
      exact h1.subset (by simp))
     dsimp only [ptVal2] at hy
     gi_wp2
     refine hRd.mono ?_
     rintro e W3 (⟨rfl, hJ3, hk3⟩ | ⟨rfl, hJx3⟩)
     ·gi_wp2
      go_roundw
      case rel => exact ⟨j + 1, hjt, by go_num, (HF2.out.trans (Fr.of_ext hx2)).trans hk3, by rw [ringEn_succ_some HED.out, ← List.append_assoc]; exact hJ3⟩
      case measure => simp [intOf]; omega
     gi_wp2
     refine bodyPost_ret (results_none rfl _ _ _) rfl ?_
     exact ⟨⟨_, rfl⟩, .inr ⟨_, by have h := edges_pre HR.out (show j + 1 ≤ r.length by omega); rwa [ringEn_succ_some HED.out, ← List.append_assoc] at h, hJx3⟩⟩
    have hjn : ¬ (j : Int) < (r.length : Int) := by omega
    gi_wp2
    go_roundw
    case rel => exact ⟨k + 1, by omega, by go_num, HFR.out.trans HF2.out, by rw [edgesV_take HR.out]; have h := HJ2.out; rwa [show j = r.length by omega] at h⟩
    case measure => simp [intOf]; omega
  gi_wp2
  go_end0
  have e : k = rs.length := by omega
  subst e
  exact ⟨⟨_, rfl⟩, .inl ⟨_, rfl, by have h := HJ1.out; rwa [List.take_of_length_le (Nat.le_refl _)] at h⟩⟩
end Go.Proofs.YtaeeeailoiioaacGreat

namespace Go.Proofs.YtaeeeailoiioaacGreat
open Go.RowKit
attribute [local go_sem ↓] Go.wp_at_zero Go.wp_at_succ run_eql_point run_neq_point run_max_ii run_min_ii

theorem RingsO.ext {ok : Nat → Prop} {w w' : World} {v : Value} {rs : List Ring} (h : RingsO ok w v rs) (x : Ext w w') : RingsO ok w' v rs := by
  obtain ⟨A, cap, h1, h2⟩ := h
  refine ⟨A, cap, h1, fun h0 => ?_⟩
  obtain ⟨g, off, h3, h4, h5⟩ := h2 h0
  refine ⟨g, off, h3, h4, fun i r hr => ?_⟩
  obtain ⟨B, cb, h6, h7, h8⟩ := h5 i r hr
  exact ⟨B, cb, x.get h6, h7.ext x, h8⟩
theorem RingsO.imp {ok ok' : Nat → Prop} {w : World} {v : Value} {rs : List Ring} (h : RingsO ok w v rs) (hi : ∀ k, ok k → ok' k) : RingsO ok' w v rs := by
  obtain ⟨A, cap, h1, h2⟩ := h
  refine ⟨A, cap, h1, fun h0 => ?_⟩
  obtain ⟨g, off, h3, h4, h5⟩ := h2 h0
  refine ⟨g, off, h3, hi _ h4, fun i r hr => ?_⟩
  obtain ⟨B, cb, h6, h7, h8⟩ := h5 i r hr
  exact ⟨B, cb, h6, h7, fun A hA => hi _ (h8 A hA)⟩
theorem Tr.ringsO {b0 : Nat} {w : World} {v : Value} {rs : List Ring} (h : Tr b0 w v rs) : RingsO (fun k => b0 ≤ k ∧ k < w.heap.size) w v rs := by
 obtain ⟨vs, h1, h2, h3⟩ := h
 obtain ⟨_, ⟨rfl, hz⟩ | ⟨g, cap, rest, rfl, hb, hB, _⟩⟩ := h1
 ·exact ⟨none, 0, by rw [hz], fun h => by omega⟩
 refine ⟨_, cap, rfl, fun _ => ⟨g, 0, rfl, ⟨hb, hB.lt⟩, fun i r hr => ?_⟩⟩
 obtain ⟨B, cb, h4, h5, h6, h7⟩ := h3 i r hr
 refine ⟨B, cb, ?_, h5, fun A hA => ⟨h7 A hA, (h6 A hA).2⟩⟩
 rw [Nat.zero_add, hB.cell, List.getElem?_toArray, List.getElem?_append_left (by have := (List.getElem?_eq_some_iff.1 h4).1; exact this)]
 exact h4
theorem RingsO.nil (ok : Nat → Prop) (w : World) : RingsO ok w (.slice none 0 0) [] := ⟨none, 0, rfl, fun h => by simp at h⟩
set_option maxRecDepth 20000 in
set_option maxHeartbeats 4000000 in
theorem translate_no (u : Value) (rs : List Ring) (w : World) (hu : RingsV w u rs) (hv : okR rs = false) (hn : rs.length ≤ 100000) (hr : ∀ r, r ∈ rs → r.length ≤ 100000) :
  Calls Tryz.prog 73 #[u, .agg #[.int .i64 0, .int .i64 0]] w fun e w' => e = .returned (.slice none 0 0) ∧ Ext w w' := by
 have HC := zH (fun W (hW : Ext w W) => polyValid_any u rs W (hu.ext hW) hn hr)
 have HV := zH hv
 obtain ⟨Au, cu, rfl, _⟩ := hu
 clear hv hr
 go_enter Tryz.func73, Tryz.ntmps73
 have hE : Ext w (w.alloc (.cells #[.int .i64 0, .int .i64 0] 44)) := (Ext.refl _).alloc _
 go_upto_if 13 with (go_at_call 24; refine (HC.out _ hE).mono ?_; rintro e w1 ⟨rfl, hx1⟩)
 have hb0 : (!okR rs) = true := by rw [HV.out]; rfl
 rw [hb0]
 go_wp2_with fail
 go_ret
 exact ⟨rfl, hE.trans hx1⟩
set_option maxRecDepth 20000 in
set_option maxHeartbeats 4000000 in
theorem edges_any (u : Value) (rs : List Ring) (w : World) (hu : RingsV w u rs) (hn : rs.length ≤ 100000) (hr : ∀ r, r ∈ rs → r.length ≤ 100000) :
  Calls Tryz.prog 47 #[u] w fun e w' => ∃ Bx v, e = .returned (.func (.func 74) #[] #[.pointer (some ⟨Bx, 0, none⟩)]) ∧ w.heap.size ≤ Bx ∧ Bx < w'.heap.size ∧
   w'.cell? ⟨Bx, 0, none⟩ = some v ∧ RingsO (fun k => w.heap.size ≤ k ∧ k < w'.heap.size) w' v (if okR rs = true then rs else []) ∧ Ext w w' := by
 have HC : Calls Tryz.prog 73 #[u, .agg #[.int .i64 0, .int .i64 0]] w fun e w' => ∃ A n c, e = .returned (.slice A n c) ∧ RingsO (fun k => w.heap.size ≤ k ∧ k < w'.heap.size) w' (.slice A n c) (if okR rs = true then rs else []) ∧ Ext w w' := by
  by_cases h : okR rs = true
  ·rw [if_pos h]
   refine (translate0_tr u rs w hu h hn).mono ?_
   rintro e w' ⟨v, rfl, h2, h3⟩
   have h4 := h2.ringsO
   obtain ⟨A, c, rfl, _⟩ := id h4
   exact ⟨A, _, c, rfl, h4, h3⟩
  rw [if_neg h]
  refine (translate_no u rs w hu (by simpa using h) hn hr).mono ?_
  rintro e w' ⟨rfl, h3⟩
  exact ⟨none, 0, 0, rfl, RingsO.nil _ _, h3⟩
 generalize (if okR rs = true then rs else []) = qs at HC ⊢
 have HC2 := zH HC
 clear HC hu hr
 go_enter Tryz.func47, Tryz.ntmps47
 go_wp2_with (go_at_call 73; refine HC2.out.mono ?_; rintro e w1 ⟨A, n, c, rfl, hR, hx⟩)
 go_ret
 have hx2 : Ext w1 (w1.alloc (.cells #[.slice A n c] 22)) := (Ext.refl _).alloc _
 refine ⟨_, _, rfl, hx.size, by simp, ?_, (hR.ext hx2).imp (fun k h => ⟨h.1, Nat.lt_of_lt_of_le h.2 hx2.size⟩), hx.trans hx2⟩
 exact (Blk.new w1 _ _).cell 0
end Go.Proofs.YtaeeeailoiioaacGreat

namespace Go.Proofs.YtaeeeailoiioaacGreat
open Go.RowKit

section
variable {P : Program} {ρ : Operand → Value} {o : Oper} {w : World}
theorem ev_add {A B E : Int} {t t' : TypeId} {x y : Operand} (ho : o.op = .binOp .add t x y t') (hx : ρ x = .int .i64 A) (hy : ρ y = .int .i64 B) (hE : A + B = E) (h1 : -9223372036854775808 ≤ E) (h2 : E ≤ 9223372036854775807) : (execOp ρ o).run P w = .ok (.value (.int .i64 E)) w := by
  have hw : IntKind.i64.wrap (A + B) = E := by rw [IntKind.wrap_i64, hE]; omega
  unfold execOp
  simp only [ho, hx, hy]
  simp [go_sem, hw]
theorem ev_sub {A B E : Int} {t t' : TypeId} {x y : Operand} (ho : o.op = .binOp .sub t x y t') (hx : ρ x = .int .i64 A) (hy : ρ y = .int .i64 B) (hE : A - B = E) (h1 : -9223372036854775808 ≤ E) (h2 : E ≤ 9223372036854775807) : (execOp ρ o).run P w = .ok (.value (.int .i64 E)) w := by
  have hw : IntKind.i64.wrap (A - B) = E := by rw [IntKind.wrap_i64, hE]; omega
  unfold execOp
  simp only [ho, hx, hy]
  simp [go_sem, hw]
theorem ev_mul {A B E : Int} {t t' : TypeId} {x y : Operand} (ho : o.op = .binOp .mul t x y t') (hx : ρ x = .int .i64 A) (hy : ρ y = .int .i64 B) (hE : A * B = E) (h1 : -9223372036854775808 ≤ E) (h2 : E ≤ 9223372036854775807) : (execOp ρ o).run P w = .ok (.value (.int .i64 E)) w := by
  have hw : IntKind.i64.wrap (A * B) = E := by rw [IntKind.wrap_i64, hE]; omega
  unfold execOp
  simp only [ho, hx, hy]
  simp [go_sem, hw]
theorem ev_lss {A B : Int} {b : Bool} {t t' : TypeId} {x y : Operand} (ho : o.op = .binOp .lss t x y t') (hx : ρ x = .int .i64 A) (hy : ρ y = .int .i64 B) (hE : decide (A < B) = b) : (execOp ρ o).run P w = .ok (.value (.bool b)) w := by
  subst hE
  unfold execOp
  simp only [ho, hx, hy]
  simp [go_sem]
theorem ev_leq {A B : Int} {b : Bool} {t t' : TypeId} {x y : Operand} (ho : o.op = .binOp .leq t x y t') (hx : ρ x = .int .i64 A) (hy : ρ y = .int .i64 B) (hE : decide (A ≤ B) = b) : (execOp ρ o).run P w = .ok (.value (.bool b)) w := by
  subst hE
  unfold execOp
  simp only [ho, hx, hy]
  simp [go_sem]
theorem ev_gtr {A B : Int} {b : Bool} {t t' : TypeId} {x y : Operand} (ho : o.op = .binOp .gtr t x y t') (hx : ρ x = .int .i64 A) (hy : ρ y = .int .i64 B) (hE : decide (B < A) = b) : (execOp ρ o).run P w = .ok (.value (.bool b)) w := by
  subst hE
  unfold execOp
  simp only [ho, hx, hy]
  simp [go_sem]
theorem ev_geq {A B : Int} {b : Bool} {t t' : TypeId} {x y : Operand} (ho : o.op = .binOp .geq t x y t') (hx : ρ x = .int .i64 A) (hy : ρ y = .int .i64 B) (hE : decide (B ≤ A) = b) : (execOp ρ o).run P w = .ok (.value (.bool b)) w := by
  subst hE
  unfold execOp
  simp only [ho, hx, hy]
  simp [go_sem]
theorem ev_eql {A B : Int} {b : Bool} {t t' : TypeId} {x y : Operand} (ho : o.op = .binOp .eql t x y t') (hx : ρ x = .int .i64 A) (hy : ρ y = .int .i64 B) (hE : decide (A = B) = b) : (execOp ρ o).run P w = .ok (.value (.bool b)) w := by
  subst hE
  unfold execOp
  simp only [ho, hx, hy]
  simp [go_sem]
  by_cases h : A = B <;> simp [h]
theorem ev_neq {A B : Int} {b : Bool} {t t' : TypeId} {x y : Operand} (ho : o.op = .binOp .neq t x y t') (hx : ρ x = .int .i64 A) (hy : ρ y = .int .i64 B) (hE : decide (A ≠ B) = b) : (execOp ρ o).run P w = .ok (.value (.bool b)) w := by
  subst hE
  unfold execOp
  simp only [ho, hx, hy]
  simp [go_sem]
  by_cases h : A = B <;> simp [h]
theorem dec_t {p : Prop} [Decidable p] (h : p) : decide p = true := by simpa using h
theorem dec_f {p : Prop} [Decidable p] (h : ¬ p) : decide p = false := by simpa using h
theorem ev_index {g off n c k size off' : Nat} {z : Int} {t e : TypeId} {x y : Operand} (ho : o.op = .indexAddr t x y) (ht : P.underlying t = some (.slice e)) (hs : (P.info? e).map (·.size) = some size) (hx : ρ x = .slice (some ⟨g, off, none⟩) n c) (hy : ρ y = .int .i64 z) (hz : z = (k : Int))
  (hn : k < n) (hoff : off' = off + k * size) : (execOp ρ o).run P w = .ok (.value (.pointer (some ⟨g, off', none⟩))) w := by
 subst hz
 subst hoff
 have hel : P.elem t = e := by simp [Program.elem, ht]
 have h1 : P.underlying t = some (.slice (P.elem t)) := by rw [hel]; exact ht
 have hk : (0 : Int) ≤ (k : Int) ∧ (k : Int) < (n : Int) := by omega
 unfold execOp
 simp only [ho, hx, hy, Sem.run_bind, run_indexAt_slice _ _ _ _ _ _ _ h1, if_pos hk, hel]
 cases hq : P.info? e with
 | none => simp [hq] at hs
 | some i =>
  have h2 : i.size = size := by simpa [hq] using hs
  simp [sizeOf, typeInfo, hq, h2, Addr.add]
end

def ElT (P : Program) (t e : TypeId) (size bytes : Nat) : Prop := P.underlying t = some (.slice e) ∧ ∃ i z, P.info? e = some i ∧ i.zero = some z ∧ i.size = size ∧ i.bytes = bytes ∧ z.cells.size = size ∧ NoUL z.cells.toList ∧ 0 < size
theorem ElT.of {P : Program} {t e : TypeId} {size bytes : Nat} {z : Value} (h1 : P.underlying t = some (.slice e)) (h2 : (P.info? e).map (fun i => (i.zero, i.size, i.bytes)) = some (some z, size, bytes)) (h3 : z.cells.size = size) (h4 : NoUL z.cells.toList) (h5 : 0 < size) : ElT P t e size bytes := by
  obtain ⟨i0, hi, hz0, hz1, hz2⟩ := info_parts h2
  exact ⟨h1, i0, z, hi, hz0, hz1, hz2, h3, h4, h5⟩
theorem news_cells (w : World) (t : TypeId) (news : List Value) : ∀ (j : Nat) (u : Value), news[j]? = some u → (w.alloc (.cells news.toArray t)).cell? ((⟨w.heap.size, 0, none⟩ : Addr).add j) = some u := by
  intro j u hj
  have h := (Blk.new w t news.toArray).cell j
  have e : (⟨w.heap.size, 0, none⟩ : Addr).add j = ⟨w.heap.size, j, none⟩ := by unfold Addr.add; split <;> simp_all
  rw [e, h, List.getElem?_toArray]
  exact hj
section
variable {P : Program} {l : List Oper} {Q : Exit → Act → World → Prop} {md : Region.Mode} {S : World → Prop} {i j ix : Nat} {oi oj : Oper} {fuel : Nat} {listed listed' : Array Bool} {a : Act} {w w0 : World} {m : List Ent}
theorem md_app (hj : l[j]? = some oj) (hr : Region.ready md l.toArray listed = [j]) (hw : Region.wanted oj (yielded l.toArray a.tmps) = true) (s x : Operand) (t : TypeId)
  (ho : oj.op = .call { callee := .builtin .append, args := #[s, x], argTypes := #[t, t] }) {e : TypeId} {size bytes : Nat} (el : ElT P t e size bytes) {v : Value} {n : Nat} {xs : List Value} (hs : a.eval s = v)
  (hH : Hp w0 w m) (hi : m[ix]? = some (.row e size v n xs)) (k c : Nat) (news : List Value) (hx : a.eval x = .slice (some ⟨w.heap.size, 0, none⟩) k c) (hl : news.length = k * size) (h1 : ∀ u ∈ news, u.oneCell' = true) (hnu : NoUL news)
  (hm : 0 < k) (h63 : n + k ≤ maxLen) (hbytes : (n + k) * bytes ≤ 140737488355328) (hl' : listed.setIfInBounds j true = listed')
  (h : ∀ g cap w', (v.ownBlock = some g ∨ w.heap.size ≤ g) → Hp w0 w' (m.set ix (.row e size (.slice (some ⟨g, 0, none⟩) (n + k) cap) (n + k) (xs ++ news))) → Dig w w' → (w.alloc (.cells news.toArray e)).grownBy w' v.ownBlock →
   S w' ∧ wpAnyH P md l.toArray Q S fuel listed' (a.put oj.dst (.slice (some ⟨g, 0, none⟩) (n + k) cap)) w') : wpAnyH P md l.toArray Q S (fuel + 1) listed a (w.alloc (.cells news.toArray e)) := by
 obtain ⟨ht, i, z, e1, e2, e3, e4, e5, e6, e7⟩ := el
 have hx0 : Ext w (w.alloc (.cells news.toArray e)) := (Ext.refl w).alloc _
 have hH1 := hH.step hx0
 refine md_appendF hj hr hw s x t ho w0.heap.size e i z size bytes ht e1 e2 e3 e4 e5 e7 e6 v n xs hs (hH1.row hi) ⟨w.heap.size, 0, none⟩ k c news hx hl (news_cells w e news) h1 hnu hm h63 hbytes (Nat.le_trans hH.ext.size hx0.size) hl' ?_
 intro g cap w' hf h2 h3 _
 exact h g cap w' (hf.imp id (fun q => Nat.le_trans hx0.size q)) (hH1.grow hi hf h2 h3) ((Dig.of_ext hx0).trans (hH1.growDig hi h3)) h3
theorem mv_app {rest : List Oper} {o : Oper} {ops : Array Oper} (hw : Region.wanted o (yielded ops a.tmps) = true) (s x : Operand) (t : TypeId)
  (ho : o.op = .call { callee := .builtin .append, args := #[s, x], argTypes := #[t, t] }) {e : TypeId} {size bytes : Nat} (el : ElT P t e size bytes) {v : Value} {n : Nat} {xs : List Value} (hs : a.eval s = v)
  (hH : Hp w0 w m) (hi : m[ix]? = some (.row e size v n xs)) (k c : Nat) (news : List Value) (hx : a.eval x = .slice (some ⟨w.heap.size, 0, none⟩) k c) (hl : news.length = k * size) (h1 : ∀ u ∈ news, u.oneCell' = true) (hnu : NoUL news)
  (hm : 0 < k) (h63 : n + k ≤ maxLen) (hbytes : (n + k) * bytes ≤ 140737488355328)
  (h : ∀ g cap w', (v.ownBlock = some g ∨ w.heap.size ≤ g) → Hp w0 w' (m.set ix (.row e size (.slice (some ⟨g, 0, none⟩) (n + k) cap) (n + k) (xs ++ news))) → Dig w w' → (w.alloc (.cells news.toArray e)).grownBy w' v.ownBlock →
   wpList P ops Q rest (a.put o.dst (.slice (some ⟨g, 0, none⟩) (n + k) cap)) w') : wpList P ops Q (o :: rest) a (w.alloc (.cells news.toArray e)) := by
 obtain ⟨ht, i, z, e1, e2, e3, e4, e5, e6, e7⟩ := el
 have hx0 : Ext w (w.alloc (.cells news.toArray e)) := (Ext.refl w).alloc _
 have hH1 := hH.step hx0
 refine wpList_if hw (wp_append_rowF s x t ho w0.heap.size e i z size bytes ht e1 e2 e3 e4 e5 e7 e6 v n xs hs (hH1.row hi) ⟨w.heap.size, 0, none⟩ k c news hx hl (news_cells w e news) h1 hnu hm h63 hbytes (Nat.le_trans hH.ext.size hx0.size) ?_)
 intro g cap w' hf h2 h3 _
 exact h g cap w' (hf.imp id (fun q => Nat.le_trans hx0.size q)) (hH1.grow hi hf h2 h3) ((Dig.of_ext hx0).trans (hH1.growDig hi h3)) h3
theorem Hp.addBlk {w' : World} {g : Nat} {t : TypeId} {cs : List Value} (h : Hp w0 w m) (x : Ext w w') (hb : Blk w' g t cs.toArray) (hg : w.heap.size ≤ g) (hn : NoUL cs) : Hp w0 w' (m ++ [.blk g t cs]) :=
  (h.step x).add ⟨Nat.le_trans h.ext.size hg, hb, hn⟩ (fun i f hf k hk e => by
    injection e with e
    have := h.lt hf hk
    omega)
end
section
variable {P : Program} {l : List Oper} {Q : Exit → Act → World → Prop} {md : Region.Mode} {S : World → Prop} {i ix : Nat} {oi op : Oper} {fuel : Nat} {listed listed' : Array Bool} {a : Act} {w w0 : World} {m : List Ent} {ops : Array Oper} {rest : List Oper}
theorem mv_alloc {T : TypeId} {zs : List Value} (hw : Region.wanted op (yielded ops a.tmps) = true) (hv : (execOp a.eval op).run P w = .ok (.value (.pointer (some ⟨w.heap.size, 0, none⟩))) (w.alloc (.cells zs.toArray T)))
    (hH : Hp w0 w m) (hn : NoUL zs) (h : ∀ X w', Hp w0 w' (m ++ [.blk X T zs]) → Ext w w' → w.heap.size ≤ X → wpList P ops Q rest (a.put op.dst (.pointer (some ⟨X, 0, none⟩))) w') : wpList P ops Q (op :: rest) a w :=
  mv_val hw hv (h _ _ (hH.alloc T zs hn) ((Ext.refl w).alloc _) (Nat.le_refl _))
theorem mv_lit {T : TypeId} {zs : List Value} {n : Nat} (hw : Region.wanted op (yielded ops a.tmps) = true) (hv : (execOp a.eval op).run P w = .ok (.value (.slice (some ⟨w.heap.size, 0, none⟩) n n)) (w.alloc (.cells zs.toArray T)))
    (hH : Hp w0 w m) (hn : NoUL zs) (h : ∀ X w', Hp w0 w' (m ++ [.blk X T zs]) → Ext w w' → w.heap.size ≤ X → wpList P ops Q rest (a.put op.dst (.slice (some ⟨X, 0, none⟩) n n)) w') : wpList P ops Q (op :: rest) a w :=
  mv_val hw hv (h _ _ (hH.alloc T zs hn) ((Ext.refl w).alloc _) (Nat.le_refl _))
theorem md_lit {T : TypeId} {zs : List Value} {n : Nat} (hi : l[i]? = some oi) (hr : Region.ready md l.toArray listed = [i]) (hw : Region.wanted oi (yielded l.toArray a.tmps) = true)
  (hv : (execOp a.eval oi).run P w = .ok (.value (.slice (some ⟨w.heap.size, 0, none⟩) n n)) (w.alloc (.cells zs.toArray T))) (hl : listed.setIfInBounds i true = listed') (hH : Hp w0 w m) (hn : NoUL zs)
  (h : ∀ X w', Hp w0 w' (m ++ [.blk X T zs]) → Ext w w' → w.heap.size ≤ X → S w' ∧ wpAnyH P md l.toArray Q S fuel listed' (a.put oi.dst (.slice (some ⟨X, 0, none⟩) n n)) w') : wpAnyH P md l.toArray Q S (fuel + 1) listed a w := by
 obtain ⟨h1, h2⟩ := h _ _ (hH.alloc T zs hn) ((Ext.refl w).alloc _) (Nat.le_refl _)
 exact md_one hi hr hw hv h1 hl h2
theorem mv_st (hw : Region.wanted op (yielded ops a.tmps) = true) (ty : TypeId) (x y : Operand) (ho : op.op = .store ty x y) {g : Nat} {t : TypeId} {cs : List Value} (hH : Hp w0 w m) (hi : m[ix]? = some (.blk g t cs)) (o : Nat) (vs : List Value)
    (hx : a.eval x = .pointer (some ⟨g, o, none⟩)) (hy : a.eval y = .agg vs.toArray) (hl : o + vs.length ≤ cs.length) (hz : (P.info? ty).map (·.size) = some vs.length) (h1 : ∀ v, v ∈ vs → v.oneCell' = true) (hn : NoUL vs)
    (h : ∀ w', Hp w0 w' (m.set ix (.blk g t (cs.take o ++ vs ++ cs.drop (o + vs.length)))) → Dig w w' → Own g w w' → wpList P ops Q rest (a.put op.dst undef) w') : wpList P ops Q (op :: rest) a w :=
  wpList_if hw (wp_store_mid ty x y ho g o vs.toArray hx hy (by simpa using hH.there hi o vs.length hl) (by simpa using hz) (all_oneCell_toArray h1) (by
    rw [List.toList_toArray]
    exact h _ (hH.store hi o vs hl hn) (hH.storeDig hi o vs) (own_setCells w g o vs)))
theorem md_st (hli : l[i]? = some oi) (hr : Region.ready md l.toArray listed = [i]) (hw : Region.wanted oi (yielded l.toArray a.tmps) = true) (hlt : listed.setIfInBounds i true = listed') (ty : TypeId) (x y : Operand) (ho : oi.op = .store ty x y) {g : Nat} {t : TypeId} {cs : List Value} (hH : Hp w0 w m) (hi : m[ix]? = some (.blk g t cs)) (o : Nat) (vs : List Value)
    (hx : a.eval x = .pointer (some ⟨g, o, none⟩)) (hy : a.eval y = .agg vs.toArray) (hl : o + vs.length ≤ cs.length) (hz : (P.info? ty).map (·.size) = some vs.length) (h1 : ∀ v, v ∈ vs → v.oneCell' = true) (hn : NoUL vs)
    (h : ∀ w', Hp w0 w' (m.set ix (.blk g t (cs.take o ++ vs ++ cs.drop (o + vs.length)))) → Dig w w' → Own g w w' → S w' ∧ wpAnyH P md l.toArray Q S fuel listed' (a.put oi.dst undef) w') : wpAnyH P md l.toArray Q S (fuel + 1) listed a w :=
  wpAnyH_one_l hli hr (fun K hK => by
    rw [if_pos hw]
    refine wp_store_mid ty x y ho g o vs.toArray hx hy (by simpa using hH.there hi o vs.length hl) (by simpa using hz) (all_oneCell_toArray h1) ?_
    rw [List.toList_toArray]
    obtain ⟨k1, k2⟩ := h _ (hH.store hi o vs hl hn) (hH.storeDig hi o vs) (own_setCells w g o vs)
    exact hK.out _ _ k1 (fun _ => by rw [hlt]; exact k2))
theorem wp_store_cell (ty : TypeId) (x y : Operand) (ho : op.op = .store ty x y) (g o : Nat) (v : Value) (hx : a.eval x = .pointer (some ⟨g, o, none⟩)) (hy : a.eval y = v) (ht : w.there g o 1)
    (hz : (P.info? ty).map (·.size) = some 1) (hc : v.cells = #[v]) (h1 : v.oneCell' = true) {K : Act → World → Prop} (h : K (a.put op.dst undef) (w.setCells g o [v])) : op.wp P a w K Q := by
  unfold Oper.wp execOp
  simp only [ho, hx, hy, Instr.storeAt, Instr.sureAddr, Sem.run_bind, Sem.run_pure, Result.andThen_ok, run_storeVar_cell w g o ty v ht hz hc h1]
  exact h
theorem mv_st1 (hw : Region.wanted op (yielded ops a.tmps) = true) (ty : TypeId) (x y : Operand) (ho : op.op = .store ty x y) {g : Nat} {t : TypeId} {cs : List Value} (hH : Hp w0 w m) (hi : m[ix]? = some (.blk g t cs)) (o : Nat) (v : Value)
    (hx : a.eval x = .pointer (some ⟨g, o, none⟩)) (hy : a.eval y = v) (hl : o + 1 ≤ cs.length) (hz : (P.info? ty).map (·.size) = some 1) (hc : v.cells = #[v]) (h1 : v.oneCell' = true) (hn : NoUL [v])
    (h : ∀ w', Hp w0 w' (m.set ix (.blk g t (cs.take o ++ [v] ++ cs.drop (o + 1)))) → Dig w w' → Own g w w' → wpList P ops Q rest (a.put op.dst undef) w') : wpList P ops Q (op :: rest) a w :=
  wpList_if hw (wp_store_cell ty x y ho g o v hx hy (hH.there hi o 1 hl) hz hc h1 (h _ (hH.store hi o [v] hl hn) (hH.storeDig hi o [v]) (own_setCells w g o [v])))
theorem mv_stRow (hw : Region.wanted op (yielded ops a.tmps) = true) (ty : TypeId) (x y : Operand) (ho : op.op = .store ty x y) {g n cap size : Nat} {t : TypeId} {xs : List Value} (hH : Hp w0 w m) (hi : m[ix]? = some (.row t size (.slice (some ⟨g, 0, none⟩) n cap) n xs)) (o : Nat) (vs : List Value)
    (hx : a.eval x = .pointer (some ⟨g, o, none⟩)) (hy : a.eval y = .agg vs.toArray) (hl : o + vs.length ≤ xs.length) (hz : (P.info? ty).map (·.size) = some vs.length) (h1 : ∀ v, v ∈ vs → v.oneCell' = true) (hn : NoUL vs)
    (h : ∀ w', Hp w0 w' (m.set ix (.row t size (.slice (some ⟨g, 0, none⟩) n cap) n (xs.take o ++ vs ++ xs.drop (o + vs.length)))) → Dig w w' → Own g w w' → wpList P ops Q rest (a.put op.dst undef) w') : wpList P ops Q (op :: rest) a w :=
  wpList_if hw (wp_store_mid ty x y ho g o vs.toArray hx hy (by simpa using (hH.row hi).there o vs.length hl) (by simpa using hz) (all_oneCell_toArray h1) (by
    rw [List.toList_toArray]
    exact h _ (hH.storeRow hi o vs hl hn) (hH.storeRowDig hi o vs) (own_setCells w g o vs)))
theorem mv_ld (hw : Region.wanted op (yielded ops a.tmps) = true) (ty : TypeId) (x : Operand) (ho : op.op = .load ty x) (g o : Nat) (cs : List Value) {d : TypeDesc} (hx : a.eval x = .pointer (some ⟨g, o, none⟩)) (hb : w.rangeAt g o cs)
    (hu : P.underlying ty = some d) (hd : d.isRow = true) (hz : (P.info? ty).map (·.size) = some cs.length) (h : wpList P ops Q rest (a.put op.dst (.agg cs.toArray)) w) : wpList P ops Q (op :: rest) a w :=
  wpList_if hw (wp_load_mid ty x ho g o hx cs d hb hu hd hz h)
theorem mv_ld1 {g o : Nat} {v : Value} (hw : Region.wanted op (yielded ops a.tmps) = true) (hc : w.cell? ⟨g, o, none⟩ = some v) (hv : ∀ x : World, x.cell? ⟨g, o, none⟩ = some v → (execOp a.eval op).run P x = .ok (.value v) x)
    (h : wpList P ops Q rest (a.put op.dst v) w) : wpList P ops Q (op :: rest) a w := mv_val hw (hv w hc) h
theorem md_ld1 {g o : Nat} {v : Value} (hi : l[i]? = some oi) (hs : Region.noSelect l.toArray = true) (hf : Region.free md l.toArray listed i = true) (hr : (Region.ready md l.toArray listed).contains i = true)
    (hQ : ∀ c a w, Q (.panic c) (a.put oi.dst v) w → Q (.panic c) a w) (hw : Region.wanted oi (yielded l.toArray a.tmps) = true) (hc : ∀ x, S x → x.cell? ⟨g, o, none⟩ = some v) (hv : ∀ x : World, x.cell? ⟨g, o, none⟩ = some v → (execOp a.eval oi).run P x = .ok (.value v) x) (hS : S w)
    (hl : listed.setIfInBounds i true = listed') (h : wpAnyH P md l.toArray Q S fuel listed' (a.put oi.dst v) w) : wpAnyH P md l.toArray Q S (fuel + 1) listed a w :=
  md_val hi hs hf hr hQ hw (fun x hx => hv x (hc x hx)) hS hl h
end
end Go.Proofs.YtaeeeailoiioaacGreat

namespace Go.Proofs.YtaeeeailoiioaacGreat
open Go.RowKit

theorem flat_snoc {α : Type} (f : α → List Value) (es : List α) (e : α) : es.flatMap f ++ f e = (es ++ [e]).flatMap f := by simp
theorem range_part {w : World} {g o : Nat} {cs : List Value} (h : w.rangeAt g o cs) (k n : Nat) : w.rangeAt g (o + k) ((cs.drop k).take n) := by
  intro j v hv
  have hj : j < n := by
    have := (List.getElem?_eq_some_iff.1 hv).1
    rw [List.length_take] at this
    omega
  rw [List.getElem?_take_of_lt hj, List.getElem?_drop] at hv
  have := h (k + j) v hv
  rw [show o + (k + j) = o + k + j by omega] at this
  exact this
theorem cell_of_range {w : World} {g o : Nat} {v : Value} {cs : List Value} (h : w.rangeAt g o (v :: cs)) : w.cell? ⟨g, o, none⟩ = some v := by
  have := h 0 v rfl
  simpa using this
theorem rcmp_eq_i {q r : Rat} : rcmp q r = 0 ↔ q = r := rcmp_eq
theorem rl_i64 (k : Int) (h1 : -9223372036854775808 ≤ k) (h2 : k ≤ 9223372036854775807) : Nm.rl (k : Rat) ≤ 2 := by
  unfold Nm.rl
  rw [Rat.num_intCast, Rat.den_intCast]
  have h1 : Nm.nl k.natAbs ≤ 2 := Nm.nl_le (by omega)
  have h2 : Nm.nl 1 ≤ 1 := Nm.nl_le (by decide)
  omega
theorem Hp.add2 {w0 wb w : World} {m : List Ent} {X Y : Nat} {T U : TypeId} {zs us : List Value} (h : Hp w0 wb m) (x : Ext wb w) (B1 : Blk w X T zs.toArray) (B2 : Blk w Y U us.toArray) (z1 : wb.heap.size ≤ X) (z2 : wb.heap.size ≤ Y) (hne : X ≠ Y) (n1 : NoUL zs) (n2 : NoUL us) :
  Hp w0 w (m ++ [.blk X T zs] ++ [.blk Y U us]) := by
 have h1 := h.addBlk x B1 z1 n1
 refine h1.add ⟨Nat.le_trans h.ext.size z2, B2, n2⟩ (fun i f hf k hk e => ?_)
 injection e with e
 rcases Nat.lt_trichotomy i m.length with hl | hl | hl
 ·rw [List.getElem?_append_left hl] at hf
  have := h.lt hf hk
  omega
 ·subst hl
  rw [List.getElem?_append_right (Nat.le_refl _)] at hf
  simp at hf
  subst hf
  injection hk with hk
  omega
 rw [List.getElem?_append_right (Nat.le_of_lt hl), List.getElem?_eq_none (by simp; omega)] at hf
 cases hf
theorem elSpan : ElT Tryz.prog 31 39 8 128 := ElT.of (z := .agg z8) Tryz.underlying31 (by kernel_rfl) rfl (by simp [NoUL, Value.cells]) (by decide)
theorem elRat : ElT Tryz.prog 47 27 4 64 := ElT.of (z := .agg z4) Tryz.underlying47 (by kernel_rfl) rfl (by simp [NoUL, Value.cells]) (by decide)
theorem elInt : ElT Tryz.prog 32 3 1 8 := ElT.of (z := .int .i64 0) Tryz.underlying32 (by kernel_rfl) rfl (by simp [NoUL, Value.cells]) (by decide)
theorem elMark : ElT Tryz.prog 56 59 5 72 := ElT.of (z := .agg #[.bool false, .slice none 0 0, .bool false, .slice none 0 0, .int .i64 0]) Tryz.underlying56 (by kernel_rfl) rfl (by simp [NoUL, Value.cells]) (by decide)
theorem zd {P : Program} {ops : Array Oper} {rest : List Oper} {op : Oper} {a a' : Act} {w : World} {Q : Exit → Act → World → Prop} {ty : TypeId} {x : Operand} {d : TypeDesc} (g o : Nat) (cs : List Value) (hb : w.rangeAt g o cs) (hu : P.underlying ty = some d) (h : wpList P ops Q rest a' w) (hw : Region.wanted op (yielded ops a.tmps) = true := by rfl) (ho : op.op = .load ty x := by rfl) (hx : a.eval x = .pointer (some ⟨g, o, none⟩) := by rfl) (hd : d.isRow = true := by rfl) (hz : (P.info? ty).map (·.size) = some cs.length := by kernel_rfl) (ha : a.put op.dst (.agg cs.toArray) = a' := by simp only [Act.put, zA, zB, zC] <;> rfl) : wpList P ops Q (op :: rest) a w := by subst ha; exact mv_ld hw ty x ho g o cs hx hb hu hd hz h
theorem ze {P : Program} {ops : Array Oper} {rest : List Oper} {op : Oper} {a a' : Act} {w : World} {Q : Exit → Act → World → Prop} (g o : Nat) (v : Value) (hb : w.rangeAt g o [v]) (h : wpList P ops Q rest a' w) (hw : Region.wanted op (yielded ops a.tmps) = true := by rfl) (hv : ∀ x : World, x.cell? ⟨g, o, none⟩ = some v → (execOp a.eval op).run P x = .ok (.value v) x := by intro x hq; (try simp only [Nat.mul_one] at hq); go_simp <;> with_reducible rfl) (ha : a.put op.dst v = a' := by simp only [Act.put, zA, zB, zC] <;> rfl) : wpList P ops Q (op :: rest) a w := by subst ha; exact mv_ld1 hw (cell_of_range hb) hv h
theorem zf {a' : Act} {P : Program} {l : List Oper} {Q : Exit → Act → World → Prop} {md : Region.Mode} {b : World} {oi : Oper} {fuel : Nat} {listed : Array Bool} {a : Act} {w : World} (i : Nat) (listed' : Array Bool) (g o : Nat) (v : Value) (hb : b.rangeAt g o [v]) (hS : Ext b w) (h : wpAnyH P md l.toArray Q (fun x => Ext b x) fuel listed' a' w) (hi : l[i]? = some oi := by rfl) (hs : Region.noSelect l.toArray = true := by kernel_rfl) (hf : Region.free md l.toArray listed i = true := by kernel_rfl) (hr : (Region.ready md l.toArray listed).contains i = true := by kernel_rfl) (hQ : ∀ c a w, Q (.panic c) (a.put oi.dst v) w → Q (.panic c) a w := by intro _ _ _ h; exact h) (hw : Region.wanted oi (yielded l.toArray a.tmps) = true := by rfl) (hv : ∀ x : World, x.cell? ⟨g, o, none⟩ = some v → (execOp a.eval oi).run P x = .ok (.value v) x := by intro x hq; (try simp only [Nat.mul_one] at hq); go_simp <;> with_reducible rfl) (hl : listed.setIfInBounds i true = listed' := by kernel_rfl) (ha : a.put oi.dst v = a' := by simp only [Act.put, zA, zB, zC] <;> rfl) : wpAnyH P md l.toArray Q (fun x => Ext b x) (fuel + 1) listed a w := by subst ha; exact md_ld1 hi hs hf hr hQ hw (fun x hx => Ext.get hx (cell_of_range hb)) hv hS hl h
theorem zg {a' : Act} {P : Program} {l : List Oper} {Q : Exit → Act → World → Prop} {md : Region.Mode} {b : World} {oi : Oper} {fuel : Nat} {listed : Array Bool} {a : Act} {w : World} (i : Nat) (listed' : Array Bool) {ty : TypeId} {x : Operand} {d : TypeDesc} (g o : Nat) (cs : List Value) (hb : b.rangeAt g o cs) (hu : P.underlying ty = some d) (hS : Ext b w) (h : wpAnyH P md l.toArray Q (fun x => Ext b x) fuel listed' a' w) (hi : l[i]? = some oi := by rfl) (hs : Region.noSelect l.toArray = true := by kernel_rfl) (hf : Region.free md l.toArray listed i = true := by kernel_rfl) (hr : (Region.ready md l.toArray listed).contains i = true := by kernel_rfl) (ho : oi.op = .load ty x := by rfl) (hQ : ∀ c a w, Q (.panic c) (a.put oi.dst (.agg cs.toArray)) w → Q (.panic c) a w := by intro _ _ _ h; exact h) (hw : Region.wanted oi (yielded l.toArray a.tmps) = true := by rfl) (hx : a.eval x = .pointer (some ⟨g, o, none⟩) := by rfl) (hd : d.isRow = true := by rfl) (hz : (P.info? ty).map (·.size) = some cs.length := by kernel_rfl) (hl : listed.setIfInBounds i true = listed' := by kernel_rfl) (ha : a.put oi.dst (.agg cs.toArray) = a' := by simp only [Act.put, zA, zB, zC] <;> rfl) : wpAnyH P md l.toArray Q (fun x => Ext b x) (fuel + 1) listed a w := by subst ha; exact md_range hi hs hf hr ty x ho g o cs d hQ hw hx (fun x hx => range_ext hb hx) hu hd hz hS hl h
abbrev rc (r : RV) : List Value := [.bool r.n, .slice r.p r.l r.c, .bool r.m, .slice r.p2 r.l2 r.c2]
abbrev rz : List Value := [.bool false, .slice none 0 0, .bool false, .slice none 0 0]
abbrev ro {α : Type} (t : TypeId) (s : Nat) (A : Option Addr) (n c : Nat) (f : α → List Value) (es : List α) : Ent := .row t s (.slice A n c) n (List.flatMap f es)
theorem ez1 {P : Program} {ρ : Operand → Value} {o : Oper} {w : World} {A B E : Int} {t t' : TypeId} {x y : Operand} (h : -9223372036854775808 ≤ E ∧ E ≤ 9223372036854775807) (ho : o.op = .binOp .add t x y t' := by rfl) (hx : ρ x = .int .i64 A := by rfl) (hy : ρ y = .int .i64 B := by rfl) (hE : A + B = E := by first | rfl | omega) : (execOp ρ o).run P w = .ok (.value (.int .i64 E)) w := ev_add ho hx hy hE h.1 h.2
theorem ez2 {P : Program} {ρ : Operand → Value} {o : Oper} {w : World} {A B E : Int} {t t' : TypeId} {x y : Operand} (h : -9223372036854775808 ≤ E ∧ E ≤ 9223372036854775807) (ho : o.op = .binOp .sub t x y t' := by rfl) (hx : ρ x = .int .i64 A := by rfl) (hy : ρ y = .int .i64 B := by rfl) (hE : A - B = E := by first | rfl | omega) : (execOp ρ o).run P w = .ok (.value (.int .i64 E)) w := ev_sub ho hx hy hE h.1 h.2
theorem ez3 {P : Program} {ρ : Operand → Value} {o : Oper} {w : World} {A B E : Int} {t t' : TypeId} {x y : Operand} (h : -9223372036854775808 ≤ E ∧ E ≤ 9223372036854775807) (ho : o.op = .binOp .mul t x y t' := by rfl) (hx : ρ x = .int .i64 A := by rfl) (hy : ρ y = .int .i64 B := by rfl) (hE : A * B = E := by first | rfl | omega) : (execOp ρ o).run P w = .ok (.value (.int .i64 E)) w := ev_mul ho hx hy hE h.1 h.2
theorem ezl {P : Program} {ρ : Operand → Value} {o : Oper} {w : World} {A B : Int} {b : Bool} {t t' : TypeId} {x y : Operand} (ho : o.op = .binOp .lss t x y t' := by rfl) (hx : ρ x = .int .i64 A := by rfl) (hy : ρ y = .int .i64 B := by rfl) (e : decide (A < B) = b) : (execOp ρ o).run P w = .ok (.value (.bool b)) w := ev_lss ho hx hy e
theorem eze {P : Program} {ρ : Operand → Value} {o : Oper} {w : World} {A B : Int} {b : Bool} {t t' : TypeId} {x y : Operand} (ho : o.op = .binOp .leq t x y t' := by rfl) (hx : ρ x = .int .i64 A := by rfl) (hy : ρ y = .int .i64 B := by rfl) (e : decide (A ≤ B) = b) : (execOp ρ o).run P w = .ok (.value (.bool b)) w := ev_leq ho hx hy e
theorem ezg {P : Program} {ρ : Operand → Value} {o : Oper} {w : World} {A B : Int} {b : Bool} {t t' : TypeId} {x y : Operand} (ho : o.op = .binOp .gtr t x y t' := by rfl) (hx : ρ x = .int .i64 A := by rfl) (hy : ρ y = .int .i64 B := by rfl) (e : decide (B < A) = b) : (execOp ρ o).run P w = .ok (.value (.bool b)) w := ev_gtr ho hx hy e
theorem ezo {P : Program} {ρ : Operand → Value} {o : Oper} {w : World} {A B : Int} {b : Bool} {t t' : TypeId} {x y : Operand} (ho : o.op = .binOp .geq t x y t' := by rfl) (hx : ρ x = .int .i64 A := by rfl) (hy : ρ y = .int .i64 B := by rfl) (e : decide (B ≤ A) = b) : (execOp ρ o).run P w = .ok (.value (.bool b)) w := ev_geq ho hx hy e
theorem ezq {P : Program} {ρ : Operand → Value} {o : Oper} {w : World} {A B : Int} {b : Bool} {t t' : TypeId} {x y : Operand} (ho : o.op = .binOp .eql t x y t' := by rfl) (hx : ρ x = .int .i64 A := by rfl) (hy : ρ y = .int .i64 B := by rfl) (e : decide (A = B) = b) : (execOp ρ o).run P w = .ok (.value (.bool b)) w := ev_eql ho hx hy e
theorem ezn {P : Program} {ρ : Operand → Value} {o : Oper} {w : World} {A B : Int} {b : Bool} {t t' : TypeId} {x y : Operand} (ho : o.op = .binOp .neq t x y t' := by rfl) (hx : ρ x = .int .i64 A := by rfl) (hy : ρ y = .int .i64 B := by rfl) (e : decide (A ≠ B) = b) : (execOp ρ o).run P w = .ok (.value (.bool b)) w := ev_neq ho hx hy e
theorem ezi {P : Program} {ρ : Operand → Value} {o : Oper} {w : World} {g off n c k size off' : Nat} {z : Int} {t e : TypeId} {x y : Operand} (ht : P.underlying t = some (.slice e)) (ho : o.op = .indexAddr t x y := by rfl) (hs : (P.info? e).map (·.size) = some size := by kernel_rfl) (hx : ρ x = .slice (some ⟨g, off, none⟩) n c := by rfl) (hy : ρ y = .int .i64 z := by rfl) (hz : z = (k : Int) := by omega) (l : k < n) (f : off' = off + k * size) : (execOp ρ o).run P w = .ok (.value (.pointer (some ⟨g, off', none⟩))) w := ev_index ho ht hs hx hy hz l f
theorem zy {P : Program} {ops : Array Oper} {Q : Exit → Act → World → Prop} {id : Nat} {a : Act} {w : World} (h : wpAnyH P .any ops Q (fun x => Ext w x) ops.size (Array.replicate ops.size false) a w.drew) (hm : P.follows .mixedOrders = true := by kernel_rfl) : (Code.region id ops true).wp P Q a w := wp_region_held_drew (S := fun x => Ext w x) hm (Ext.refl _).drew (fun _ => h)
theorem zn {P : Program} {ops : Array Oper} {rest : List Oper} {d : Option Nat} {a a' : Act} {w : World} {Q : Exit → Act → World → Prop} {u : Value} (h : wpList P ops Q rest a' w) (ha : a.put d u = a' := by simp only [Act.put, zA, zB, zC] <;> rfl) : ∃ v, Ending.returned u = .returned v ∧ wpList P ops Q rest (a.put d v) w := ⟨u, rfl, by rw [ha]; exact h⟩
theorem zm {P : Program} {l : List Oper} {Q : Exit → Act → World → Prop} {md : Region.Mode} {S : World → Prop} {fuel : Nat} {lt : Array Bool} {d : Option Nat} {a a' : Act} {w : World} {u : Value} (hS : S w) (h : wpAnyH P md l.toArray Q S fuel lt a' w) (ha : a.put d u = a' := by simp only [Act.put, zA, zB, zC] <;> rfl) : ∃ v, Ending.returned u = .returned v ∧ S w ∧ wpAnyH P md l.toArray Q S fuel lt (a.put d v) w := ⟨u, rfl, hS, by rw [ha]; exact h⟩
theorem zb {w : World} : Ext w w.drew := (Ext.refl _).drew
theorem zc {P : Program} {ops : Array Oper} {rest : List Oper} {op : Oper} {a : Act} {w : World} {Q : Exit → Act → World → Prop} {f : FuncId} {args : Array Value} {Φ : Ending → World → Prop} (hc : Calls P f args w Φ) (h : ∀ e w', Φ e w' → ∃ v, e = .returned v ∧ wpList P ops Q rest (a.put op.dst v) w') (hw : Region.wanted op (yielded ops a.tmps) = true := by rfl) (hv : (execOp a.eval op).run P w = .ok (.enter f args) w := by go_simp) : wpList P ops Q (op :: rest) a w := mv_call hw hv hc h

section
variable {P : Program} {l : List Oper} {Q : Exit → Act → World → Prop} {md : Region.Mode} {S : World → Prop} {j i : Nat} {dj : Option Tmp} {T : TypeId} {zs : List Value} {b w0 : World} {m : List Ent} {fuel : Nat} {listed li lj lij : Array Bool} {a : Act} {w : World} {oi oj : Oper} {v : Value}
end
section
variable {P : Program} {l : List Oper} {S : World → Prop} {oi : Oper} {a : Act}
end
/-! A load of a variable that the region's last operation turns: it may come up anywhere among the calls. -/
section
variable {P : Program} {l : List Oper} {Q : Exit → Act → World → Prop} {md : Region.Mode} {S : World → Prop} {j i : Nat} {dj : Option Tmp} {u : Value} {b : World} {fuel : Nat} {listed li lj lij : Array Bool} {a : Act} {w : World} {oi oj : Oper} {v : Value}
end
/-! Two slices appended to in one statement. -/
section
variable {P : Program} {l : List Oper} {Q : Exit → Act → World → Prop} {md : Region.Mode} {S : World → Prop} {i j ix jx X : Nat} {oi oj : Oper} {fuel : Nat} {listed listed' : Array Bool} {a : Act} {w w0 : World} {m : List Ent}
def At (P : Program) (md : Region.Mode) (l : List Oper) (Q : Exit → Act → World → Prop) (S : World → Prop) (fuel : Nat) (listed : Array Bool) (a : Act) (w : World) (i : Nat) (oi : Oper) : Prop :=
  ∀ K' : Act → World → Prop, Shut (∀ a w, S w → (S w → wpAnyH P md l.toArray Q S fuel (listed.setIfInBounds i true) a w) → K' a w) → if Region.wanted oi (yielded l.toArray a.tmps) = true then Oper.wp P oi a w K' Q else K' (a.put oi.dst undef) w
theorem at_one (hi : l[i]? = some oi) (hr : Region.ready md l.toArray listed = [i]) (h : At P md l Q S fuel listed a w i oi) : wpAnyH P md l.toArray Q S (fuel + 1) listed a w := wpAnyH_one_l hi hr h
theorem at_or (hi : l[i]? = some oi) (hj : l[j]? = some oj) (hr : Region.ready md l.toArray listed = [i, j]) (h : At P md l Q S fuel listed a w i oi) (h2 : At P md l Q S fuel listed a w j oj) : wpAnyH P md l.toArray Q S (fuel + 1) listed a w :=
  wpAnyH_ready hr (by simp) (AllReadyH.cons (by rw [List.getElem?_toArray]; exact hi) h (AllReadyH.cons (by rw [List.getElem?_toArray]; exact hj) h2 AllReadyH.nil))
theorem at_lit {T : TypeId} {zs : List Value} {n : Nat} (hw : Region.wanted oi (yielded l.toArray a.tmps) = true)
    (hv : (execOp a.eval oi).run P w = .ok (.value (.slice (some ⟨w.heap.size, 0, none⟩) n n)) (w.alloc (.cells zs.toArray T))) (hl : listed.setIfInBounds i true = listed') (hH : Hp w0 w m) (hn : NoUL zs)
    (h : ∀ X w', Hp w0 w' (m ++ [.blk X T zs]) → Ext w w' → w.heap.size ≤ X → S w' ∧ wpAnyH P md l.toArray Q S fuel listed' (a.put oi.dst (.slice (some ⟨X, 0, none⟩) n n)) w') : At P md l Q S fuel listed a w i oi := fun K hK => by
  obtain ⟨h1, h2⟩ := h _ _ (hH.alloc T zs hn) ((Ext.refl w).alloc _) (Nat.le_refl _)
  rw [if_pos hw]
  unfold Oper.wp
  rw [hv]
  exact hK.out _ _ h1 (fun _ => by rw [hl]; exact h2)
theorem blk_cells {X : Nat} {t : TypeId} {news : List Value} (h : Blk w X t news.toArray) : ∀ (j : Nat) (u : Value), news[j]? = some u → w.cell? ((⟨X, 0, none⟩ : Addr).add j) = some u := by
  intro j u hj
  have e : (⟨X, 0, none⟩ : Addr).add j = ⟨X, j, none⟩ := by unfold Addr.add; split <;> simp_all
  rw [e, h.cell, List.getElem?_toArray]
  exact hj
theorem at_app (hw : Region.wanted oj (yielded l.toArray a.tmps) = true) (s x : Operand) (t : TypeId)
    (ho : oj.op = .call { callee := .builtin .append, args := #[s, x], argTypes := #[t, t] }) {e : TypeId} {size bytes : Nat} (el : ElT P t e size bytes) {v : Value} {n : Nat} {xs : List Value} (hs : a.eval s = v)
    (hH : Hp w0 w m) (hi : m[ix]? = some (.row e size v n xs)) (k c : Nat) (news : List Value) {t2 : TypeId} (hb : m[jx]? = some (.blk X t2 news)) (hx : a.eval x = .slice (some ⟨X, 0, none⟩) k c) (hl : news.length = k * size) (h1 : ∀ u ∈ news, u.oneCell' = true) (hnu : NoUL news)
    (hm : 0 < k) (h63 : n + k ≤ maxLen) (hbytes : (n + k) * bytes ≤ 140737488355328) (hl' : listed.setIfInBounds j true = listed')
    (h : ∀ g cap w', (v.ownBlock = some g ∨ w.heap.size ≤ g) → Hp w0 w' (m.set ix (.row e size (.slice (some ⟨g, 0, none⟩) (n + k) cap) (n + k) (xs ++ news))) → Dig w w' → w.grownBy w' v.ownBlock →
      S w' ∧ wpAnyH P md l.toArray Q S fuel listed' (a.put oj.dst (.slice (some ⟨g, 0, none⟩) (n + k) cap)) w') : At P md l Q S fuel listed a w j oj := fun K hK => by
  obtain ⟨ht, i, z, e1, e2, e3, e4, e5, e6, e7⟩ := el
  rw [if_pos hw]
  refine wp_append_rowF s x t ho w0.heap.size e i z size bytes ht e1 e2 e3 e4 e5 e7 e6 v n xs hs (hH.row hi) ⟨X, 0, none⟩ k c news hx hl (blk_cells (hH.blk hb)) h1 hnu hm h63 hbytes hH.ext.size ?_
  intro g cap w' hf h2 h3 _
  obtain ⟨k1, k2⟩ := h g cap w' hf (hH.grow hi hf h2 h3) (hH.growDig hi h3) h3
  exact hK.out _ _ k1 (fun _ => by rw [hl']; exact k2)
end
end Go.Proofs.YtaeeeailoiioaacGreat

namespace Go.Proofs.YtaeeeailoiioaacGreat.mrk
open Go.RowKit
attribute [local go_sem ↓] Go.wp_at_zero Go.wp_at_succ run_max_ii run_min_ii

set_option maxRecDepth 20000 in
set_option maxHeartbeats 4000000 in
theorem swapRange_any {α : Type} (enc : α → List Value) (hk : ∀ x, (enc x).length = 5) (h1 : ∀ x, ∀ v, v ∈ enc x → v.oneCell' = true) (w0 w : World) (g cap a b n : Nat) (T : TypeId) (rest : List Value) (xs : List α) (cb : Value) (hst : Sw w0 w g T enc rest xs) (ha : a + n ≤ xs.length) (hb : b + n ≤ xs.length) (hsz : xs.length ≤ 100000) :
  Calls Tryz.prog 139 #[.slice (some ⟨g, 0, none⟩) xs.length cap, .int .i64 a, .int .i64 b, .int .i64 n, cb] w fun e w' => e = .returned (.tuple #[]) ∧ Sw w0 w' g T enc rest (swpN xs a b n) := by
 have HST0 := zH hst
 clear hst
 go_enter Tryz.func139, Tryz.ntmps139
 go_wp2_with fail
 go_loopg [10] n (fun c i wr => ∃ t : Nat, t ≤ n ∧ c = n - t ∧ i = .int .i64 t ∧ Sw w0 wr g T enc rest (swpN xs a b t))
 case atStart => exact ⟨0, Nat.zero_le _, rfl, rfl, HST0.out⟩
 case round =>
  clear HST0
  obtain ⟨t, ht, rfl, rfl, hst⟩ := hrel
  by_cases hlt : t < n
  ·have hlt2 : (t : Int) < (n : Int) := by omega
   obtain ⟨i, hi⟩ : ∃ i, i = a + t := ⟨_, rfl⟩
   obtain ⟨j, hj⟩ : ∃ j, j = b + t := ⟨_, rfl⟩
   have e1 : (a : Int) + (t : Int) = (i : Int) := by omega
   have e2 : (b : Int) + (t : Int) = (j : Int) := by omega
   have HI := zH hi
   have HJ := zH hj
   have hnl : (swpN xs a b t).length = xs.length := swpN_len _ _ _ _
   have HSW := zH (swpN_succ xs a b t)
   rw [← hi, ← hj] at HSW
   have k1_ : i < xs.length := by omega
   have k2_ : j < xs.length := by omega
   clear hi hj
   generalize swpN xs a b t = ys at *
   have wi : IntKind.i64.wrap (i : Int) = (i : Int) := by rw [IntKind.wrap_i64]; omega
   have wj : IntKind.i64.wrap (j : Int) = (j : Int) := by rw [IntKind.wrap_i64]; omega
   have bi : (i : Int) < (xs.length : Int) := by omega
   have bj : (j : Int) < (xs.length : Int) := by omega
   have bi2 : i < xs.length := by omega
   have bj2 : j < xs.length := by omega
   have hN : (xs.length : Int) ≤ 100000 := by omega
   obtain ⟨x, hx⟩ : ∃ x, ys[i]? = some x := ⟨_, List.getElem?_eq_getElem (by omega)⟩
   obtain ⟨y, hy⟩ : ∃ y, ys[j]? = some y := ⟨_, List.getElem?_eq_getElem (by omega)⟩
   have Hx := zH hx
   have Hy := zH hy
   have HLi := zH (show i < ys.length by omega)
   have HLj := zH (show j < ys.length by omega)
   have HE := zH (swp_eq hx hy)
   have HST := zH hst
   clear hx hy hst
   go_upto_region 3 with fail
   refine wp_region_held_drew (S := fun x => Own g wr x) (by kernel_rfl) (Own.refl _ _).drew (fun _ => ?_)
   refine zv 0 (bs 24 1) (Own.refl _ _).drew ?_
   refine zv 1 (bs 24 3) (Own.refl _ _).drew ?_
   refine zv 2 (bs 24 7) (Own.refl _ _).drew ?_
   refine zv 3 (bs 24 15) (Own.refl _ _).drew ?_
   refine zv 4 (bs 24 31) (Own.refl _ _).drew ?_
   refine zv 5 (bs 24 63) (Own.refl _ _).drew ?_
   refine zv 6 (bs 24 127) (Own.refl _ _).drew ?_
   refine zv 7 (bs 24 255) (Own.refl _ _).drew ?_
   refine zv 8 (bs 24 511) (Own.refl _ _).drew ?_
   refine zv 9 (bs 24 1023) (Own.refl _ _).drew ?_
   refine zv 10 (bs 24 2047) (Own.refl _ _).drew ?_
   refine zv 11 (bs 24 4095) (Own.refl _ _).drew ?_
   refine zv 12 (bs 24 8191) (Own.refl _ _).drew ?_
   refine zv 14 (bs 24 24575) (Own.refl _ _).drew ?_
   refine zv 15 (bs 24 57343) (Own.refl _ _).drew ?_
   refine zv 16 (bs 24 122879) (Own.refl _ _).drew ?_
   refine zv 17 (bs 24 253951) (Own.refl _ _).drew ?_
   refine zv 18 (bs 24 516095) (Own.refl _ _).drew ?_
   refine md_loads2 (i := 13) (j := 19) (li := (bs 24 524287)) (lj := (bs 24 1040383)) (listed' := (bs 24 1048575)) (by rfl) (by rfl) (by kernel_rfl) (by kernel_rfl) (by kernel_rfl) (by kernel_rfl) (by kernel_rfl) (by kernel_rfl) (by kernel_rfl) 59 _ _ (by rfl) (by rfl) (by rfl) (by rfl) g (j * 5) (i * 5) (enc y) (enc x) _ Tryz.underlying59 (by rfl) (by rfl) (by rfl) (by rfl) (by rfl) (HST.out.ext (Ext.refl _).drew |>.read Hy.out hk) (HST.out.ext (Ext.refl _).drew |>.read Hx.out hk) (by rw [hk]; kernel_rfl) (by rw [hk]; kernel_rfl) (Own.refl _ _).drew (by rfl) ?_
   try simp only [Act.put, zA, zB, zC]
   refine zv 20 (bs 24 2097151) (Own.refl _ _).drew ?_
   have s1_ := (HST.out.ext (Ext.refl _).drew).put (i := i) HLi.out hk y
   have s2_ := s1_.put (i := j) (by rw [List.length_set]; exact HLj.out) hk x
   refine md_rstore (i := 21) (listed' := (bs 24 4194303)) (by rfl) (by kernel_rfl) (by rfl) 59 _ _ (by rfl) g (i * 5) (enc y) (by rfl) (by rfl) (by rw [hk]; exact (HST.out.ext (Ext.refl _).drew).there HLi.out hk) (by rw [hk]; kernel_rfl) (h1 y) (Own.setCells_l _ _ (Own.refl _ _).drew) (by kernel_rfl) ?_
   (try simp only [Act.put])
   refine zv 22 (bs 24 8388607) (Own.setCells_l _ _ (Own.refl _ _).drew) ?_
   refine md_rstore (i := 23) (listed' := (bs 24 16777215)) (by rfl) (by kernel_rfl) (by rfl) 59 _ _ (by rfl) g (j * 5) (enc x) (by rfl) (by rfl) (by rw [hk]; exact s1_.there (by rw [List.length_set]; exact HLj.out) hk) (by rw [hk]; kernel_rfl) (h1 x) (Own.setCells_l _ _ (Own.setCells_l _ _ (Own.refl _ _).drew)) (by kernel_rfl) ?_
   (try simp only [Act.put])
   refine wpAnyH_done (by kernel_rfl) ?_ _
   have HS2 := zH s2_
   clear s1_ s2_
   generalize (World.setCells _ g (j * 5) (enc x)) = w2 at *
   go_wp2_with fail
   go_roundg (n - (t + 1))
   case measure => omega
   case rel => exact ⟨t + 1, hlt, rfl, by go_num, by rw [HSW.out, HE.out]; exact HS2.out⟩
  obtain rfl : t = n := by omega
  have HST := zH hst
  have hge : ¬ (t : Int) < (t : Int) := by omega
  clear hst
  go_wp2_with fail
  go_end0
  exact ⟨rfl, HST.out⟩

set_option maxRecDepth 20000 in
set_option maxHeartbeats 4000000 in
theorem rotate_any {α : Type} (enc : α → List Value) (hk : ∀ x, (enc x).length = 5) (h1 : ∀ x, ∀ v, v ∈ enc x → v.oneCell' = true) (w0 w : World) (g cap a m b N : Nat) (T : TypeId) (rest : List Value) (P A B S : List α) (cb : Value) (hst : Sw w0 w g T enc rest (P ++ (A ++ (B ++ S)))) (ha : P.length = a) (hm : a + A.length = m) (hb : m + B.length = b) (hA : A ≠ []) (hB : B ≠ []) (hN : (P ++ (A ++ (B ++ S))).length = N) (hsz : N ≤ 100000) :
  Calls Tryz.prog 121 #[.slice (some ⟨g, 0, none⟩) N cap, .int .i64 a, .int .i64 m, .int .i64 b, cb] w fun e w' => e = .returned (.tuple #[]) ∧ Sw w0 w' g T enc rest (P ++ (B ++ (A ++ S))) := by
 have hlen : P.length + (A.length + (B.length + S.length)) = N := by rw [← hN]; simp
 have HST := zH hst
 have HAB := zH (And.intro hA hB)
 have HN := zH hN
 have HLN := zH hlen
 have HPA := zH (show P.length + A.length = m by omega)
 have e1 : (m : Int) - (a : Int) = (A.length : Int) := by omega
 have e2 : (b : Int) - (m : Int) = (B.length : Int) := by omega
 have b1 : m ≤ 100000 := by omega
 have b2 : b ≤ 100000 := by omega
 have b3 : A.length ≤ 100000 := by omega
 have b4 : B.length ≤ 100000 := by omega
 have w1_ : IntKind.i64.wrap (A.length : Int) = (A.length : Int) := by rw [IntKind.wrap_i64]; omega
 have w2_ : IntKind.i64.wrap (B.length : Int) = (B.length : Int) := by rw [IntKind.wrap_i64]; omega
 clear hst ha hm hb hA hB hN hlen
 go_enter Tryz.func121, Tryz.ntmps121
 go_wp2_with fail
 go_loopg [10, 11] (A.length + B.length) (fun c u v wr => ∃ (P' A' B' S' : List α), c = A'.length + B'.length ∧ u = .int .i64 A'.length ∧ v = .int .i64 B'.length ∧ A' ≠ [] ∧ B' ≠ [] ∧ P'.length + A'.length = m ∧ (P' ++ (A' ++ (B' ++ S'))).length = N ∧ P' ++ (B' ++ (A' ++ S')) = P ++ (B ++ (A ++ S)) ∧ Sw w0 wr g T enc rest (P' ++ (A' ++ (B' ++ S'))))
 case atStart => exact ⟨P, A, B, S, rfl, rfl, rfl, HAB.out.1, HAB.out.2, HPA.out, HN.out, rfl, HST.out⟩
 case round =>
  clear HST HAB HN HLN HPA e1 e2 b3 b4 w1_ w2_
  obtain ⟨P', A', B', S', rfl, rfl, rfl, hA, hB, hPm, hN, hT, hst⟩ := hrel
  have hlen : P'.length + (A'.length + (B'.length + S'.length)) = N := by rw [← hN]; simp
  have hA0 : 0 < A'.length := by cases A' with | nil => exact absurd rfl hA | cons _ _ => simp
  have hB0 : 0 < B'.length := by cases B' with | nil => exact absurd rfl hB | cons _ _ => simp
  have HT := zH hT
  have HST := zH hst
  have HN := zH hN
  clear hT hst hA hB hN
  obtain ⟨i, hi⟩ : ∃ i, A'.length = i := ⟨_, rfl⟩
  obtain ⟨j, hj⟩ : ∃ j, B'.length = j := ⟨_, rfl⟩
  rw [hi] at hPm hlen hA0 ⊢
  rw [hj] at hlen hB0 ⊢
  have HI := zH hi
  have HJ := zH hj
  clear hi hj
  obtain ⟨p, hp⟩ : ∃ p, P'.length = p := ⟨_, rfl⟩
  rw [hp] at hPm hlen
  have HP := zH hp
  clear hp
  have e1 : (m : Int) - (i : Int) = (p : Int) := by omega
  have b3 : i ≤ 100000 := by omega
  have b4 : j ≤ 100000 := by omega
  have b5 : p ≤ 100000 := by omega
  have w1_ : IntKind.i64.wrap (i : Int) = (i : Int) := by rw [IntKind.wrap_i64]; omega
  have w2_ : IntKind.i64.wrap (j : Int) = (j : Int) := by rw [IntKind.wrap_i64]; omega
  have w3_ : IntKind.i64.wrap (p : Int) = (p : Int) := by rw [IntKind.wrap_i64]; omega
  have HLN := zH hlen
  have HPM := zH hPm
  clear hlen hPm
  rcases Nat.lt_trichotomy i j with hij | hij | hij
  ·-- i < j
   obtain ⟨d, hd⟩ : ∃ d, d + i = j := ⟨j - i, by omega⟩
   have e2 : (j : Int) - (i : Int) = (d : Int) := by omega
   obtain ⟨q, hq⟩ : ∃ q, q = m + d := ⟨_, rfl⟩
   have e3 : (m : Int) + (j : Int) - (i : Int) = (q : Int) := by omega
   have n1 : ¬ (i : Int) = (j : Int) := by omega
   have n2 : ((i : Int) != (j : Int)) = true := by simp; omega
   have n3 : ¬ (j : Int) < (i : Int) := by omega
   have w4_ : IntKind.i64.wrap (d : Int) = (d : Int) := by rw [IntKind.wrap_i64]; omega
   have w5_ : IntKind.i64.wrap (q : Int) = (q : Int) := by rw [IntKind.wrap_i64]; have := HLN.out; have := HPM.out; omega
   have w6_ : IntKind.i64.wrap ((m : Int) + (j : Int)) = (m : Int) + (j : Int) := by rw [IntKind.wrap_i64]; omega
   have hBs : B' = B'.take d ++ B'.drop d := (List.take_append_drop d B').symm
   have l1 : (B'.take d).length = d := by rw [List.length_take]; have := HJ.out; omega
   have l2 : (B'.drop d).length = i := by rw [List.length_drop]; have := HJ.out; omega
   have HC := zH (swapRange_any enc hk h1 w0 wr g cap p q i T rest (P' ++ (A' ++ (B' ++ S'))) cb HST.out (by rw [HN.out]; have := HLN.out; omega) (by rw [HN.out]; have := HLN.out; have := HPM.out; omega) (by rw [HN.out]; exact hsz))
   rw [HN.out] at HC
   have hcut : swpN (P' ++ (A' ++ (B' ++ S'))) p q i = P' ++ (B'.drop d ++ (B'.take d ++ (A' ++ S'))) := by
    have h := swpN_cut P' A' (B'.take d) (B'.drop d) S' i HI.out l2
    rw [l1, HP.out, show p + i + d = q by have := HPM.out; omega, ← List.append_assoc (B'.take d) (B'.drop d) S', ← hBs] at h
    exact h
   rw [hcut] at HC
   have hTT : P' ++ (B'.take d ++ (B'.drop d ++ (A' ++ S'))) = P ++ (B ++ (A ++ S)) := by rw [← List.append_assoc (B'.take d), ← hBs]; exact HT.out
   have HTT := zH hTT
   have HD := zH (And.intro hd (And.intro l1 l2))
   clear hcut hTT hBs l1 l2 hd hq hij
   go_wp2_with (go_at_call 139; refine HC.out.mono ?_; rintro e w2 ⟨rfl, hs2⟩)
   go_roundg (i + d)
   case measure => have := HD.out.1; have := HI.out; have := HJ.out; omega
   case rel => exact ⟨P', B'.drop d, B'.take d, A' ++ S', by rw [HD.out.2.1, HD.out.2.2], by rw [HD.out.2.2], by rw [HD.out.2.1], by intro h; have := HD.out.2.2; rw [h] at this; simp at this; omega, by intro h; have h2 := HD.out.2.1; rw [h] at h2; simp at h2; omega, by rw [HP.out, HD.out.2.2]; exact HPM.out, by have := HLN.out; have := HD.out; simp [HP.out, HI.out, HD.out.2.1, HD.out.2.2] at *; omega, HTT.out, hs2⟩
  ·-- i = j
   subst hij
   have n2 : ((i : Int) != (i : Int)) = false := by simp
   have HC := zH (swapRange_any enc hk h1 w0 wr g cap p m i T rest (P' ++ (A' ++ (B' ++ S'))) cb HST.out (by rw [HN.out]; have := HLN.out; omega) (by rw [HN.out]; have := HLN.out; have := HPM.out; omega) (by rw [HN.out]; exact hsz))
   rw [HN.out] at HC
   have hcut : swpN (P' ++ (A' ++ (B' ++ S'))) p m i = P ++ (B ++ (A ++ S)) := by
    have h := swpN_cut P' A' [] B' S' i HI.out HJ.out
    rw [HP.out, List.length_nil, Nat.add_zero, HPM.out] at h
    exact h.trans HT.out
   rw [hcut] at HC
   clear hcut
   go_wp2_with (go_at_call 139; refine HC.out.mono ?_; rintro e w2 ⟨rfl, hs2⟩)
   go_end0
   exact ⟨rfl, hs2⟩
  -- i > j
  obtain ⟨d, hd⟩ : ∃ d, d + j = i := ⟨i - j, by omega⟩
  have e2 : (i : Int) - (j : Int) = (d : Int) := by omega
  have n2 : ((i : Int) != (j : Int)) = true := by simp; omega
  have n3 : (j : Int) < (i : Int) := by omega
  have w4_ : IntKind.i64.wrap (d : Int) = (d : Int) := by rw [IntKind.wrap_i64]; omega
  have hAs : A' = A'.take j ++ A'.drop j := (List.take_append_drop j A').symm
  have l1 : (A'.take j).length = j := by rw [List.length_take]; have := HI.out; omega
  have l2 : (A'.drop j).length = d := by rw [List.length_drop]; have := HI.out; omega
  have HC := zH (swapRange_any enc hk h1 w0 wr g cap p m j T rest (P' ++ (A' ++ (B' ++ S'))) cb HST.out (by rw [HN.out]; have := HLN.out; omega) (by rw [HN.out]; have := HLN.out; have := HPM.out; omega) (by rw [HN.out]; exact hsz))
  rw [HN.out] at HC
  have hcut : swpN (P' ++ (A' ++ (B' ++ S'))) p m j = (P' ++ B') ++ (A'.drop j ++ (A'.take j ++ S')) := by
   have h := swpN_cut P' (A'.take j) (A'.drop j) B' S' j l1 HJ.out
   rw [l2, HP.out, show p + j + d = m by have := HPM.out; omega, ← List.append_assoc (A'.take j), ← hAs] at h
   rw [h]; simp only [List.append_assoc]
  rw [hcut] at HC
  have hTT : (P' ++ B') ++ (A'.take j ++ (A'.drop j ++ S')) = P ++ (B ++ (A ++ S)) := by rw [← List.append_assoc (A'.take j), ← hAs, List.append_assoc]; exact HT.out
  have HTT := zH hTT
  have HD := zH (And.intro hd (And.intro l1 l2))
  clear hcut hTT hAs l1 l2 hd hij
  go_wp2_with (go_at_call 139; refine HC.out.mono ?_; rintro e w2 ⟨rfl, hs2⟩)
  go_roundg (d + j)
  case measure => have := HD.out.1; have := HI.out; have := HJ.out; omega
  case rel => exact ⟨P' ++ B', A'.drop j, A'.take j, S', by rw [HD.out.2.1, HD.out.2.2], by rw [HD.out.2.2], by rw [HD.out.2.1], by intro h; have h2 := HD.out.2.2; rw [h] at h2; simp at h2; omega, by intro h; have h2 := HD.out.2.1; rw [h] at h2; simp at h2; omega, by rw [List.length_append, HP.out, HJ.out, HD.out.2.2]; have := HPM.out; have := HD.out.1; omega, by have := HLN.out; have := HD.out; simp [HP.out, HJ.out, HD.out.2.1, HD.out.2.2] at *; omega, HTT.out, hs2⟩

set_option maxRecDepth 20000 in
set_option maxHeartbeats 4000000 in
theorem insertion_any {α : Type} (enc : α → List Value) (hk : ∀ x, (enc x).length = 5) (h1 : ∀ x, ∀ v, v ∈ enc x → v.oneCell' = true) (lt : α → α → Bool) (W : Stb.Wk lt) (w0 w : World) (g cap a b N : Nat) (T : TypeId) (rest : List Value) (P X S : List α) (hc : (∀ wr, Own g w0 wr → ∀ x y : α, Calls Tryz.prog 51 #[.agg (enc x).toArray, .agg (enc y).toArray] wr fun e w' => ∃ z : Int, e = .returned (.int .i64 z) ∧ (z < 0 ↔ lt x y = true) ∧ Ext wr w')) (hst : Sw w0 w g T enc rest (P ++ (X ++ S))) (ha : P.length = a) (hb : a + X.length = b) (hN : (P ++ (X ++ S)).length = N) (hsz : N ≤ 100000) :
  Calls Tryz.prog 105 #[.slice (some ⟨g, 0, none⟩) N cap, .int .i64 a, .int .i64 b, .func (.func 51) #[] #[]] w fun e w' => e = .returned (.tuple #[]) ∧ Sw w0 w' g T enc rest (P ++ (Stb.stab lt X ++ S)) := by
 have hlen : P.length + (X.length + S.length) = N := by rw [← hN]; simp
 have HC := zH hc
 have HST0 := zH (show Sw w0 w g T enc rest (P ++ (Stb.stab lt (X.take 1) ++ (X.drop 1 ++ S))) by rw [Stb.stab_take1, ← List.append_assoc (X.take 1), List.take_append_drop]; exact hst)
 have b1 : a ≤ 100000 := by omega
 have b2 : b ≤ 100000 := by omega
 have HPA := zH ha
 have HLN := zH hlen
 have HB := zH hb
 clear hst hc ha hb hN hlen
 go_enter Tryz.func105, Tryz.ntmps105
 go_wp2_with fail
 go_loopg [8] (b + 1 - a) (fun c v wr => ∃ t i : Nat, 1 ≤ t ∧ (t ≤ X.length ∨ t = 1) ∧ i = a + t ∧ c = b + 1 - i + 1 ∧ v = .int .i64 i ∧ Sw w0 wr g T enc rest (P ++ (Stb.stab lt (X.take t) ++ (X.drop t ++ S))))
 case atStart => exact ⟨1, a + 1, Nat.le_refl _, Or.inr rfl, rfl, by have := HB.out; omega, by go_num, HST0.out⟩
 case round =>
  clear HST0
  obtain ⟨t, i, ht1, ht2, hi, rfl, rfl, hst⟩ := hrel
  have hbb := HB.out
  have hib : i ≤ 100001 := by have := HLN.out; have := HPA.out; omega
  by_cases hlt : i < b
  ·have hlt2 : (i : Int) < (b : Int) := by omega
   have htl : t < X.length := by omega
   obtain ⟨y, hy⟩ : ∃ y, X[t] = y := ⟨_, rfl⟩
   have hdr : X.drop t = y :: X.drop (t + 1) := by rw [← hy]; exact List.drop_eq_getElem_cons htl
   have htk : X.take (t + 1) = X.take t ++ [y] := by rw [List.take_succ_eq_append_getElem htl, hy]
   have HSN := zH (show Stb.stab lt (X.take (t + 1)) = Stb.ins lt (Stb.stab lt (X.take t)) y by rw [htk, Stb.stab_snoc])
   have HSRT := zH (Stb.stab_srt W (X.take t))
   have hLl : (Stb.stab lt (X.take t)).length = t := by rw [Stb.stab_len, List.length_take]; omega
   rw [hdr] at hst
   generalize Stb.stab lt (X.take t) = L at *
   have HLL := zH hLl
   have HTL := zH htl
   have HI := zH hi
   have HST1 := zH (show Sw w0 wr g T enc rest (P ++ (L.take t ++ y :: (L.drop t ++ (X.drop (t + 1) ++ S)))) by rw [List.take_of_length_le (by omega), List.drop_of_length_le (by omega)]; exact hst)
   clear hst hdr htk hy hLl hi ht2 hbb
   go_wp2_with fail
   go_loopg [9] t (fun c v wr => ∃ u j : Nat, u ≤ t ∧ c = 0 + u ∧ j = a + u ∧ v = .int .i64 j ∧ (∀ z, z ∈ L.drop u → lt y z = true) ∧ Sw w0 wr g T enc rest (P ++ (L.take u ++ y :: (L.drop u ++ (X.drop (t + 1) ++ S)))))
   case atStart => exact ⟨t, i, Nat.le_refl _, by omega, HI.out, rfl, by intro z hz; rw [List.drop_of_length_le (by have := HLL.out; omega)] at hz; simp at hz, HST1.out⟩
   case round =>
    clear HST1
    obtain ⟨u, j, hu, rfl, hj, rfl, hall, hst⟩ := hrel
    have HALL := zH hall
    have HST := zH hst
    have hjb : j ≤ 100000 := by have := HI.out; omega
    have wj : IntKind.i64.wrap (j : Int) = (j : Int) := by rw [IntKind.wrap_i64]; omega
    have hlu : (P ++ (L.take u ++ y :: (L.drop u ++ (X.drop (t + 1) ++ S)))).length = N := by
     have h1 := HLN.out; have h2 := HTL.out; have h3 := HLL.out
     simp; omega
    have HJ := zH hj
    have HU := zH hu
    clear hall hst
    by_cases hu0 : 0 < u
    ·obtain ⟨p, hp⟩ : ∃ p, p + 1 = j := ⟨j - 1, by omega⟩
     obtain ⟨q, hq⟩ : ∃ q, q + 1 = u := ⟨u - 1, by omega⟩
     have hja : (a : Int) < (j : Int) := by omega
     have e1 : (j : Int) - 1 = (p : Int) := by omega
     have wp : IntKind.i64.wrap (p : Int) = (p : Int) := by rw [IntKind.wrap_i64]; omega
     have hPa := HPA.out
     have hql : q < L.length := by have := HLL.out; omega
     have gx : (P ++ (L.take u ++ y :: (L.drop u ++ (X.drop (t + 1) ++ S))))[p]? = some L[q] := by
      have h := get_mid P (L.take u) (y :: (L.drop u ++ (X.drop (t + 1) ++ S))) q (by rw [List.length_take]; omega)
      rw [show P.length + q = p by omega] at h
      rw [h, List.getElem?_take, if_pos (by omega)]
      exact List.getElem?_eq_getElem hql
     have gy : (P ++ (L.take u ++ y :: (L.drop u ++ (X.drop (t + 1) ++ S))))[j]? = some y := by
      rw [List.getElem?_append_right (by omega), List.getElem?_append_right (by rw [List.length_take]; omega), List.length_take, show j - P.length - min u L.length = 0 by have := HLL.out; omega]
      rfl
     have HSTEP := zH (show swp (P ++ (L.take u ++ y :: (L.drop u ++ (X.drop (t + 1) ++ S)))) j p = P ++ (L.take q ++ y :: (L.drop q ++ (X.drop (t + 1) ++ S))) by
      have h := swps_left P L (X.drop (t + 1) ++ S) y q hql
      rw [show P.length + q = p by omega, hp, hq] at h
      exact h)
     have HQX := zH (show ∀ z, z ∈ L.drop q → z = L[q] ∨ z ∈ L.drop u by
      intro z hz
      rw [List.drop_eq_getElem_cons hql, hq] at hz
      simpa using hz)
     have HINS := zH (fun h => Stb.ins_stop W (y := y) HSRT.out HALL.out (by have := HLL.out; omega) (Or.inr ⟨q, hq, hql, h⟩))
     have bj : (j : Int) < (N : Int) := by rw [← hlu]; have := (List.getElem?_eq_some_iff.1 gy).1; omega
     have bp : (p : Int) < (N : Int) := by omega
     have HE := zH (swp_eq gy gx)
     have HLj := zH (List.getElem?_eq_some_iff.1 gy).1
     have HLp := zH (List.getElem?_eq_some_iff.1 gx).1
     have Hx := zH gx
     have Hy := zH gy
     generalize L[q] = x at *
     generalize hrow : P ++ (L.take u ++ y :: (L.drop u ++ (X.drop (t + 1) ++ S))) = row at *
     have HQ := zH (And.intro hq hp)
     have HROW := zH hrow
     clear gx gy hql hu hq hp hj hPa hrow
     go_upto_region 4 with fail
     refine wp_region_held_drew (S := fun x => Ext wr x) (by kernel_rfl) (Ext.refl _).drew (fun _ => ?_)
     refine zv 0 (bs 17 1) (Ext.refl _).drew ?_
     refine zv 1 (bs 17 3) (Ext.refl _).drew ?_
     refine zv 2 (bs 17 7) (Ext.refl _).drew ?_
     refine zv 3 (bs 17 15) (Ext.refl _).drew ?_
     refine zv 4 (bs 17 31) (Ext.refl _).drew ?_
     refine zv 5 (bs 17 63) (Ext.refl _).drew ?_
     refine zv 6 (bs 17 127) (Ext.refl _).drew ?_
     refine zv 7 (bs 17 255) (Ext.refl _).drew ?_
     refine md_range (i := 8) (listed' := (bs 17 511)) (by rfl) (by kernel_rfl) (by kernel_rfl) (by kernel_rfl) _ _ (by rfl) g (j * 5) (enc y) _ (by intro _ _ _ h; exact h) (by rfl) (by rfl) (fun w1 hw1 => (HST.out.ext hw1).read Hy.out hk) Tryz.underlying59 (by rfl) (by rw [hk]; kernel_rfl) (Ext.refl _).drew (by kernel_rfl) ?_
     try simp only [Act.put, zA, zB, zC]
     refine zv 9 (bs 17 1023) (Ext.refl _).drew ?_
     refine zv 10 (bs 17 2047) (Ext.refl _).drew ?_
     refine zv 11 (bs 17 4095) (Ext.refl _).drew ?_
     refine zv 12 (bs 17 8191) (Ext.refl _).drew ?_
     refine md_range (i := 13) (listed' := (bs 17 16383)) (by rfl) (by kernel_rfl) (by kernel_rfl) (by kernel_rfl) _ _ (by rfl) g (p * 5) (enc x) _ (by intro _ _ _ h; exact h) (by rfl) (by rfl) (fun w1 hw1 => (HST.out.ext hw1).read Hx.out hk) Tryz.underlying59 (by rfl) (by rw [hk]; kernel_rfl) (Ext.refl _).drew (by kernel_rfl) ?_
     try simp only [Act.put, zA, zB, zC]
     refine mC 14 (bs 17 32767) (HC.out _ ((HST.out.ext (Ext.refl _).drew).own) y x) ?_
     rintro e w2 ⟨z, rfl, hz, hx2⟩
     have HX2 := zH (show Ext wr w2 from (Ext.refl _).drew.trans hx2)
     clear hx2
     refine ⟨_, rfl, HX2.out, ?_⟩
     try simp only [Act.put, zA, zB, zC]
     by_cases hlt : lt y x = true
     ·have HLT := zH hlt
      have hz2 : z < 0 := hz.2 hlt
      have hz3 : decide (z < 0) = true := by simpa using hz2
      clear hz
      refine zv 15 (bs 17 65535) HX2.out ?_
      refine zv 16 (bs 17 131071) HX2.out ?_
      refine wpAnyH_done (by kernel_rfl) ?_ _
      clear hlt hz2 hz3
      have HST := zH (HST.out.ext HX2.out)
      clear HX2
      have hN2 : row.length = N := hlu
      generalize w2 = wr at *
      go_upto_region 6 with fail
      refine wp_region_held_drew (S := fun x => Own g wr x) (by kernel_rfl) (Own.refl _ _).drew (fun _ => ?_)
      refine zv 0 (bs 18 1) (Own.refl _ _).drew ?_
      refine zv 1 (bs 18 3) (Own.refl _ _).drew ?_
      refine zv 2 (bs 18 7) (Own.refl _ _).drew ?_
      refine zv 3 (bs 18 15) (Own.refl _ _).drew ?_
      refine zv 4 (bs 18 31) (Own.refl _ _).drew ?_
      refine zv 5 (bs 18 63) (Own.refl _ _).drew ?_
      refine zv 6 (bs 18 127) (Own.refl _ _).drew ?_
      refine zv 7 (bs 18 255) (Own.refl _ _).drew ?_
      refine zv 8 (bs 18 511) (Own.refl _ _).drew ?_
      refine zv 10 (bs 18 1535) (Own.refl _ _).drew ?_
      refine zv 11 (bs 18 3583) (Own.refl _ _).drew ?_
      refine zv 12 (bs 18 7679) (Own.refl _ _).drew ?_
      refine md_loads2 (i := 9) (j := 13) (li := (bs 18 8191)) (lj := (bs 18 15871)) (listed' := (bs 18 16383)) (by rfl) (by rfl) (by kernel_rfl) (by kernel_rfl) (by kernel_rfl) (by kernel_rfl) (by kernel_rfl) (by kernel_rfl) (by kernel_rfl) 59 _ _ (by rfl) (by rfl) (by rfl) (by rfl) g (p * 5) (j * 5) (enc x) (enc y) _ Tryz.underlying59 (by rfl) (by rfl) (by rfl) (by rfl) (by rfl) (HST.out.ext (Ext.refl _).drew |>.read Hx.out hk) (HST.out.ext (Ext.refl _).drew |>.read Hy.out hk) (by rw [hk]; kernel_rfl) (by rw [hk]; kernel_rfl) (Own.refl _ _).drew (by rfl) ?_
      try simp only [Act.put, zA, zB, zC]
      refine zv 14 (bs 18 32767) (Own.refl _ _).drew ?_
      have s1_ := (HST.out.ext (Ext.refl _).drew).put (i := j) HLj.out hk x
      have s2_ := s1_.put (i := p) (by rw [List.length_set]; exact HLp.out) hk y
      refine md_rstore (i := 15) (listed' := (bs 18 65535)) (by rfl) (by kernel_rfl) (by rfl) 59 _ _ (by rfl) g (j * 5) (enc x) (by rfl) (by rfl) (by rw [hk]; exact (HST.out.ext (Ext.refl _).drew).there HLj.out hk) (by rw [hk]; kernel_rfl) (h1 x) (Own.setCells_l _ _ (Own.refl _ _).drew) (by kernel_rfl) ?_
      (try simp only [Act.put])
      refine zv 16 (bs 18 131071) (Own.setCells_l _ _ (Own.refl _ _).drew) ?_
      refine md_rstore (i := 17) (listed' := (bs 18 262143)) (by rfl) (by kernel_rfl) (by rfl) 59 _ _ (by rfl) g (p * 5) (enc y) (by rfl) (by rfl) (by rw [hk]; exact s1_.there (by rw [List.length_set]; exact HLp.out) hk) (by rw [hk]; kernel_rfl) (h1 y) (Own.setCells_l _ _ (Own.setCells_l _ _ (Own.refl _ _).drew)) (by kernel_rfl) ?_
      (try simp only [Act.put])
      refine wpAnyH_done (by kernel_rfl) ?_ _
      have HS2 := zH s2_
      clear s1_ s2_
      generalize (World.setCells _ g (p * 5) (enc y)) = w3 at *
      go_wp2_with fail
      go_roundg q
      case measure => have := HQ.out.1; omega
      case rel => exact ⟨q, p, by have := HQ.out; have := HU.out; omega, by omega, by have := HQ.out; have := HJ.out; omega, rfl, fun z hz => (HQX.out z hz).elim (fun h => by rw [h]; exact HLT.out) (HALL.out z), by rw [← HSTEP.out, HE.out]; exact HS2.out⟩
     have HLT := zH (eq_false_of_ne_true hlt)
     have hz2 : ¬ z < 0 := fun h => hlt (hz.1 h)
     have hz3 : decide (z < 0) = false := by simpa using hz2
     clear hz
     refine zv 15 (bs 17 65535) HX2.out ?_
     refine zv 16 (bs 17 131071) HX2.out ?_
     refine wpAnyH_done (by kernel_rfl) ?_ _
     clear hlt hz2 hz3
     have HR := zH (show Sw w0 w2 g T enc rest (P ++ (Stb.stab lt (X.take (t + 1)) ++ (X.drop (t + 1) ++ S))) by rw [HSN.out, HINS.out HLT.out]; have h := HST.out.ext HX2.out; rw [← HROW.out] at h; simpa using h)
     go_wp2_with fail
     go_roundg (b + 1 - (i + 1) + 1)
     case measure => omega
     case rel => exact ⟨t + 1, i + 1, by omega, Or.inl HTL.out, by have := HI.out; omega, by omega, by go_num, HR.out⟩
    obtain rfl : u = 0 := by omega
    have hja : ¬ (a : Int) < (j : Int) := by omega
    have hja2 : decide ((a : Int) < (j : Int)) = false := by simpa using hja
    have HINS := zH (Stb.ins_stop W (y := y) HSRT.out HALL.out (Nat.zero_le _) (Or.inl rfl))
    go_upto_region 4 with fail
    refine wp_region_held_drew (S := fun x => Ext wr x) (by kernel_rfl) (Ext.refl _).drew (fun _ => ?_)
    refine zv 0 (bs 17 1) (Ext.refl _).drew ?_
    refine zv 1 (bs 17 3) (Ext.refl _).drew ?_
    refine zv 2 (bs 17 7) (Ext.refl _).drew ?_
    refine zv 3 (bs 17 15) (Ext.refl _).drew ?_
    refine zs 4 (bs 17 31) (Ext.refl _).drew ?_
    refine zs 5 (bs 17 63) (Ext.refl _).drew ?_
    refine zs 6 (bs 17 127) (Ext.refl _).drew ?_
    refine zs 7 (bs 17 255) (Ext.refl _).drew ?_
    refine zs 8 (bs 17 511) (Ext.refl _).drew ?_
    refine zs 9 (bs 17 1023) (Ext.refl _).drew ?_
    refine zs 10 (bs 17 2047) (Ext.refl _).drew ?_
    refine zs 11 (bs 17 4095) (Ext.refl _).drew ?_
    refine zs 12 (bs 17 8191) (Ext.refl _).drew ?_
    refine zs 13 (bs 17 16383) (Ext.refl _).drew ?_
    refine zs 14 (bs 17 32767) (Ext.refl _).drew ?_
    refine zs 15 (bs 17 65535) (Ext.refl _).drew ?_
    refine zv 16 (bs 17 131071) (Ext.refl _).drew ?_
    refine wpAnyH_done (by kernel_rfl) ?_ _
    have HR := zH (show Sw w0 wr.drew g T enc rest (P ++ (Stb.stab lt (X.take (t + 1)) ++ (X.drop (t + 1) ++ S))) by rw [HSN.out, HINS.out]; have h := HST.out.ext (Ext.refl _).drew; simpa using h)
    go_wp2_with fail
    go_roundg (b + 1 - (i + 1) + 1)
    case measure => omega
    case rel => exact ⟨t + 1, i + 1, by omega, Or.inl HTL.out, by have := HI.out; omega, by omega, by go_num, HR.out⟩
  have HST := zH (show Sw w0 wr g T enc rest (P ++ (Stb.stab lt X ++ S)) by rw [List.take_of_length_le (by omega), List.drop_of_length_le (by omega)] at hst; exact hst)
  have hge : ¬ (i : Int) < (b : Int) := by omega
  clear hst
  go_wp2_with fail
  go_end0
  exact ⟨rfl, HST.out⟩

set_option maxRecDepth 20000 in
set_option maxHeartbeats 4000000 in
theorem symA_any {α : Type} (enc : α → List Value) (hk : ∀ x, (enc x).length = 5) (h1 : ∀ x, ∀ v, v ∈ enc x → v.oneCell' = true) (lt : α → α → Bool) (W : Stb.Wk lt) (w0 w : World) (g cap a m b N : Nat) (T : TypeId) (rest : List Value) (P B S : List α) (x : α) (hc : (∀ wr, Own g w0 wr → ∀ x y : α, Calls Tryz.prog 51 #[.agg (enc x).toArray, .agg (enc y).toArray] wr fun e w' => ∃ z : Int, e = .returned (.int .i64 z) ∧ (z < 0 ↔ lt x y = true) ∧ Ext wr w')) (hst : Sw w0 w g T enc rest (P ++ (x :: (B ++ S)))) (ha : P.length = a) (hm : a + 1 = m) (hb : m + B.length = b) (hB : Stb.Srt lt B) (hN : (P ++ (x :: (B ++ S))).length = N) (hsz : N ≤ 100000) :
  Calls Tryz.prog 106 #[.slice (some ⟨g, 0, none⟩) N cap, .int .i64 a, .int .i64 m, .int .i64 b, .func (.func 51) #[] #[]] w fun e w' => e = .returned (.tuple #[]) ∧ Sw w0 w' g T enc rest (P ++ (Stb.mrg lt [x] B ++ S)) := by
 have hlen : P.length + (1 + (B.length + S.length)) = N := by rw [← hN]; simp; omega
 have e1 : (m : Int) - (a : Int) = 1 := by omega
 have b1 : a ≤ 100000 := by omega
 have b2 : m ≤ 100000 := by omega
 have b3 : b ≤ 100000 := by omega
 have ba : (a : Int) < (N : Int) := by omega
 have wa_ : IntKind.i64.wrap (a : Int) = (a : Int) := by rw [IntKind.wrap_i64]; omega
 have gx0 : (P ++ (x :: (B ++ S)))[a]? = some x := by rw [← ha]; simp
 have gz : ∀ t z, B[t]? = some z → (P ++ (x :: (B ++ S)))[m + t]? = some z := fun t z h => by
  have h2 := get_mid (P ++ [x]) B S t (List.getElem?_eq_some_iff.1 h).1
  rw [show (P ++ [x]).length + t = m + t by simp; omega, h] at h2
  simpa using h2
 have HC := zH hc
 have HST0 := zH hst
 have HGZ := zH gz
 have Hx := zH gx0
 have HF := zH (And.intro ha (And.intro hm (And.intro hb hlen)))
 have HN := zH hN
 have HBS := zH hB
 have hbl : m + B.length = b := hb
 have hsl : b ≤ N := by omega
 clear hst hc ha hm hb hN hlen gz gx0 hB
 go_enter Tryz.func106, Tryz.ntmps106
 go_wp2_with fail
 go_loopg [10, 11] B.length (fun c u v wr => ∃ s e i j : Nat, s ≤ e ∧ e ≤ B.length ∧ c = e - s ∧ i = m + s ∧ j = m + e ∧ u = .int .i64 i ∧ v = .int .i64 j ∧ (s = 0 ∨ ∃ z, B[s - 1]? = some z ∧ lt z x = true) ∧ (B.length ≤ e ∨ ∃ z, B[e]? = some z ∧ lt z x = false) ∧ Sw w0 wr g T enc rest (P ++ (x :: (B ++ S))))
 case atStart => exact ⟨0, B.length, m, b, Nat.zero_le _, Nat.le_refl _, by omega, rfl, by omega, rfl, rfl, Or.inl rfl, Or.inl (Nat.le_refl _), HST0.out⟩
 case round =>
  clear HST0
  obtain ⟨s, e, i, j, hse, heB, rfl, hi, hj, rfl, rfl, h1s, h2e, hst⟩ := hrel
  have HST := zH hst
  have HI := zH (And.intro hi hj)
  have H1 := zH h1s
  have H2 := zH h2e
  have bi : i ≤ 100000 := by omega
  have bj : j ≤ 100000 := by omega
  clear hst h1s h2e
  by_cases hlt0 : s < e
  ·have hij : (i : Int) < (j : Int) := by omega
   obtain ⟨ss, hss⟩ : ∃ ss, ss = i + j := ⟨_, rfl⟩
   obtain ⟨h, hh⟩ : ∃ h, h = ss / 2 := ⟨_, rfl⟩
   have e3 : (i : Int) + (j : Int) = (ss : Int) := by omega
   obtain ⟨c, hcc⟩ : ∃ c, h = m + c := ⟨h - m, by omega⟩
   have hcb : s ≤ c ∧ c < e := by omega
   have wu : IntKind.u64.wrap (ss : Int) = (ss : Int) := by rw [IntKind.wrap_u64]; omega
   have ws : IntKind.i64.wrap (ss : Int) = (ss : Int) := by rw [IntKind.wrap_i64]; omega
   have wh : IntKind.i64.wrap (h : Int) = (h : Int) := by rw [IntKind.wrap_i64]; omega
   have wuh : IntKind.u64.wrap (h : Int) = (h : Int) := by rw [IntKind.wrap_u64]; omega
   have e2 : (ss : Int) / 2 = (h : Int) := by omega
   have bh : (h : Int) < (N : Int) := by omega
   obtain ⟨z0, hz0⟩ : ∃ z, B[c]? = some z := ⟨_, List.getElem?_eq_getElem (by omega)⟩
   have Hz0 := zH (show (P ++ (x :: (B ++ S)))[h]? = some z0 by rw [hcc]; exact HGZ.out c z0 hz0)
   have HZB := zH hz0
   have HH := zH (And.intro hcc hcb)
   clear hz0 hcc hcb hss hh hi hj
   generalize hrow : P ++ (x :: (B ++ S)) = row at *
   have HROW := zH hrow
   clear hrow
   go_upto_region 5 with fail
   refine wp_region_held_drew (S := fun x => Ext wr x) (by kernel_rfl) (Ext.refl _).drew (fun _ => ?_)
   refine zv 0 (bs 11 1) (Ext.refl _).drew ?_
   refine zv 1 (bs 11 3) (Ext.refl _).drew ?_
   refine zv 2 (bs 11 7) (Ext.refl _).drew ?_
   refine zv 3 (bs 11 15) (Ext.refl _).drew ?_
   refine md_range (i := 4) (listed' := (bs 11 31)) (by rfl) (by kernel_rfl) (by kernel_rfl) (by kernel_rfl) _ _ (by rfl) g (h * 5) (enc z0) _ (by intro _ _ _ h; exact h) (by rfl) (by rfl) (fun w1 hw1 => (HST.out.ext hw1).read Hz0.out hk) Tryz.underlying59 (by rfl) (by rw [hk]; kernel_rfl) (Ext.refl _).drew (by kernel_rfl) ?_
   try simp only [Act.put, zA, zB, zC]
   refine zv 5 (bs 11 63) (Ext.refl _).drew ?_
   refine zv 6 (bs 11 127) (Ext.refl _).drew ?_
   refine zv 7 (bs 11 255) (Ext.refl _).drew ?_
   refine md_range (i := 8) (listed' := (bs 11 511)) (by rfl) (by kernel_rfl) (by kernel_rfl) (by kernel_rfl) _ _ (by rfl) g (a * 5) (enc x) _ (by intro _ _ _ h; exact h) (by rfl) (by rfl) (fun w1 hw1 => (HST.out.ext hw1).read Hx.out hk) Tryz.underlying59 (by rfl) (by rw [hk]; kernel_rfl) (Ext.refl _).drew (by kernel_rfl) ?_
   try simp only [Act.put, zA, zB, zC]
   refine mC 9 (bs 11 1023) (HC.out _ ((HST.out.ext (Ext.refl _).drew).own) z0 x) ?_
   rintro e w2 ⟨z, rfl, hz, hx2⟩
   have HX2 := zH (show Ext wr w2 from (Ext.refl _).drew.trans hx2)
   clear hx2
   refine ⟨_, rfl, HX2.out, ?_⟩
   try simp only [Act.put, zA, zB, zC]
   by_cases hlt : lt z0 x = true
   ·have HLT := zH hlt
    have hz2 : z < 0 := hz.2 hlt
    have hz3 : decide (z < 0) = true := by simpa using hz2
    clear hz
    refine zv 10 (bs 11 2047) HX2.out ?_
    refine wpAnyH_done (by kernel_rfl) ?_ _
    clear hlt hz2 hz3
    have HST := zH (HST.out.ext HX2.out)
    go_wp2_with fail
    go_roundg (e - (c + 1))
    case measure => have := HH.out; omega
    case rel => exact ⟨c + 1, e, h + 1, j, by have := HH.out; omega, heB, rfl, by have := HH.out; omega, HI.out.2, by go_num, rfl, Or.inr ⟨z0, HZB.out, HLT.out⟩, H2.out, HST.out⟩
   have HLT := zH (eq_false_of_ne_true hlt)
   have hz2 : ¬ z < 0 := fun h => hlt (hz.1 h)
   have hz3 : decide (z < 0) = false := by simpa using hz2
   clear hz
   refine zv 10 (bs 11 2047) HX2.out ?_
   refine wpAnyH_done (by kernel_rfl) ?_ _
   clear hlt hz2 hz3
   have HST := zH (HST.out.ext HX2.out)
   go_wp2_with fail
   go_roundg (c - s)
   case measure => have := HH.out; omega
   case rel => exact ⟨s, c, i, h, by have := HH.out; omega, by have := HH.out; omega, rfl, HI.out.1, by have := HH.out; omega, rfl, rfl, H1.out, Or.inr ⟨z0, HZB.out, HLT.out⟩, HST.out⟩
  obtain rfl : s = e := by omega
  have hij : ¬ (i : Int) < (j : Int) := by omega
  have HM := zH (Stb.one_left W HBS.out H1.out H2.out)
  obtain ⟨im, him⟩ : ∃ im, im + 1 = i := ⟨i - 1, by have := HF.out; omega⟩
  have e4 : (i : Int) - 1 = (im : Int) := by omega
  have wim : IntKind.i64.wrap (im : Int) = (im : Int) := by rw [IntKind.wrap_i64]; omega
  have HIM := zH him
  clear hi hj him Hx
  go_wp2_with fail
  go_loopg [13] s (fun c v wr => ∃ t k : Nat, t ≤ s ∧ c = s - t ∧ k = a + t ∧ v = .int .i64 k ∧ Sw w0 wr g T enc rest (P ++ (B.take t ++ x :: (B.drop t ++ S))))
  case atStart => exact ⟨0, a, Nat.zero_le _, rfl, rfl, rfl, by simpa using HST.out⟩
  case round =>
   clear HST
   obtain ⟨t, k0, hts, rfl, hk0, rfl, hst⟩ := hrel
   by_cases hlt : t < s
   ·have hF := HF.out
    have hI := HI.out
    have hIM := HIM.out
    have hki : (k0 : Int) < (im : Int) := by omega
    obtain ⟨k1, hk1⟩ : ∃ k1, k1 = k0 + 1 := ⟨_, rfl⟩
    have e5 : (k0 : Int) + 1 = (k1 : Int) := by omega
    have wk : IntKind.i64.wrap (k1 : Int) = (k1 : Int) := by rw [IntKind.wrap_i64]; omega
    have wk0 : IntKind.i64.wrap (k0 : Int) = (k0 : Int) := by rw [IntKind.wrap_i64]; omega
    have bk1 : (k1 : Int) < (N : Int) := by omega
    have bk0 : (k0 : Int) < (N : Int) := by omega
    have htB : t < B.length := by omega
    have hsw := swps_right P B S x t htB
    rw [show P.length + t = k0 by omega, ← hk1] at hsw
    have hrl : (P ++ (B.take t ++ x :: (B.drop t ++ S))).length = N := by simp; omega
    have gx : (P ++ (B.take t ++ x :: (B.drop t ++ S)))[k0]? = some x := by
     rw [List.getElem?_append_right (by omega), List.getElem?_append_right (by rw [List.length_take]; omega), List.length_take, show k0 - P.length - min t B.length = 0 by omega]
     rfl
    obtain ⟨z0, hz0⟩ : ∃ z, (P ++ (B.take t ++ x :: (B.drop t ++ S)))[k1]? = some z := ⟨_, List.getElem?_eq_getElem (by omega)⟩
    have HE := zH ((swp_eq gx hz0).symm.trans hsw)
    have Hx := zH gx
    have Hz0 := zH hz0
    have HLk0 := zH (List.getElem?_eq_some_iff.1 gx).1
    have HLk1 := zH (List.getElem?_eq_some_iff.1 hz0).1
    have HST := zH hst
    generalize P ++ (B.take t ++ x :: (B.drop t ++ S)) = row at *
    have HK := zH (And.intro hk0 hk1)
    clear gx hz0 hsw hst hF hI hIM hk0 hk1
    go_upto_region 11 with fail
    refine wp_region_held_drew (S := fun x => Own g wr x) (by kernel_rfl) (Own.refl _ _).drew (fun _ => ?_)
    refine zv 0 (bs 18 1) (Own.refl _ _).drew ?_
    refine zv 1 (bs 18 3) (Own.refl _ _).drew ?_
    refine zv 2 (bs 18 7) (Own.refl _ _).drew ?_
    refine zv 3 (bs 18 15) (Own.refl _ _).drew ?_
    refine zv 4 (bs 18 31) (Own.refl _ _).drew ?_
    refine zv 5 (bs 18 63) (Own.refl _ _).drew ?_
    refine zv 6 (bs 18 127) (Own.refl _ _).drew ?_
    refine zv 7 (bs 18 255) (Own.refl _ _).drew ?_
    refine zv 8 (bs 18 511) (Own.refl _ _).drew ?_
    refine zv 10 (bs 18 1535) (Own.refl _ _).drew ?_
    refine zv 11 (bs 18 3583) (Own.refl _ _).drew ?_
    refine zv 12 (bs 18 7679) (Own.refl _ _).drew ?_
    refine md_loads2 (i := 9) (j := 13) (li := (bs 18 8191)) (lj := (bs 18 15871)) (listed' := (bs 18 16383)) (by rfl) (by rfl) (by kernel_rfl) (by kernel_rfl) (by kernel_rfl) (by kernel_rfl) (by kernel_rfl) (by kernel_rfl) (by kernel_rfl) 59 _ _ (by rfl) (by rfl) (by rfl) (by rfl) g (k1 * 5) (k0 * 5) (enc z0) (enc x) _ Tryz.underlying59 (by rfl) (by rfl) (by rfl) (by rfl) (by rfl) (HST.out.ext (Ext.refl _).drew |>.read Hz0.out hk) (HST.out.ext (Ext.refl _).drew |>.read Hx.out hk) (by rw [hk]; kernel_rfl) (by rw [hk]; kernel_rfl) (Own.refl _ _).drew (by rfl) ?_
    try simp only [Act.put, zA, zB, zC]
    refine zv 14 (bs 18 32767) (Own.refl _ _).drew ?_
    have s1_ := (HST.out.ext (Ext.refl _).drew).put (i := k0) HLk0.out hk z0
    have s2_ := s1_.put (i := k1) (by rw [List.length_set]; exact HLk1.out) hk x
    refine md_rstore (i := 15) (listed' := (bs 18 65535)) (by rfl) (by kernel_rfl) (by rfl) 59 _ _ (by rfl) g (k0 * 5) (enc z0) (by rfl) (by rfl) (by rw [hk]; exact (HST.out.ext (Ext.refl _).drew).there HLk0.out hk) (by rw [hk]; kernel_rfl) (h1 z0) (Own.setCells_l _ _ (Own.refl _ _).drew) (by kernel_rfl) ?_
    (try simp only [Act.put])
    refine zv 16 (bs 18 131071) (Own.setCells_l _ _ (Own.refl _ _).drew) ?_
    refine md_rstore (i := 17) (listed' := (bs 18 262143)) (by rfl) (by kernel_rfl) (by rfl) 59 _ _ (by rfl) g (k1 * 5) (enc x) (by rfl) (by rfl) (by rw [hk]; exact s1_.there (by rw [List.length_set]; exact HLk1.out) hk) (by rw [hk]; kernel_rfl) (h1 x) (Own.setCells_l _ _ (Own.setCells_l _ _ (Own.refl _ _).drew)) (by kernel_rfl) ?_
    (try simp only [Act.put])
    refine wpAnyH_done (by kernel_rfl) ?_ _
    have HS2 := zH s2_
    clear s1_ s2_
    generalize (World.setCells _ g (k1 * 5) (enc x)) = w3 at *
    go_wp2_with fail
    go_roundg (s - (t + 1))
    case measure => omega
    case rel => exact ⟨t + 1, k1, hlt, rfl, by have := HK.out; omega, rfl, by rw [← HE.out]; exact HS2.out⟩
   obtain rfl : t = s := by omega
   have HR := zH (show Sw w0 wr g T enc rest (P ++ (Stb.mrg lt [x] B ++ S)) by rw [HM.out]; simpa using hst)
   have hki : ¬ (k0 : Int) < (im : Int) := by have := HF.out; have := HI.out; have := HIM.out; omega
   clear hst
   go_wp2_with fail
   refine bodyPost_ret (results_none rfl _ _ _) rfl ?_
   exact ⟨rfl, HR.out⟩

set_option maxRecDepth 20000 in
set_option maxHeartbeats 4000000 in
theorem symB_any {α : Type} (enc : α → List Value) (hk : ∀ x, (enc x).length = 5) (h1 : ∀ x, ∀ v, v ∈ enc x → v.oneCell' = true) (lt : α → α → Bool) (W : Stb.Wk lt) (w0 w : World) (g cap a m b N : Nat) (T : TypeId) (rest : List Value) (P A S : List α) (y : α) (hc : (∀ wr, Own g w0 wr → ∀ x y : α, Calls Tryz.prog 51 #[.agg (enc x).toArray, .agg (enc y).toArray] wr fun e w' => ∃ z : Int, e = .returned (.int .i64 z) ∧ (z < 0 ↔ lt x y = true) ∧ Ext wr w')) (hst : Sw w0 w g T enc rest (P ++ (A ++ (y :: S)))) (ha : P.length = a) (hm : a + A.length = m) (hb : m + 1 = b) (hA1 : A.length ≠ 1) (hA : Stb.Srt lt A) (hN : (P ++ (A ++ (y :: S))).length = N) (hsz : N ≤ 100000) :
  Calls Tryz.prog 106 #[.slice (some ⟨g, 0, none⟩) N cap, .int .i64 a, .int .i64 m, .int .i64 b, .func (.func 51) #[] #[]] w fun e w' => e = .returned (.tuple #[]) ∧ Sw w0 w' g T enc rest (P ++ (Stb.mrg lt A [y] ++ S)) := by
 have hlen : P.length + (A.length + (1 + S.length)) = N := by rw [← hN]; simp; omega
 obtain ⟨d1, hd1⟩ : ∃ d1, a + d1 = m := ⟨A.length, hm⟩
 have e0 : (m : Int) - (a : Int) = (d1 : Int) := by omega
 have e0b : ((d1 : Int) == 1) = false := by simp; omega
 have wd : IntKind.i64.wrap (d1 : Int) = (d1 : Int) := by rw [IntKind.wrap_i64]; omega
 have e1 : (b : Int) - (m : Int) = 1 := by omega
 have b1 : a ≤ 100000 := by omega
 have b2 : m ≤ 100000 := by omega
 have b3 : b ≤ 100000 := by omega
 have ba : (m : Int) < (N : Int) := by omega
 have wa_ : IntKind.i64.wrap (m : Int) = (m : Int) := by rw [IntKind.wrap_i64]; omega
 have gy0 : (P ++ (A ++ (y :: S)))[m]? = some y := by
  rw [List.getElem?_append_right (by omega), List.getElem?_append_right (by omega), show m - P.length - A.length = 0 by omega]
  rfl
 have gz : ∀ t z, A[t]? = some z → (P ++ (A ++ (y :: S)))[a + t]? = some z := fun t z h => by
  have h2 := get_mid P A (y :: S) t (List.getElem?_eq_some_iff.1 h).1
  rw [show P.length + t = a + t by omega, h] at h2
  exact h2
 have HC := zH hc
 have HST0 := zH hst
 have HGZ := zH gz
 have Hy := zH gy0
 have HF := zH (And.intro ha (And.intro hm (And.intro hb hlen)))
 have HN := zH hN
 have HAS := zH hA
 have hbl : a + A.length = m := hm
 have hsl : m < N := by omega
 clear hst hc ha hm hb hN hlen gz gy0 hA hd1
 go_enter Tryz.func106, Tryz.ntmps106
 go_wp2_with fail
 go_loopg [14, 15] A.length (fun c u v wr => ∃ s e i j : Nat, s ≤ e ∧ e ≤ A.length ∧ c = e - s ∧ i = a + s ∧ j = a + e ∧ u = .int .i64 i ∧ v = .int .i64 j ∧ (s = 0 ∨ ∃ z, A[s - 1]? = some z ∧ lt y z = false) ∧ (A.length ≤ e ∨ ∃ z, A[e]? = some z ∧ lt y z = true) ∧ Sw w0 wr g T enc rest (P ++ (A ++ (y :: S))))
 case atStart => exact ⟨0, A.length, a, m, Nat.zero_le _, Nat.le_refl _, by omega, rfl, by omega, rfl, rfl, Or.inl rfl, Or.inl (Nat.le_refl _), HST0.out⟩
 case round =>
  clear HST0
  obtain ⟨s, e, i, j, hse, heB, rfl, hi, hj, rfl, rfl, h1s, h2e, hst⟩ := hrel
  have HST := zH hst
  have HI := zH (And.intro hi hj)
  have H1 := zH h1s
  have H2 := zH h2e
  have bi : i ≤ 100000 := by omega
  have bj : j ≤ 100000 := by omega
  clear hst h1s h2e
  by_cases hlt0 : s < e
  ·have hij : (i : Int) < (j : Int) := by omega
   obtain ⟨ss, hss⟩ : ∃ ss, ss = i + j := ⟨_, rfl⟩
   obtain ⟨h, hh⟩ : ∃ h, h = ss / 2 := ⟨_, rfl⟩
   have e3 : (i : Int) + (j : Int) = (ss : Int) := by omega
   obtain ⟨c, hcc⟩ : ∃ c, h = a + c := ⟨h - a, by omega⟩
   have hcb : s ≤ c ∧ c < e := by omega
   have wu : IntKind.u64.wrap (ss : Int) = (ss : Int) := by rw [IntKind.wrap_u64]; omega
   have ws : IntKind.i64.wrap (ss : Int) = (ss : Int) := by rw [IntKind.wrap_i64]; omega
   have wh : IntKind.i64.wrap (h : Int) = (h : Int) := by rw [IntKind.wrap_i64]; omega
   have wuh : IntKind.u64.wrap (h : Int) = (h : Int) := by rw [IntKind.wrap_u64]; omega
   have e2 : (ss : Int) / 2 = (h : Int) := by omega
   have bh : (h : Int) < (N : Int) := by omega
   obtain ⟨z0, hz0⟩ : ∃ z, A[c]? = some z := ⟨_, List.getElem?_eq_getElem (by omega)⟩
   have Hz0 := zH (show (P ++ (A ++ (y :: S)))[h]? = some z0 by rw [hcc]; exact HGZ.out c z0 hz0)
   have HZB := zH hz0
   have HH := zH (And.intro hcc hcb)
   clear hz0 hcc hcb hss hh hi hj
   generalize hrow : P ++ (A ++ (y :: S)) = row at *
   clear hrow
   go_upto_region 17 with fail
   refine wp_region_held_drew (S := fun x => Ext wr x) (by kernel_rfl) (Ext.refl _).drew (fun _ => ?_)
   refine zv 0 (bs 12 1) (Ext.refl _).drew ?_
   refine zv 1 (bs 12 3) (Ext.refl _).drew ?_
   refine zv 2 (bs 12 7) (Ext.refl _).drew ?_
   refine zv 3 (bs 12 15) (Ext.refl _).drew ?_
   refine md_range (i := 4) (listed' := (bs 12 31)) (by rfl) (by kernel_rfl) (by kernel_rfl) (by kernel_rfl) _ _ (by rfl) g (m * 5) (enc y) _ (by intro _ _ _ h; exact h) (by rfl) (by rfl) (fun w1 hw1 => (HST.out.ext hw1).read Hy.out hk) Tryz.underlying59 (by rfl) (by rw [hk]; kernel_rfl) (Ext.refl _).drew (by kernel_rfl) ?_
   try simp only [Act.put, zA, zB, zC]
   refine zv 5 (bs 12 63) (Ext.refl _).drew ?_
   refine zv 6 (bs 12 127) (Ext.refl _).drew ?_
   refine zv 7 (bs 12 255) (Ext.refl _).drew ?_
   refine md_range (i := 8) (listed' := (bs 12 511)) (by rfl) (by kernel_rfl) (by kernel_rfl) (by kernel_rfl) _ _ (by rfl) g (h * 5) (enc z0) _ (by intro _ _ _ h; exact h) (by rfl) (by rfl) (fun w1 hw1 => (HST.out.ext hw1).read Hz0.out hk) Tryz.underlying59 (by rfl) (by rw [hk]; kernel_rfl) (Ext.refl _).drew (by kernel_rfl) ?_
   try simp only [Act.put, zA, zB, zC]
   refine mC 9 (bs 12 1023) (HC.out _ ((HST.out.ext (Ext.refl _).drew).own) y z0) ?_
   rintro e w2 ⟨z, rfl, hz, hx2⟩
   have HX2 := zH (show Ext wr w2 from (Ext.refl _).drew.trans hx2)
   clear hx2
   refine ⟨_, rfl, HX2.out, ?_⟩
   try simp only [Act.put, zA, zB, zC]
   by_cases hlt : lt y z0 = true
   ·have HLT := zH hlt
    have hz2 : z < 0 := hz.2 hlt
    have hz3 : decide (z < 0) = true := by simpa using hz2
    clear hz
    refine zv 10 (bs 12 2047) HX2.out ?_
    refine zv 11 (bs 12 4095) HX2.out ?_
    refine wpAnyH_done (by kernel_rfl) ?_ _
    clear hlt hz2 hz3
    have HST := zH (HST.out.ext HX2.out)
    go_wp2_with fail
    go_roundg (c - s)
    case measure => have := HH.out; omega
    case rel => exact ⟨s, c, i, h, by have := HH.out; omega, by have := HH.out; omega, rfl, HI.out.1, by have := HH.out; omega, rfl, rfl, H1.out, Or.inr ⟨z0, HZB.out, HLT.out⟩, HST.out⟩
   have HLT := zH (eq_false_of_ne_true hlt)
   have hz2 : ¬ z < 0 := fun h => hlt (hz.1 h)
   have hz3 : decide (z < 0) = false := by simpa using hz2
   clear hz
   refine zv 10 (bs 12 2047) HX2.out ?_
   refine zv 11 (bs 12 4095) HX2.out ?_
   refine wpAnyH_done (by kernel_rfl) ?_ _
   clear hlt hz2 hz3
   have HST := zH (HST.out.ext HX2.out)
   go_wp2_with fail
   go_roundg (e - (c + 1))
   case measure => have := HH.out; omega
   case rel => exact ⟨c + 1, e, h + 1, j, by have := HH.out; omega, heB, rfl, by have := HH.out; omega, HI.out.2, by go_num, rfl, Or.inr ⟨z0, HZB.out, HLT.out⟩, H2.out, HST.out⟩
  obtain rfl : s = e := by omega
  have hij : ¬ (i : Int) < (j : Int) := by omega
  have HM := zH (Stb.one_right W HAS.out H1.out H2.out)
  clear hi hj Hy
  go_wp2_with fail
  go_loopg [17] (A.length - s) (fun c v wr => ∃ t k : Nat, s ≤ t ∧ t ≤ A.length ∧ c = t - s ∧ k = a + t ∧ v = .int .i64 k ∧ Sw w0 wr g T enc rest (P ++ (A.take t ++ y :: (A.drop t ++ S))))
  case atStart => exact ⟨A.length, m, heB, Nat.le_refl _, by omega, by omega, rfl, by simpa using HST.out⟩
  case round =>
   clear HST
   obtain ⟨t, k0, hts, htA, rfl, hk0, rfl, hst⟩ := hrel
   by_cases hlt : s < t
   ·have hF := HF.out
    have hI := HI.out
    have hki : (i : Int) < (k0 : Int) := by omega
    obtain ⟨k1, hk1⟩ : ∃ k1, k1 + 1 = k0 := ⟨k0 - 1, by omega⟩
    have e5 : (k0 : Int) - 1 = (k1 : Int) := by omega
    have wk : IntKind.i64.wrap (k1 : Int) = (k1 : Int) := by rw [IntKind.wrap_i64]; omega
    have wk0 : IntKind.i64.wrap (k0 : Int) = (k0 : Int) := by rw [IntKind.wrap_i64]; omega
    have bk1 : (k1 : Int) < (N : Int) := by omega
    have bk0 : (k0 : Int) < (N : Int) := by omega
    obtain ⟨q, hq⟩ : ∃ q, q + 1 = t := ⟨t - 1, by omega⟩
    have hsw := swps_left P A S y q (by omega)
    rw [show P.length + q = k1 by omega, hk1, hq] at hsw
    have hrl : (P ++ (A.take t ++ y :: (A.drop t ++ S))).length = N := by simp; omega
    have gx : (P ++ (A.take t ++ y :: (A.drop t ++ S)))[k0]? = some y := by
     rw [List.getElem?_append_right (by omega), List.getElem?_append_right (by rw [List.length_take]; omega), List.length_take, show k0 - P.length - min t A.length = 0 by omega]
     rfl
    obtain ⟨z0, hz0⟩ : ∃ z, (P ++ (A.take t ++ y :: (A.drop t ++ S)))[k1]? = some z := ⟨_, List.getElem?_eq_getElem (by omega)⟩
    have HE := zH ((swp_eq gx hz0).symm.trans hsw)
    have Hy := zH gx
    have Hz0 := zH hz0
    have HLk0 := zH (List.getElem?_eq_some_iff.1 gx).1
    have HLk1 := zH (List.getElem?_eq_some_iff.1 hz0).1
    have HST := zH hst
    generalize P ++ (A.take t ++ y :: (A.drop t ++ S)) = row at *
    have HK := zH (And.intro hk0 (And.intro hk1 hq))
    clear gx hz0 hsw hst hF hI hk0 hk1 hq
    go_upto_region 23 with fail
    refine wp_region_held_drew (S := fun x => Own g wr x) (by kernel_rfl) (Own.refl _ _).drew (fun _ => ?_)
    refine zv 0 (bs 18 1) (Own.refl _ _).drew ?_
    refine zv 1 (bs 18 3) (Own.refl _ _).drew ?_
    refine zv 2 (bs 18 7) (Own.refl _ _).drew ?_
    refine zv 3 (bs 18 15) (Own.refl _ _).drew ?_
    refine zv 4 (bs 18 31) (Own.refl _ _).drew ?_
    refine zv 5 (bs 18 63) (Own.refl _ _).drew ?_
    refine zv 6 (bs 18 127) (Own.refl _ _).drew ?_
    refine zv 7 (bs 18 255) (Own.refl _ _).drew ?_
    refine zv 8 (bs 18 511) (Own.refl _ _).drew ?_
    refine zv 10 (bs 18 1535) (Own.refl _ _).drew ?_
    refine zv 11 (bs 18 3583) (Own.refl _ _).drew ?_
    refine zv 12 (bs 18 7679) (Own.refl _ _).drew ?_
    refine md_loads2 (i := 9) (j := 13) (li := (bs 18 8191)) (lj := (bs 18 15871)) (listed' := (bs 18 16383)) (by rfl) (by rfl) (by kernel_rfl) (by kernel_rfl) (by kernel_rfl) (by kernel_rfl) (by kernel_rfl) (by kernel_rfl) (by kernel_rfl) 59 _ _ (by rfl) (by rfl) (by rfl) (by rfl) g (k1 * 5) (k0 * 5) (enc z0) (enc y) _ Tryz.underlying59 (by rfl) (by rfl) (by rfl) (by rfl) (by rfl) (HST.out.ext (Ext.refl _).drew |>.read Hz0.out hk) (HST.out.ext (Ext.refl _).drew |>.read Hy.out hk) (by rw [hk]; kernel_rfl) (by rw [hk]; kernel_rfl) (Own.refl _ _).drew (by rfl) ?_
    try simp only [Act.put, zA, zB, zC]
    refine zv 14 (bs 18 32767) (Own.refl _ _).drew ?_
    have s1_ := (HST.out.ext (Ext.refl _).drew).put (i := k0) HLk0.out hk z0
    have s2_ := s1_.put (i := k1) (by rw [List.length_set]; exact HLk1.out) hk y
    refine md_rstore (i := 15) (listed' := (bs 18 65535)) (by rfl) (by kernel_rfl) (by rfl) 59 _ _ (by rfl) g (k0 * 5) (enc z0) (by rfl) (by rfl) (by rw [hk]; exact (HST.out.ext (Ext.refl _).drew).there HLk0.out hk) (by rw [hk]; kernel_rfl) (h1 z0) (Own.setCells_l _ _ (Own.refl _ _).drew) (by kernel_rfl) ?_
    (try simp only [Act.put])
    refine zv 16 (bs 18 131071) (Own.setCells_l _ _ (Own.refl _ _).drew) ?_
    refine md_rstore (i := 17) (listed' := (bs 18 262143)) (by rfl) (by kernel_rfl) (by rfl) 59 _ _ (by rfl) g (k1 * 5) (enc y) (by rfl) (by rfl) (by rw [hk]; exact s1_.there (by rw [List.length_set]; exact HLk1.out) hk) (by rw [hk]; kernel_rfl) (h1 y) (Own.setCells_l _ _ (Own.setCells_l _ _ (Own.refl _ _).drew)) (by kernel_rfl) ?_
    (try simp only [Act.put])
    refine wpAnyH_done (by kernel_rfl) ?_ _
    have HS2 := zH s2_
    clear s1_ s2_
    generalize (World.setCells _ g (k1 * 5) (enc y)) = w3 at *
    go_wp2_with fail
    go_roundg (q - s)
    case measure => have := HK.out; omega
    case rel => exact ⟨q, k1, by have := HK.out; omega, by have := HK.out; omega, rfl, by have := HK.out; omega, rfl, by rw [← HE.out]; exact HS2.out⟩
   obtain rfl : t = s := by omega
   have HR := zH (show Sw w0 wr g T enc rest (P ++ (Stb.mrg lt A [y] ++ S)) by rw [HM.out]; simpa using hst)
   have hki : ¬ (i : Int) < (k0 : Int) := by have := HI.out; omega
   clear hst
   go_wp2_with fail
   refine bodyPost_ret (results_none rfl _ _ _) rfl ?_
   exact ⟨rfl, HR.out⟩

set_option maxRecDepth 20000 in
set_option maxHeartbeats 4000000 in
theorem symC_any {α : Type} (enc : α → List Value) (hk : ∀ x, (enc x).length = 5) (h1 : ∀ x, ∀ v, v ∈ enc x → v.oneCell' = true) (lt : α → α → Bool) (W : Stb.Wk lt) (w0 w : World) (g cap a m b N : Nat) (T : TypeId) (rest : List Value) (P A B S : List α) (hc : (∀ wr, Own g w0 wr → ∀ x y : α, Calls Tryz.prog 51 #[.agg (enc x).toArray, .agg (enc y).toArray] wr fun e w' => ∃ z : Int, e = .returned (.int .i64 z) ∧ (z < 0 ↔ lt x y = true) ∧ Ext wr w')) (ih : (∀ (P' A' B' S' : List α) (a m b : Nat) (wr : World), A' ≠ [] → B' ≠ [] → A'.length + B'.length < A.length + B.length → Sw w0 wr g T enc rest (P' ++ (A' ++ (B' ++ S'))) → P'.length = a → a + A'.length = m → m + B'.length = b → Stb.Srt lt A' → Stb.Srt lt B' → (P' ++ (A' ++ (B' ++ S'))).length = N → Calls Tryz.prog 106 #[.slice (some ⟨g, 0, none⟩) N cap, .int .i64 a, .int .i64 m, .int .i64 b, .func (.func 51) #[] #[]] wr fun e w' => e = .returned (.tuple #[]) ∧ Sw w0 w' g T enc rest (P' ++ (Stb.mrg lt A' B' ++ S')))) (hst : Sw w0 w g T enc rest (P ++ (A ++ (B ++ S)))) (ha : P.length = a) (hm : a + A.length = m) (hb : m + B.length = b) (hA0 : A ≠ []) (hB0 : B ≠ []) (hA1 : A.length ≠ 1) (hB1 : B.length ≠ 1) (hA : Stb.Srt lt A) (hB : Stb.Srt lt B) (hN : (P ++ (A ++ (B ++ S))).length = N) (hsz : N ≤ 100000) :
  Calls Tryz.prog 106 #[.slice (some ⟨g, 0, none⟩) N cap, .int .i64 a, .int .i64 m, .int .i64 b, .func (.func 51) #[] #[]] w fun e w' => e = .returned (.tuple #[]) ∧ Sw w0 w' g T enc rest (P ++ (Stb.mrg lt A B ++ S)) := by
 have hlen : P.length + (A.length + (B.length + S.length)) = N := by rw [← hN]; simp
 have hAl : 2 ≤ A.length := by have : A.length ≠ 0 := fun h => hA0 (List.eq_nil_of_length_eq_zero h); omega
 have hBl : 2 ≤ B.length := by have : B.length ≠ 0 := fun h => hB0 (List.eq_nil_of_length_eq_zero h); omega
 have e0 : (m : Int) - (a : Int) = (A.length : Int) := by omega
 have e1 : (b : Int) - (m : Int) = (B.length : Int) := by omega
 have e0b : ((A.length : Int) == 1) = false := by simp; omega
 have e1b : ((B.length : Int) == 1) = false := by simp; omega
 have wA : IntKind.i64.wrap (A.length : Int) = (A.length : Int) := by rw [IntKind.wrap_i64]; omega
 have wB : IntKind.i64.wrap (B.length : Int) = (B.length : Int) := by rw [IntKind.wrap_i64]; omega
 have b1 : a ≤ 100000 := by omega
 have b2 : m ≤ 100000 := by omega
 have b3 : b ≤ 100000 := by omega
 obtain ⟨ss, hss⟩ : ∃ ss, ss = a + b := ⟨_, rfl⟩
 obtain ⟨mid, hmid⟩ : ∃ mid, mid = ss / 2 := ⟨_, rfl⟩
 obtain ⟨M, hM⟩ : ∃ M, a + M = mid := ⟨mid - a, by omega⟩
 obtain ⟨n, hn⟩ : ∃ n, n = mid + m := ⟨_, rfl⟩
 obtain ⟨p, hp⟩ : ∃ p, p + 1 = n := ⟨n - 1, by omega⟩
 have e3 : (a : Int) + (b : Int) = (ss : Int) := by omega
 have wu : IntKind.u64.wrap (ss : Int) = (ss : Int) := by rw [IntKind.wrap_u64]; omega
 have ws : IntKind.i64.wrap (ss : Int) = (ss : Int) := by rw [IntKind.wrap_i64]; omega
 have wh : IntKind.i64.wrap (mid : Int) = (mid : Int) := by rw [IntKind.wrap_i64]; omega
 have wuh : IntKind.u64.wrap (mid : Int) = (mid : Int) := by rw [IntKind.wrap_u64]; omega
 have e2 : (ss : Int) / 2 = (mid : Int) := by omega
 have e4 : (mid : Int) + (m : Int) = (n : Int) := by omega
 have wn : IntKind.i64.wrap (n : Int) = (n : Int) := by rw [IntKind.wrap_i64]; omega
 have e5 : (n : Int) - 1 = (p : Int) := by omega
 have wp : IntKind.i64.wrap (p : Int) = (p : Int) := by rw [IntKind.wrap_i64]; omega
 have HC := zH hc
 have HIH := zH ih
 have HST0 := zH hst
 have HF := zH (show SymF P.length A.length B.length S.length a m b N ss mid M n p from ⟨ha, hm, hb, hlen, hAl, hBl, hss, hmid, hM, hn, hp⟩)
 have HN := zH hN
 have HS := zH (And.intro hA hB)
 clear hst hc ih ha hm hb hN hlen hA hB hA0 hB0 hA1 hB1 hAl hBl hss hmid hM hn hp
 go_enter Tryz.func106, Tryz.ntmps106
 go_upto_if 140 with fail
 go_cut [20, 21] (fun u v wx => ∃ lo hi st r0 : Nat, st = a + lo ∧ r0 = a + hi ∧ u = .int .i64 st ∧ v = .int .i64 r0 ∧ lo ≤ hi ∧ hi ≤ A.length ∧ hi ≤ M ∧ M ≤ lo + B.length ∧ (lo = 0 ∨ lo + B.length ≤ M) ∧ (A.length ≤ hi ∨ M ≤ hi) ∧ wx = w)
 case first => as_aux_lemma =>
  by_cases hmm : mid < m
  ·have h2 : (mid : Int) < (m : Int) := by omega
   obtain ⟨st, lo, k0, k9, k⟩ := sym_ar0 hsz HF.out hmm
   have e6 : (n : Int) - (b : Int) = (st : Int) := by omega
   have wst : IntKind.i64.wrap (st : Int) = (st : Int) := by rw [IntKind.wrap_i64]; omega
   have HK := zH k
   clear k k0 hmm
   go_wp2_with fail
   go_meet
   obtain ⟨k1, k2, k3, k4, k5⟩ := HK.out
   exact ⟨lo, M, st, mid, k1, k3, rfl, rfl, k4, k5, Nat.le_refl _, Nat.le_of_eq k2.symm, Or.inr (Nat.le_of_eq k2), Or.inr (Nat.le_refl _), rfl⟩
  have h2 : ¬ (mid : Int) < (m : Int) := by omega
  have HK := zH (sym_ar1 HF.out hmm)
  clear hmm
  go_wp2_with fail
  go_meet
  obtain ⟨k1, k2, k3⟩ := HK.out
  exact ⟨0, A.length, a, m, rfl, k3, rfl, rfl, Nat.zero_le _, Nat.le_refl _, k1, by rw [Nat.zero_add]; exact k2, Or.inl rfl, Or.inl (Nat.le_refl _), rfl⟩
 case rest =>
  obtain ⟨lo, hi, st, r0, hst, hr0, rfl, rfl, g1, g2, g3, g4, g5, g6, rfl⟩ := hcut
  have HG := zH (show SymG A.length B.length a M lo hi st r0 from ⟨hst, hr0, g1, g2, g3, g4⟩)
  have HGO := zH (And.intro g5 g6)
  clear hst hr0 g1 g2 g3 g4 g5 g6
  go_wp2_with fail
  go_loopg [20, 21] (hi - lo) (fun c u v wr => ∃ s e i j : Nat, lo ≤ s ∧ s ≤ e ∧ e ≤ hi ∧ c = e - s ∧ i = a + s ∧ j = a + e ∧ u = .int .i64 i ∧ v = .int .i64 j ∧ (s = lo ∨ ∃ x y, A[s - 1]? = some x ∧ B[M - s]? = some y ∧ lt y x = false) ∧ (e = hi ∨ ∃ x y, A[e]? = some x ∧ B[M - e - 1]? = some y ∧ lt y x = true) ∧ Sw w0 wr g T enc rest (P ++ (A ++ (B ++ S))))
  case atStart => exact ⟨lo, hi, st, r0, Nat.le_refl _, HG.out.2.2.1, Nat.le_refl _, rfl, HG.out.1, HG.out.2.1, rfl, rfl, Or.inl rfl, Or.inl rfl, HST0.out⟩
  case round => as_aux_lemma =>
   clear HST0
   obtain ⟨s, e, i, j, hls, hse, heh, rfl, hi_, hj_, rfl, rfl, h1s, h2e, hst⟩ := hrel
   have HST := zH hst
   have HI := zH (And.intro hi_ (And.intro hj_ (And.intro hls heh)))
   have H1 := zH h1s
   have H2 := zH h2e
   clear hst h1s h2e
   by_cases hlt0 : s < e
   ·obtain ⟨sq, h, c, ph, ⟨k1, k2, k3, k4, k5, k6, k7, k8, k9⟩, hcc, q1, q2, q3, q4⟩ := sym_ar hsz HF.out HG.out hls heh hi_ hj_ hlt0
    have hij : (i : Int) < (j : Int) := by omega
    have f3 : (i : Int) + (j : Int) = (sq : Int) := by omega
    have fu : IntKind.u64.wrap (sq : Int) = (sq : Int) := by rw [IntKind.wrap_u64]; omega
    have fs : IntKind.i64.wrap (sq : Int) = (sq : Int) := by rw [IntKind.wrap_i64]; omega
    have fh : IntKind.i64.wrap (h : Int) = (h : Int) := by rw [IntKind.wrap_i64]; omega
    have fuh : IntKind.u64.wrap (h : Int) = (h : Int) := by rw [IntKind.wrap_u64]; omega
    have f2 : (sq : Int) / 2 = (h : Int) := by omega
    have f4 : (p : Int) - (h : Int) = (ph : Int) := by omega
    have fp : IntKind.i64.wrap (ph : Int) = (ph : Int) := by rw [IntKind.wrap_i64]; omega
    have bh : (h : Int) < (N : Int) := by omega
    have bp : (ph : Int) < (N : Int) := by omega
    have bi : i ≤ 100000 := k8
    obtain ⟨x0, hx0⟩ : ∃ z, A[c]? = some z := ⟨_, List.getElem?_eq_getElem q1⟩
    obtain ⟨y0, hy0⟩ : ∃ z, B[M - c - 1]? = some z := ⟨_, List.getElem?_eq_getElem q2⟩
    have Hx0 := zH (show (P ++ (A ++ (B ++ S)))[h]? = some x0 by
     have q := get_mid P A (B ++ S) c q1
     rw [q3, hx0] at q
     exact q)
    have Hy0 := zH (show (P ++ (A ++ (B ++ S)))[ph]? = some y0 by
     have q := get_mid (P ++ A) B S (M - c - 1) q2
     rw [List.length_append, q4, hy0] at q
     simpa using q)
    have HXA := zH hx0
    have HYB := zH hy0
    have HH := zH hcc
    clear hx0 hy0 hcc hi_ hj_ k1 k2 k3 k4 q1 q2 q3 q4
    generalize hrow : P ++ (A ++ (B ++ S)) = row at *
    clear hrow
    go_upto_region 35 with fail
    refine wp_region_held_drew (S := fun x => Ext wr x) (by kernel_rfl) (Ext.refl _).drew (fun _ => ?_)
    refine zv 0 (bs 14 1) (Ext.refl _).drew ?_
    refine zv 1 (bs 14 3) (Ext.refl _).drew ?_
    refine zv 2 (bs 14 7) (Ext.refl _).drew ?_
    refine zv 3 (bs 14 15) (Ext.refl _).drew ?_
    refine zv 4 (bs 14 31) (Ext.refl _).drew ?_
    refine zv 5 (bs 14 63) (Ext.refl _).drew ?_
    refine md_range (i := 6) (listed' := (bs 14 127)) (by rfl) (by kernel_rfl) (by kernel_rfl) (by kernel_rfl) _ _ (by rfl) g (ph * 5) (enc y0) _ (by intro _ _ _ h; exact h) (by rfl) (by rfl) (fun w1 hw1 => (HST.out.ext hw1).read Hy0.out hk) Tryz.underlying59 (by rfl) (by rw [hk]; kernel_rfl) (Ext.refl _).drew (by kernel_rfl) ?_
    try simp only [Act.put, zA, zB, zC]
    refine zv 7 (bs 14 255) (Ext.refl _).drew ?_
    refine zv 8 (bs 14 511) (Ext.refl _).drew ?_
    refine zv 9 (bs 14 1023) (Ext.refl _).drew ?_
    refine md_range (i := 10) (listed' := (bs 14 2047)) (by rfl) (by kernel_rfl) (by kernel_rfl) (by kernel_rfl) _ _ (by rfl) g (h * 5) (enc x0) _ (by intro _ _ _ h; exact h) (by rfl) (by rfl) (fun w1 hw1 => (HST.out.ext hw1).read Hx0.out hk) Tryz.underlying59 (by rfl) (by rw [hk]; kernel_rfl) (Ext.refl _).drew (by kernel_rfl) ?_
    try simp only [Act.put, zA, zB, zC]
    refine mC 11 (bs 14 4095) (HC.out _ ((HST.out.ext (Ext.refl _).drew).own) y0 x0) ?_
    rintro e w2 ⟨z, rfl, hz, hx2⟩
    have HX2 := zH (show Ext wr w2 from (Ext.refl _).drew.trans hx2)
    clear hx2
    refine ⟨_, rfl, HX2.out, ?_⟩
    try simp only [Act.put, zA, zB, zC]
    by_cases hlt : lt y0 x0 = true
    ·as_aux_lemma =>
     have HLT := zH hlt
     have hz2 : z < 0 := hz.2 hlt
     have hz3 : decide (z < 0) = true := by simpa using hz2
     clear hz
     refine zv 12 (bs 14 8191) HX2.out ?_
     refine zv 13 (bs 14 16383) HX2.out ?_
     refine wpAnyH_done (by kernel_rfl) ?_ _
     clear hlt hz2 hz3
     have HST := zH (HST.out.ext HX2.out)
     go_wp2_with fail
     go_roundg (c - s)
     case measure => have := HH.out; omega
     case rel => exact ⟨s, c, i, h, hls, by have := HH.out; omega, by have := HH.out; omega, rfl, HI.out.1, by have := HH.out; omega, rfl, rfl, H1.out, Or.inr ⟨x0, y0, HXA.out, HYB.out, HLT.out⟩, HST.out⟩
    as_aux_lemma =>
    have HLT := zH (eq_false_of_ne_true hlt)
    have hz2 : ¬ z < 0 := fun h => hlt (hz.1 h)
    have hz3 : decide (z < 0) = false := by simpa using hz2
    clear hz
    refine zv 12 (bs 14 8191) HX2.out ?_
    refine zv 13 (bs 14 16383) HX2.out ?_
    refine wpAnyH_done (by kernel_rfl) ?_ _
    clear hlt hz2 hz3
    have HST := zH (HST.out.ext HX2.out)
    go_wp2_with fail
    go_roundg (e - (c + 1))
    case measure => have := HH.out; omega
    case rel => exact ⟨c + 1, e, h + 1, j, by have := HH.out; omega, by have := HH.out; omega, heh, rfl, by have := HH.out; omega, HI.out.2.1, by go_num, rfl, Or.inr ⟨x0, y0, HXA.out, by rw [show M - (c + 1) = M - c - 1 by omega]; exact HYB.out, HLT.out⟩, H2.out, HST.out⟩
   as_aux_lemma =>
   obtain rfl : s = e := by omega
   have hij : ¬ (i : Int) < (j : Int) := by omega
   obtain ⟨r, en, ⟨k1, k2, k3, k4, k5⟩, klen, kiff, keq, klt1, klt2⟩ := sym_ar2 hsz HF.out HG.out hls heh hi_
   have HM := zH (Stb.sym_split (lt := lt) (s := s) (r := r) W HS.out.1 HS.out.2 (by
    rcases H1.out with h | ⟨x, y, q1, q2, q3⟩
    ·rcases HGO.out.1 with q | q
     ·exact Or.inl (by omega)
     exact Or.inr (Or.inl (by omega))
    ·exact Or.inr (Or.inr ⟨x, y, q1, by rw [show r = M - s by omega]; exact q2, q3⟩)) (by
    rcases H2.out with h | ⟨x, y, q1, q2, q3⟩
    ·rcases HGO.out.2 with q | q
     ·exact Or.inr (Or.inl (by omega))
     exact Or.inl (by omega)
    exact Or.inr (Or.inr ⟨x, y, q1, by rw [show r - 1 = M - s - 1 by omega]; exact q2, q3⟩)))
   have e6 : (n : Int) - (i : Int) = (en : Int) := by omega
   have wen : IntKind.i64.wrap (en : Int) = (en : Int) := by rw [IntKind.wrap_i64]; omega
   have hAs : A.take s ++ A.drop s = A := List.take_append_drop s A
   have hBs : B.take r ++ B.drop r = B := List.take_append_drop r B
   have la1 : (A.take s).length = s := by rw [List.length_take]; exact Nat.min_eq_left k4
   have la2 : (A.drop s).length = A.length - s := List.length_drop
   have lb1 : (B.take r).length = r := by rw [List.length_take]; exact Nat.min_eq_left k3
   have lb2 : (B.drop r).length = B.length - r := List.length_drop
   have HLL := zH (And.intro la1 (And.intro la2 (And.intro lb1 lb2)))
   have HKL := zH klen
   have HKI := zH kiff
   have HKE := zH keq
   have HLT := zH (And.intro klt1 klt2)
   have HST2 := zH (show Sw w0 wr g T enc rest ((P ++ A.take s) ++ (A.drop s ++ (B.take r ++ (B.drop r ++ S)))) by
    have h := HST.out
    rw [← hAs, ← hBs] at h
    simpa only [List.append_assoc] using h)
   have HN2 := zH (show ((P ++ A.take s) ++ (A.drop s ++ (B.take r ++ (B.drop r ++ S)))).length = N by simp only [List.length_append, la1, la2, lb1, lb2]; omega)
   have HSA := zH (And.intro (Stb.srt_take HS.out.1 s) (And.intro (Stb.srt_drop HS.out.1 s) (And.intro (Stb.srt_take HS.out.2 r) (Stb.srt_drop HS.out.2 r))))
   have HE1 := zH (Stb.mrg_take_nil (lt := lt) (A := A) (B := B) (s := s) (r := r))
   have HE2 := zH (Stb.mrg_drop_nil (lt := lt) (A := A) (B := B) (s := s) (r := r))
   clear HST hi_ hj_ hAs hBs la1 la2 lb1 lb2 H1 H2 klen kiff keq klt1 klt2 k1 k2 k3 k4 hls heh hse
   generalize A.take s = A1 at *
   generalize A.drop s = A2 at *
   generalize B.take r = B1 at *
   generalize B.drop r = B2 at *
   go_upto_region 39 with fail
   go_cut [185] (fun u wx => u = .bool (decide (s < A.length ∧ 0 < r)) ∧ wx = wr)
   case first => as_aux_lemma =>
    by_cases c : s < A.length
    ·have c2 : (i : Int) < (m : Int) := Int.ofNat_lt.2 (HKI.out.1.2 c)
     by_cases d : 0 < r
     ·have c3 : (m : Int) < (en : Int) := Int.ofNat_lt.2 (HKI.out.2.1.2 d)
      go_wp2_with fail
      go_meet
      exact ⟨by simp [c, d], rfl⟩
     have c3 : ¬ (m : Int) < (en : Int) := fun h => d (HKI.out.2.1.1 (Int.ofNat_lt.1 h))
     go_wp2_with fail
     go_meet
     exact ⟨by simp [d], rfl⟩
    have c2 : ¬ (i : Int) < (m : Int) := fun h => c (HKI.out.1.1 (Int.ofNat_lt.1 h))
    have c4 : decide ((i : Int) < (m : Int)) = false := decide_eq_false c2
    go_wp2_with fail
    go_meet
    exact ⟨by simp [c], rfl⟩
   case rest =>
    obtain ⟨rfl, rfl⟩ := hcut
    go_upto_if 185 with fail
    go_cut [] (fun wx => Sw w0 wx g T enc rest (P ++ (A1 ++ (B1 ++ (A2 ++ (B2 ++ S))))))
    case first => as_aux_lemma =>
     by_cases c1 : s < A.length ∧ 0 < r
     ·have cb : decide (s < A.length ∧ 0 < r) = true := decide_eq_true c1
      have HR := zH (rotate_any enc hk h1 w0 wc g cap i m en N T rest (P ++ A1) A2 B1 (B2 ++ S) (.func (.func 51) #[] #[]) HST2.out (by rw [List.length_append, HLL.out.1]; exact HKE.out.1) (by rw [HLL.out.2.1]; exact HKE.out.2.1) (by rw [HLL.out.2.2.1]; exact HKE.out.2.2.1) (ne_of_len (by rw [HLL.out.2.1]; omega)) (ne_of_len (by rw [HLL.out.2.2.1]; exact c1.2)) HN2.out hsz)
      generalize decide (s < A.length ∧ 0 < r) = bb at *
      subst cb
      go_wp2_with (go_at_call 121; refine HR.out.mono ?_; rintro e w2 ⟨rfl, hs2⟩)
      go_meet
      simpa only [List.append_assoc] using hs2
     have cb : decide (s < A.length ∧ 0 < r) = false := decide_eq_false c1
     have HE := zH (show (P ++ A1) ++ (A2 ++ (B1 ++ (B2 ++ S))) = P ++ (A1 ++ (B1 ++ (A2 ++ (B2 ++ S)))) by
      by_cases c : s < A.length
      ·have : B1 = [] := List.eq_nil_of_length_eq_zero (by rw [HLL.out.2.2.1]; omega)
       rw [this]; simp
      have : A2 = [] := List.eq_nil_of_length_eq_zero (by rw [HLL.out.2.1]; omega)
      rw [this]; simp)
     generalize decide (s < A.length ∧ 0 < r) = bb at *
     subst cb
     go_wp2_with fail
     go_meet
     rw [← HE.out]; exact HST2.out
    case rest =>
     have HST3 := zH hcut
     clear hcut HST2
     go_upto_region 41 with fail
     go_cut [199] (fun u wx => u = .bool (decide (0 < s ∧ 0 < r)) ∧ wx = wc)
     case first => as_aux_lemma =>
      by_cases c : 0 < s
      ·have c2 : (a : Int) < (i : Int) := Int.ofNat_lt.2 (HKI.out.2.2.1.2 c)
       by_cases d : 0 < r
       ·have c3 : (i : Int) < (mid : Int) := Int.ofNat_lt.2 (HKI.out.2.2.2.1.2 d)
        go_wp2_with fail
        go_meet
        exact ⟨by simp [c, d], rfl⟩
       have c3 : ¬ (i : Int) < (mid : Int) := fun h => d (HKI.out.2.2.2.1.1 (Int.ofNat_lt.1 h))
       go_wp2_with fail
       go_meet
       exact ⟨by simp [d], rfl⟩
      have c2 : ¬ (a : Int) < (i : Int) := fun h => c (HKI.out.2.2.1.1 (Int.ofNat_lt.1 h))
      have c4 : decide ((a : Int) < (i : Int)) = false := decide_eq_false c2
      go_wp2_with fail
      go_meet
      exact ⟨by simp [c], rfl⟩
     case rest =>
      obtain ⟨rfl, rfl⟩ := hcut
      go_upto_if 199 with fail
      go_cut [] (fun wx => Sw w0 wx g T enc rest (P ++ (Stb.mrg lt A1 B1 ++ (A2 ++ (B2 ++ S)))))
      case first => as_aux_lemma =>
       by_cases c1 : 0 < s ∧ 0 < r
       ·have cb : decide (0 < s ∧ 0 < r) = true := decide_eq_true c1
        have HR := zH (HIH.out P A1 B1 (A2 ++ (B2 ++ S)) a i mid wc (ne_of_len (by rw [HLL.out.1]; exact c1.1)) (ne_of_len (by rw [HLL.out.2.2.1]; exact c1.2)) (by rw [HLL.out.1, HLL.out.2.2.1]; exact HLT.out.1) HST3.out HKE.out.2.2.2.2.2.2.2.2 (by rw [HLL.out.1]; exact HKE.out.2.2.2.1) (by rw [HLL.out.2.2.1]; exact HKE.out.2.2.2.2.1) HSA.out.1 HSA.out.2.2.1 (by simp only [List.length_append, HLL.out.1, HLL.out.2.1, HLL.out.2.2.1, HLL.out.2.2.2]; exact HKL.out))
        generalize decide (0 < s ∧ 0 < r) = bb at *
        subst cb
        go_wp2_with (go_at_call 106; refine HR.out.mono ?_; rintro e w2 ⟨rfl, hs2⟩)
        go_meet
        exact hs2
       have cb : decide (0 < s ∧ 0 < r) = false := decide_eq_false c1
       have HE := zH (HE1.out c1)
       generalize decide (0 < s ∧ 0 < r) = bb at *
       subst cb
       go_wp2_with fail
       go_meet
       rw [HE.out]; have h := HST3.out; simpa only [List.append_assoc] using h
      case rest =>
       have HST4 := zH hcut
       clear hcut HST3
       have HLM := zH (Stb.mrg_len (lt := lt) A1 B1)
       have HR0 := zH (show P ++ (Stb.mrg lt A1 B1 ++ (Stb.mrg lt A2 B2 ++ S)) = P ++ (Stb.mrg lt A B ++ S) by rw [HM.out, List.append_assoc])
       go_upto_region 43 with fail
       go_cut [213] (fun u wx => u = .bool (decide (s < A.length ∧ r < B.length)) ∧ wx = wc)
       case first => as_aux_lemma =>
        by_cases c : s < A.length
        ·have c2 : (mid : Int) < (en : Int) := Int.ofNat_lt.2 (HKI.out.2.2.2.2.1.2 c)
         by_cases d : r < B.length
         ·have c3 : (en : Int) < (b : Int) := Int.ofNat_lt.2 (HKI.out.2.2.2.2.2.2 d)
          go_wp2_with fail
          go_meet
          exact ⟨by simp [c, d], rfl⟩
         have c3 : ¬ (en : Int) < (b : Int) := fun h => d (HKI.out.2.2.2.2.2.1 (Int.ofNat_lt.1 h))
         go_wp2_with fail
         go_meet
         exact ⟨by simp [d], rfl⟩
        have c2 : ¬ (mid : Int) < (en : Int) := fun h => c (HKI.out.2.2.2.2.1.1 (Int.ofNat_lt.1 h))
        have c4 : decide ((mid : Int) < (en : Int)) = false := decide_eq_false c2
        go_wp2_with fail
        go_meet
        exact ⟨by simp [c], rfl⟩
       case rest =>
        obtain ⟨rfl, rfl⟩ := hcut
        by_cases c1 : s < A.length ∧ r < B.length
        ·have cb : decide (s < A.length ∧ r < B.length) = true := decide_eq_true c1
         have HR := zH (HIH.out (P ++ Stb.mrg lt A1 B1) A2 B2 S mid en b wc (ne_of_len (by rw [HLL.out.2.1]; omega)) (ne_of_len (by rw [HLL.out.2.2.2]; omega)) (by rw [HLL.out.2.1, HLL.out.2.2.2]; exact HLT.out.2) (by rw [List.append_assoc]; exact HST4.out) (by rw [List.length_append, HLM.out, HLL.out.1, HLL.out.2.2.1]; exact HKE.out.2.2.2.2.2.2.2.1) (by rw [HLL.out.2.1]; exact HKE.out.2.2.2.2.2.1) (by rw [HLL.out.2.2.2]; exact HKE.out.2.2.2.2.2.2.1) HSA.out.2.1 HSA.out.2.2.2 (by have h := HKL.out; simp only [List.length_append, HLM.out, HLL.out.1, HLL.out.2.1, HLL.out.2.2.1, HLL.out.2.2.2]; omega))
         generalize decide (s < A.length ∧ r < B.length) = bb at *
         subst cb
         go_wp2_with (go_at_call 106; refine HR.out.mono ?_; rintro e w2 ⟨rfl, hs2⟩)
         go_end0
         exact ⟨rfl, by rw [← HR0.out, ← List.append_assoc P]; exact hs2⟩
        have cb : decide (s < A.length ∧ r < B.length) = false := decide_eq_false c1
        have HE := zH (HE2.out c1)
        generalize decide (s < A.length ∧ r < B.length) = bb at *
        subst cb
        go_wp2_with fail
        go_end0
        exact ⟨rfl, by rw [← HR0.out, HE.out, List.append_assoc]; exact HST4.out⟩

theorem symMerge_any {α : Type} (enc : α → List Value) (hk : ∀ x, (enc x).length = 5) (h1 : ∀ x, ∀ v, v ∈ enc x → v.oneCell' = true) (lt : α → α → Bool) (W : Stb.Wk lt) (w0 : World) (g cap N : Nat) (T : TypeId) (rest : List Value) (hc : (∀ wr, Own g w0 wr → ∀ x y : α, Calls Tryz.prog 51 #[.agg (enc x).toArray, .agg (enc y).toArray] wr fun e w' => ∃ z : Int, e = .returned (.int .i64 z) ∧ (z < 0 ↔ lt x y = true) ∧ Ext wr w')) (hsz : N ≤ 100000) :
  ∀ (n : Nat) (P A B S : List α) (a m b : Nat) (wr : World), A ≠ [] → B ≠ [] → A.length + B.length ≤ n → Sw w0 wr g T enc rest (P ++ (A ++ (B ++ S))) → P.length = a → a + A.length = m → m + B.length = b → Stb.Srt lt A → Stb.Srt lt B → (P ++ (A ++ (B ++ S))).length = N → Calls Tryz.prog 106 #[.slice (some ⟨g, 0, none⟩) N cap, .int .i64 a, .int .i64 m, .int .i64 b, .func (.func 51) #[] #[]] wr fun e w' => e = .returned (.tuple #[]) ∧ Sw w0 w' g T enc rest (P ++ (Stb.mrg lt A B ++ S)) := by
 intro n
 induction n with
 | zero => intro P A B S a m b wr hA hB hl; exact absurd (List.eq_nil_of_length_eq_zero (by omega)) hA
 | succ n ih =>
  intro P A B S a m b wr hA0 hB0 hl hst ha hm hb hA hB hN
  match A, hA0 with
  | [x], _ => exact symA_any enc hk h1 lt W w0 wr g cap a m b N T rest P B S x hc hst ha hm hb hB hN hsz
  | x :: x2 :: A, hA0 =>
   match B, hB0 with
   | [y], _ => exact symB_any enc hk h1 lt W w0 wr g cap a m b N T rest P (x :: x2 :: A) S y hc hst ha hm hb (by simp) hA hN hsz
   | y :: y2 :: B, hB0 =>
    exact symC_any enc hk h1 lt W w0 wr g cap a m b N T rest P (x :: x2 :: A) (y :: y2 :: B) S hc (fun P' A' B' S' a' m' b' w' q1 q2 q3 q4 q5 q6 q7 q8 q9 q10 => ih P' A' B' S' a' m' b' w' q1 q2 (by omega) q4 q5 q6 q7 q8 q9 q10) hst ha hm hb hA0 hB0 (by simp) (by simp) hA hB hN hsz

set_option maxRecDepth 20000 in
set_option maxHeartbeats 4000000 in
theorem stable_any {α : Type} (enc : α → List Value) (hk : ∀ x, (enc x).length = 5) (h1 : ∀ x, ∀ v, v ∈ enc x → v.oneCell' = true) (lt : α → α → Bool) (W : Stb.Wk lt) (w0 w : World) (g cap N : Nat) (T : TypeId) (rest : List Value) (xs : List α) (hc : (∀ wr, Own g w0 wr → ∀ x y : α, Calls Tryz.prog 51 #[.agg (enc x).toArray, .agg (enc y).toArray] wr fun e w' => ∃ z : Int, e = .returned (.int .i64 z) ∧ (z < 0 ↔ lt x y = true) ∧ Ext wr w')) (hst : Sw w0 w g T enc rest xs) (hN : xs.length = N) (hsz : N ≤ 20000) :
  Calls Tryz.prog 81 #[.slice (some ⟨g, 0, none⟩) N cap, .int .i64 N, .func (.func 51) #[] #[]] w fun e w' => e = .returned (.tuple #[]) ∧ Sw w0 w' g T enc rest (Stb.stab lt xs) := by
 have HC := zH hc
 have HST0 := zH hst
 have HN := zH hN
 clear hst hc hN
 go_enter Tryz.func81, Tryz.ntmps81
 go_wp2_with fail
 go_loopg [7, 8] (N + 20) (fun c u v wr => ∃ (a b : Nat) (row : List α), b = a + 20 ∧ a ≤ N ∧ c = N + 20 - a ∧ u = .int .i64 a ∧ v = .int .i64 b ∧ Stb.Fst lt 20 a xs row ∧ Sw w0 wr g T enc rest row)
 case atStart => exact ⟨0, 20, xs, rfl, Nat.zero_le _, rfl, rfl, rfl, Stb.Fst.start 20 xs, HST0.out⟩
 case round =>
  clear HST0
  obtain ⟨a, b, row, hb, haN, rfl, rfl, rfl, hf, hst⟩ := hrel
  have HST := zH hst
  have HF := zH hf
  clear hst hf
  by_cases hlt : b ≤ N
  ·have hlt2 : (b : Int) ≤ (N : Int) := by omega
   obtain ⟨P, X, S, rfl, hP, hX, hF2⟩ := HF.out.cut (by rw [HN.out]; omega)
   have hlen := HF.out.len
   have HB := zH (insertion_any enc hk h1 lt W w0 wr g cap a b N T rest P X S HC.out HST.out hP (by omega) (by rw [hlen, HN.out]) (by omega))
   have HF2 := zH hF2
   clear hP hX hF2 hlen HST
   obtain ⟨b2, hb2⟩ : ∃ b2, b2 = b + 20 := ⟨_, rfl⟩
   have e1 : (b : Int) + 20 = (b2 : Int) := by omega
   have wb : IntKind.i64.wrap (b2 : Int) = (b2 : Int) := by rw [IntKind.wrap_i64]; omega
   have HB2 := zH (And.intro hb hb2)
   clear hb hb2
   go_wp2_with (go_at_call 105; refine HB.out.mono ?_; rintro e w2 ⟨rfl, hs2⟩)
   go_roundg (N + 20 - b)
   case measure => have := HB2.out; omega
   case rel => exact ⟨b, b2, _, HB2.out.2, hlt, rfl, rfl, rfl, by rw [HB2.out.1]; exact HF2.out, hs2⟩
  have hlt2 : ¬ (b : Int) ≤ (N : Int) := by omega
  obtain ⟨P, X, rfl, hP, hX, hF2⟩ := HF.out.last (by rw [HN.out]; omega)
  have hlen := HF.out.len
  have HB := zH (insertion_any enc hk h1 lt W w0 wr g cap a N N T rest P X [] HC.out HST.out hP (by rw [hX, HN.out]) (by rw [hlen, HN.out]) (by omega))
  have HF2 := zH hF2
  clear hP hX hF2 hlen HST hb
  go_wp2_with (go_at_call 105; refine HB.out.mono ?_; rintro e w2 ⟨rfl, hs2⟩)
  have HS2 := zH hs2
  clear hs2 HB HF
  go_loopg [6] (2 * N) (fun c v wr => ∃ (s : Nat) (row : List α), 20 ≤ s ∧ s ≤ 2 * N + 20 ∧ c = 2 * N + 20 - s ∧ v = .int .i64 s ∧ Stb.Blks lt s xs row ∧ Sw w0 wr g T enc rest row)
  case atStart => exact ⟨20, _, Nat.le_refl _, by omega, by omega, rfl, HF2.out, HS2.out⟩
  case round =>
   clear HS2 HF2 hlt2 hlt
   obtain ⟨s, row, hs20, hs2N, rfl, rfl, hf, hst⟩ := hrel
   have HST := zH hst
   have HF := zH hf
   clear hst hf
   by_cases hlt : s < N
   ·have hlt2 : (s : Int) < (N : Int) := by omega
    obtain ⟨d, hd⟩ : ∃ d, d = 2 * s := ⟨_, rfl⟩
    have e1 : 2 * (s : Int) = (d : Int) := by omega
    have e1b : (s : Int) * 2 = (d : Int) := by omega
    have wd : IntKind.i64.wrap (d : Int) = (d : Int) := by rw [IntKind.wrap_i64]; omega
    have HD := zH hd
    clear hd
    go_wp2_with fail
    go_loopg [7, 8] (N + d) (fun c u v wr => ∃ (a b : Nat) (row : List α), b = a + d ∧ a ≤ N ∧ c = N + d - a ∧ u = .int .i64 a ∧ v = .int .i64 b ∧ Stb.Half lt s a xs row ∧ Sw w0 wr g T enc rest row)
    case atStart => exact ⟨0, d, row, by omega, Nat.zero_le _, rfl, rfl, rfl, HF.out.half, HST.out⟩
    case round =>
     clear HST HF
     obtain ⟨a, b, row2, hb, haN, rfl, rfl, rfl, hf, hst⟩ := hrel
     have HST := zH hst
     have HF := zH hf
     clear hst hf
     by_cases hlb : b ≤ N
     ·have hlb2 : (b : Int) ≤ (N : Int) := by omega
      obtain ⟨P, A, B, S, rfl, hP, hA, hB, hsA, hsB, hF2⟩ := HF.out.cut W (by omega) (by rw [HN.out]; have := HD.out; omega)
      have hlen := HF.out.len
      obtain ⟨m, hm⟩ : ∃ m, m = a + s := ⟨_, rfl⟩
      have e2 : (a : Int) + (s : Int) = (m : Int) := by omega
      have wm : IntKind.i64.wrap (m : Int) = (m : Int) := by rw [IntKind.wrap_i64]; omega
      have HB := zH (symMerge_any enc hk h1 lt W w0 g cap N T rest HC.out (by omega) _ P A B S a m b wr (ne_of_len (by omega)) (ne_of_len (by omega)) (Nat.le_refl _) HST.out hP (by rw [hA, hm]) (by have := HD.out; omega) hsA hsB (by rw [hlen, HN.out]))
      obtain ⟨b2, hb2⟩ : ∃ b2, b2 = b + d := ⟨_, rfl⟩
      have e3 : (b : Int) + (d : Int) = (b2 : Int) := by omega
      have wb : IntKind.i64.wrap (b2 : Int) = (b2 : Int) := by rw [IntKind.wrap_i64]; omega
      have HB2 := zH (And.intro hb hb2)
      have HF2 := zH hF2
      clear hP hA hB hsA hsB hF2 hlen HST hb hb2 hm
      go_wp2_with (go_at_call 106; refine HB.out.mono ?_; rintro e w2 ⟨rfl, hs2⟩)
      go_roundg (N + d - b)
      case measure => have := HB2.out; omega
      case rel => exact ⟨b, b2, _, HB2.out.2, hlb, rfl, rfl, rfl, by rw [HB2.out.1, HD.out]; exact HF2.out, hs2⟩
     have hlb2 : ¬ (b : Int) ≤ (N : Int) := by omega
     obtain ⟨m, hm⟩ : ∃ m, m = a + s := ⟨_, rfl⟩
     have e2 : (a : Int) + (s : Int) = (m : Int) := by omega
     have wm : IntKind.i64.wrap (m : Int) = (m : Int) := by rw [IntKind.wrap_i64]; omega
     by_cases hmN : m < N
     ·have hmN2 : (m : Int) < (N : Int) := by omega
      obtain ⟨P, A, B, rfl, hP, hA, hB, hsA, hsB, hF2⟩ := HF.out.last W (by rw [HN.out]; have := HD.out; omega) (by rw [HN.out]; omega)
      have hlen := HF.out.len
      rw [HN.out] at hB
      have HB := zH (symMerge_any enc hk h1 lt W w0 g cap N T rest HC.out (by omega) _ P A B [] a m N wr (ne_of_len (by omega)) (ne_of_len (by omega)) (Nat.le_refl _) HST.out hP (by rw [hA, hm]) (by omega) hsA hsB (by rw [hlen, HN.out]))
      have HF2 := zH hF2
      clear hP hA hB hsA hsB hF2 hlen HST hb hm
      go_wp2_with (go_at_call 106; refine HB.out.mono ?_; rintro e w2 ⟨rfl, hs2⟩)
      go_roundg (2 * N + 20 - d)
      case measure => have := HD.out; omega
      case rel => exact ⟨d, _, by have := HD.out; omega, by have := HD.out; omega, rfl, rfl, by rw [HD.out]; exact HF2.out, hs2⟩
     have hmN2 : ¬ (m : Int) < (N : Int) := by omega
     have HF2 := zH (HF.out.none (by rw [HN.out]; have := HD.out; omega) (by rw [HN.out]; omega))
     clear hb hm
     go_wp2_with fail
     go_roundg (2 * N + 20 - d)
     case measure => have := HD.out; omega
     case rel => exact ⟨d, _, by have := HD.out; omega, by have := HD.out; omega, rfl, rfl, by rw [HD.out]; exact HF2.out, HST.out⟩
   have hlt2 : ¬ (s : Int) < (N : Int) := by omega
   have HR := zH (HF.out.all (by rw [HN.out]; omega))
   go_wp2_with fail
   go_end0
   exact ⟨rfl, by rw [← HR.out]; exact HST.out⟩

theorem sortStable_any {α : Type} (enc : α → List Value) (hk : ∀ x, (enc x).length = 5) (h1 : ∀ x, ∀ v, v ∈ enc x → v.oneCell' = true) (lt : α → α → Bool) (W : Stb.Wk lt) (w0 w : World) (g cap N : Nat) (T : TypeId) (rest : List Value) (xs : List α) (hc : (∀ wr, Own g w0 wr → ∀ x y : α, Calls Tryz.prog 51 #[.agg (enc x).toArray, .agg (enc y).toArray] wr fun e w' => ∃ z : Int, e = .returned (.int .i64 z) ∧ (z < 0 ↔ lt x y = true) ∧ Ext wr w')) (hst : Sw w0 w g T enc rest xs) (hN : xs.length = N) (hsz : N ≤ 20000) :
  Calls Tryz.prog 50 #[.slice (some ⟨g, 0, none⟩) N cap, .func (.func 51) #[] #[]] w fun e w' => e = .returned (.tuple #[]) ∧ Sw w0 w' g T enc rest (Stb.stab lt xs) := by
 have HB := zH (stable_any enc hk h1 lt W w0 w g cap N T rest xs hc hst hN hsz)
 clear hc hst hN
 go_enter Tryz.func50, Tryz.ntmps50
 go_wp2_with (go_at_call 81; refine HB.out.mono ?_; rintro e w2 ⟨rfl, hs2⟩)
 go_end0
 exact ⟨rfl, hs2⟩

theorem insertion_none (v c : Value) (w : World) : Calls Tryz.prog 105 #[v, .int .i64 0, .int .i64 0, c] w fun e w' => e = .returned (.tuple #[]) ∧ w = w' := by
  go_enter Tryz.func105, Tryz.ntmps105
  go_wp2_with fail
  refine wp_loop_rounds 1 ?_
  rw [rounds_succ]
  go_wp2_with fail
  go_end0
  exact ⟨rfl, rfl⟩
theorem stable_none (v c : Value) (w : World) : Calls Tryz.prog 81 #[v, .int .i64 0, c] w fun e w' => e = .returned (.tuple #[]) ∧ w = w' := by
  go_enter Tryz.func81, Tryz.ntmps81
  go_wp2_with fail
  refine wp_loop_rounds 1 ?_
  rw [rounds_succ]
  go_wp2_with (go_at_call 105; refine (insertion_none _ _ _).mono ?_; rintro e w2 ⟨rfl, rfl⟩)
  refine wp_loop_rounds 1 ?_
  rw [rounds_succ]
  go_wp2_with fail
  go_end0
  exact ⟨rfl, rfl⟩
theorem sortStable_none (A : Option Addr) (cap : Nat) (c : Value) (w : World) : Calls Tryz.prog 50 #[.slice A 0 cap, c] w fun e w' => e = .returned (.tuple #[]) ∧ w = w' := by
  go_enter Tryz.func50, Tryz.ntmps50
  go_wp2_with (go_at_call 81; refine (stable_none _ _ _).mono ?_; rintro e w2 ⟨rfl, rfl⟩)
  go_end0
  exact ⟨rfl, rfl⟩
end Go.Proofs.YtaeeeailoiioaacGreat.mrk

namespace Go.Proofs.YtaeeeailoiioaacGreat
open Go.RowKit
attribute [local go_sem ↓] Go.wp_at_zero Go.wp_at_succ run_max_ii run_min_ii

theorem results_c1t1 {P : Program} {fn : Func} {i j : Tmp} {t : TypeId} (h : fn.results = #[.cell i t, .tmp j]) {tmps : Array Value} {w : World} {p : Addr} {v v2 : Value}
    (hi : tmps.getD i undef = .pointer (some p)) (h1 : (Go.loadVar t p).run P w = .ok v w) (hj : tmps.getD j undef = v2) : (results fn tmps).run P w = .ok (.tuple #[v, v2]) w := by
  simp only [Array.getD_eq_getD_getElem?] at hi hj
  simp [results, h, hi, hj, h1, asAddr]
theorem rcmp_neg (q r : Rat) : rcmp r q = - rcmp q r := by
  unfold rcmp
  rw [← Int.sign_neg]
  congr 1
  omega
theorem PtsV.two {w : World} {X : Nat} {t : TypeId} {ax ay bx bY : Int} (h : Blk w X t #[.int .i64 ax, .int .i64 ay, .int .i64 bx, .int .i64 bY]) : PtsV w (.slice (some ⟨X, 0, none⟩) 2 2) [(ax, ay), (bx, bY)] := by
  refine ⟨_, 2, rfl, fun _ => ⟨X, 0, rfl, fun i hi => ?_⟩⟩
  match i, hi with
  | 0, _ => exact ⟨by rw [h.cell]; rfl, by rw [h.cell]; rfl⟩
  | 1, _ => exact ⟨by rw [h.cell]; rfl, by rw [h.cell]; rfl⟩
theorem may_t (u : Value) (ps : List (Int × Int)) (w : World) (hu : PtsV w u ps) (hn : ps.length ≤ 100000) (hok : okAll ps = true) :
    Calls Tryz.prog 76 #[u] w fun e w' => e = .returned (.bool true) ∧ Ext w w' := by
  have h := may_any u ps w hu hn
  rw [hok] at h
  exact h
def xatV (ax ay bx bY : Int) (y : Rat) : Rat := (ax : Rat) + (y - (ay : Rat)) * (((1 : Int) : Rat) / ((bY - ay : Int) : Rat)) * ((bx - ax : Int) : Rat)
theorem zu {a' : Act} {P : Program} {l : List Oper} {Q : Exit → Act → World → Prop} {md : Region.Mode} {S : World → Prop} {oi : Oper} {fuel : Nat} {listed : Array Bool} {a : Act} {w : World} {v : Value} (i : Nat) (listed' : Array Bool) (hS : S w) (h : wpAnyH P md l.toArray Q S fuel listed' a' w) (hi : l[i]? = some oi := by rfl) (hs : Region.noSelect l.toArray = true := by kernel_rfl) (hf : Region.free md l.toArray listed i = true := by kernel_rfl) (hr : (Region.ready md l.toArray listed).contains i = true := by kernel_rfl) (hv : ∀ w, S w → (execOp a.eval oi).run P w = .ok (.value v) w) (hQ : ∀ c a w, Q (.panic c) (a.put oi.dst v) w → Q (.panic c) a w := by intro _ _ _ h; exact h) (hw : Region.wanted oi (yielded l.toArray a.tmps) = true := by rfl) (hl : listed.setIfInBounds i true = listed' := by kernel_rfl) (ha : a.put oi.dst v = a' := by simp only [Act.put, zA, zB, zC] <;> rfl) : wpAnyH P md l.toArray Q S (fuel + 1) listed a w := by subst ha; exact md_val hi hs hf hr hQ hw hv hS hl h
set_option maxRecDepth 20000 in
set_option maxHeartbeats 8000000 in
theorem xat_any (L : Nat) (ax ay bx bY : Int) (cy : Array Value) (y : Rat) (w : World) (hy : NIn L w cy y) (h1L : 1 ≤ L) (hL : L ≤ 2000) (ha : okPt ax ay = true) (hb : okPt bx bY = true) (hne : ay ≠ bY) (hlo : ((min ay bY : Int) : Rat) ≤ y) (hhi : y ≤ ((max ay bY : Int) : Rat)) :
  Calls Tryz.prog 49 #[.agg #[.int .i64 ax, .int .i64 ay], .agg #[.int .i64 bx, .int .i64 bY], .agg cy] w fun e w' => ∃ c, e = .returned (.tuple #[.agg c, .bool true]) ∧ NIs w' c (xatV ax ay bx bY y) ∧ Ext w w' := by
 have ha2 : (-1048576 ≤ ax ∧ ax ≤ 1048576) ∧ (-1048576 ≤ ay ∧ ay ≤ 1048576) := by simpa [okPt] using ha
 have hb2 : (-1048576 ≤ bx ∧ bx ≤ 1048576) ∧ (-1048576 ≤ bY ∧ bY ≤ 1048576) := by simpa [okPt] using hb
 have HOK := zH (show okAll [(ax, ay), (bx, bY)] = true by simp [okAll, ha, hb])
 have ZY := hy.size
 have ry := hy.rl h1L
 have k1 : ¬ rcmp y ((min ay bY : Int) : Rat) < 0 := fun h => Rat.not_lt.2 hlo (rcmp_lt.1 h)
 have k2 : ¬ rcmp ((max ay bY : Int) : Rat) y < 0 := fun h => Rat.not_lt.2 hhi (rcmp_lt.1 h)
 have HK1 := zH k1
 have HK2 := zH k2
 have hm1 : -1048576 ≤ min ay bY ∧ min ay bY ≤ 1048576 := by omega
 have hm2 : -1048576 ≤ max ay bY ∧ max ay bY ≤ 1048576 := by omega
 clear ha hb hlo hhi k1 k2
 have Fy := zH hy
 clear hy
 go_enter Tryz.func49, Tryz.ntmps49
 go_upto_region 1 with fail
 have hbx0 : Blk ((((w.alloc (.cells #[.int .i64 ax, .int .i64 ay] 44)).alloc (.cells #[.int .i64 bx, .int .i64 bY] 44)).alloc (.cells cy 27)).alloc (.cells z4 27)) (w.heap.size) 44 #[.int .i64 ax, .int .i64 ay] := Blk.ext (Blk.new_at w _ (by simp) _ _) ((((Ext.refl _).alloc _).alloc _).alloc _)
 have hbx1 : Blk ((((w.alloc (.cells #[.int .i64 ax, .int .i64 ay] 44)).alloc (.cells #[.int .i64 bx, .int .i64 bY] 44)).alloc (.cells cy 27)).alloc (.cells z4 27)) (w.heap.size + 1) 44 #[.int .i64 bx, .int .i64 bY] := Blk.ext (Blk.new_at (w.alloc (.cells #[.int .i64 ax, .int .i64 ay] 44)) _ (by simp) _ _) (((Ext.refl _).alloc _).alloc _)
 have hbx2 : Blk ((((w.alloc (.cells #[.int .i64 ax, .int .i64 ay] 44)).alloc (.cells #[.int .i64 bx, .int .i64 bY] 44)).alloc (.cells cy 27)).alloc (.cells z4 27)) (w.heap.size + 1 + 1) 27 cy := Blk.ext (Blk.new_at ((w.alloc (.cells #[.int .i64 ax, .int .i64 ay] 44)).alloc (.cells #[.int .i64 bx, .int .i64 bY] 44)) _ (by simp) _ _) ((Ext.refl _).alloc _)
 have hR0 : Blk ((((w.alloc (.cells #[.int .i64 ax, .int .i64 ay] 44)).alloc (.cells #[.int .i64 bx, .int .i64 bY] 44)).alloc (.cells cy 27)).alloc (.cells z4 27)) (w.heap.size + 1 + 1 + 1) 27 z4 := Blk.ext (Blk.new_at (((w.alloc (.cells #[.int .i64 ax, .int .i64 ay] 44)).alloc (.cells #[.int .i64 bx, .int .i64 bY] 44)).alloc (.cells cy 27)) _ (by simp) _ _) (Ext.refl _)
 have hE : Ext w ((((w.alloc (.cells #[.int .i64 ax, .int .i64 ay] 44)).alloc (.cells #[.int .i64 bx, .int .i64 bY] 44)).alloc (.cells cy 27)).alloc (.cells z4 27)) := (((((Ext.refl _).alloc _).alloc _).alloc _).alloc _)
 have gR0 : w.heap.size ≤ w.heap.size + 1 + 1 + 1 := by omega
 have nbx0_R0 : w.heap.size ≠ w.heap.size + 1 + 1 + 1 := by omega
 have nbx1_R0 : w.heap.size + 1 ≠ w.heap.size + 1 + 1 + 1 := by omega
 have nbx2_R0 : w.heap.size + 1 + 1 ≠ w.heap.size + 1 + 1 + 1 := by omega
 generalize ((((w.alloc (.cells #[.int .i64 ax, .int .i64 ay] 44)).alloc (.cells #[.int .i64 bx, .int .i64 bY] 44)).alloc (.cells cy 27)).alloc (.cells z4 27)) = wa at *
 generalize w.heap.size + 1 + 1 + 1 = R0 at *
 generalize w.heap.size + 1 + 1 = bx2 at *
 generalize w.heap.size + 1 = bx1 at *
 have E1 : Hid (Ext w wa) := hE
 have Fbx0 := zH hbx0
 have Fbx1 := zH hbx1
 have Fbx2 := zH hbx2
 have FR0 := zH hR0
 clear hE hbx0 hbx1 hbx2 hR0
 refine wp_region_held_drew (S := fun x => Ext wa x) (by kernel_rfl) (Ext.refl _).drew (fun _ => ?_)
 have E2 := zH (show Ext wa wa.drew from (Ext.refl _).drew)
 refine zv 0 (bs 16 1) E2.out ?_
 refine zu 1 (bs 16 3) (v := .int .i64 ay) E2.out ?_ (hv := by intro w hSw; (try dsimp only at hSw); have hq_ := (Fbx0.out.ext hSw).cell 1; simp only [List.getElem?_toArray, List.getElem?_cons_zero, List.getElem?_cons_succ] at hq_; go_simp <;> with_reducible rfl)
 refine zv 2 (bs 16 7) E2.out ?_
 refine zu 3 (bs 16 15) (v := .int .i64 bY) E2.out ?_ (hv := by intro w hSw; (try dsimp only at hSw); have hq_ := (Fbx1.out.ext hSw).cell 1; simp only [List.getElem?_toArray, List.getElem?_cons_zero, List.getElem?_cons_succ] at hq_; go_simp <;> with_reducible rfl)
 refine zv 4 (bs 16 31) E2.out ?_
 refine zv 6 (bs 16 95) E2.out ?_
 refine zu 7 (bs 16 223) (v := .int .i64 ay) E2.out ?_ (hv := by intro w hSw; (try dsimp only at hSw); have hq_ := (Fbx0.out.ext hSw).cell 1; simp only [List.getElem?_toArray, List.getElem?_cons_zero, List.getElem?_cons_succ] at hq_; go_simp <;> with_reducible rfl)
 refine zv 8 (bs 16 479) E2.out ?_
 refine zu 9 (bs 16 991) (v := .int .i64 bY) E2.out ?_ (hv := by intro w hSw; (try dsimp only at hSw); have hq_ := (Fbx1.out.ext hSw).cell 1; simp only [List.getElem?_toArray, List.getElem?_cons_zero, List.getElem?_cons_succ] at hq_; go_simp <;> with_reducible rfl)
 refine zv 10 (bs 16 2015) E2.out ?_
 refine tuple2 (f := 2) 5 11 12 13 16 22 8 9 27 z4 (fun v w => ∃ c, v = .agg c ∧ NIs w c ((min ay bY : Int) : Rat)) (fun v w => ∃ c, v = .agg c ∧ NIs w c ((max ay bY : Int) : Rat)) rfl rfl rfl rfl (by decide) (by decide) (by kernel_rfl) (fun _ hx => E2.out.trans hx) (fun _ _ _ h e => by obtain ⟨c, h1, h2⟩ := h; exact ⟨c, h1, h2.ext e⟩) (fun _ _ _ h e => by obtain ⟨c, h1, h2⟩ := h; exact ⟨c, h1, h2.ext e⟩) ?hm11c1 ?hm11c2 ?hm11c3 ?hm11c4 ?hm11e undef undef undef undef (by kernel_rfl) rfl
 case hm11c1 =>
  intro v1 v2 v3 v4 w1 K hx hSw hK
  try simp only [Act.put, zA, zB, zC]
  rw [if_pos (by rfl)]
  refine wp_call_op (by go_simp) (pFrom (min ay bY) _ (by omega) (by omega)) ?_
  rintro e w' ⟨c, rfl, hc, he⟩
  refine ⟨_, rfl, ?_⟩
  have hk := hK.out _ _ ⟨_, rfl, hc⟩ he
  try simp only [Act.put, zA, zB, zC]
  simp only [Act.put, zA, zB, zC] at hk
  exact hk
 case hm11c2 =>
  intro v1 v2 v3 v4 w1 K hx hSw hK
  try simp only [Act.put, zA, zB, zC]
  rw [if_pos (by rfl)]
  refine wp_call_op (by go_simp) (pFrom (max ay bY) _ (by omega) (by omega)) ?_
  rintro e w' ⟨c, rfl, hc, he⟩
  refine ⟨_, rfl, ?_⟩
  have hk := hK.out _ _ ⟨_, rfl, hc⟩ he
  try simp only [Act.put, zA, zB, zC]
  simp only [Act.put, zA, zB, zC] at hk
  exact hk
 case hm11c3 =>
  intro v1 v2 v3 v4 w1 K hx hSw hK
  try simp only [Act.put, zA, zB, zC]
  go_simp
  have hk := hK.out
  simp only [Act.put, zA, zB, zC] at hk
  exact hk
 case hm11c4 =>
  intro v1 v2 v3 v4 w1 K hx hSw hK
  try simp only [Act.put, zA, zB, zC]
  go_simp
  have hk := hK.out
  simp only [Act.put, zA, zB, zC] at hk
  exact hk
 case hm11e =>
  intro v1 v2 Xm111 Xm112 wqm11 hx hSw xp1 xp2 xb1 xb2 xz1 xz2 n12
  obtain ⟨_, rfl, lo, rfl, ilo⟩ := xp1
  obtain ⟨_, rfl, hi, rfl, ihi⟩ := xp2
  (try simp only [zA, zB, zC])
  have hy : Ext wa wqm11 := hSw
  obtain ⟨xk2, xex, xr1, xr2, xe1, xfm⟩ := stored_two (zs := z4) (c1 := #[.bool lo.n, .slice lo.p lo.l lo.c, .bool lo.m, .slice lo.p2 lo.l2 lo.c2]) (c2 := #[.bool hi.n, .slice hi.p hi.l hi.c, .bool hi.m, .slice hi.p2 hi.l2 hi.c2]) (noU_of _ (by simp)) hy xb1 xb2 xz1 xz2 n12 rfl rfl
  refine mO 14 (bs 16 32767) #[.bool lo.n, .slice lo.p lo.l lo.c, .bool lo.m, .slice lo.p2 lo.l2 lo.c2] xb1 rfl (by kernel_rfl) (all_oneCell_toArray (by simp [Value.oneCell'])) xe1 ?_
  (try simp only [Act.put])
  refine mO 15 (bs 16 65535) #[.bool hi.n, .slice hi.p hi.l hi.c, .bool hi.m, .slice hi.p2 hi.l2 hi.c2] xk2 rfl (by kernel_rfl) (all_oneCell_toArray (by simp [Value.oneCell'])) xex ?_
  (try simp only [Act.put])
  refine wpAnyH_done (by kernel_rfl) ?_ _
  have jlo := xfm _ _ ilo
  have nV8_R0 : Xm111 ≠ R0 := by have h9 := Blk.lt FR0.out; have h8 : wa.heap.size ≤ Xm111 := xz1; omega
  have jhi := xfm _ _ ihi
  have nV9_R0 : Xm112 ≠ R0 := by have h9 := Blk.lt FR0.out; have h8 : wa.heap.size ≤ Xm112 := xz2; omega
  clear xb1 xb2 xfm hx hy hSw xk2 xe1 ilo ihi
  generalize ((wqm11.setCells Xm111 0 (#[.bool lo.n, .slice lo.p lo.l lo.c, .bool lo.m, .slice lo.p2 lo.l2 lo.c2] : Array Value).toList).setCells Xm112 0 (#[.bool hi.n, .slice hi.p hi.l hi.c, .bool hi.m, .slice hi.p2 hi.l2 hi.c2] : Array Value).toList) = wsm11 at *
  have E2 : Hid (Ext wa wsm11) := xex
  have FV8 := zH xr1
  have Flo := zH jlo
  have FV9 := zH xr2
  have Fhi := zH jhi
  clear xex xr1 jlo xr2 jhi
  obtain ⟨z1, hz1⟩ : ∃ z, z = rcmp y ((min ay bY : Int) : Rat) := ⟨_, rfl⟩
  obtain ⟨z2, hz2⟩ : ∃ z, z = rcmp y ((max ay bY : Int) : Rat) := ⟨_, rfl⟩
  have hz1n : ¬ z1 < 0 := by rw [hz1]; exact HK1.out
  have hz2n : ¬ 0 < z2 := by rw [hz2, rcmp_neg ((max ay bY : Int) : Rat) y]; have := HK2.out; omega
  have HZ1 := zH hz1
  have HZ2 := zH hz2
  clear hz1 hz2
  have hneb : (ay == bY) = false := by simpa using hne
  have rl1 := rlI (min ay bY) (by omega)
  have rl2 := rlI (max ay bY) (by omega)
  have rl3 := rlI ay (by omega)
  have rl4 := rlI 1 (by decide)
  have rl5 := rlI (bY - ay) (by omega)
  go_upto_region 2 with fail
  refine wp_region_lit ?_
  refine pL (Fbx0.out.ext E2.out) Tryz.underlying44 (by rw [show (#[.int .i64 ax, .int .i64 ay] : Array Value).size = 2 from rfl]; kernel_rfl) ?_
  try simp only [Act.put, zA, zB, zC]
  refine pL (Fbx1.out.ext E2.out) Tryz.underlying44 (by rw [show (#[.int .i64 bx, .int .i64 bY] : Array Value).size = 2 from rfl]; kernel_rfl) ?_
  try simp only [Act.put, zA, zB, zC]
  refine zp (w' := (wsm11.alloc (.cells #[.int .i64 ax, .int .i64 ay, .int .i64 bx, .int .i64 bY] 44))) (.slice (some ⟨wsm11.heap.size, 0, none⟩) 2 2) (by go_simp) ?_
  have hbS := Blk.new wsm11 44 #[.int .i64 ax, .int .i64 ay, .int .i64 bx, .int .i64 bY]
  have hxS : Ext wsm11 (wsm11.alloc (.cells #[.int .i64 ax, .int .i64 ay, .int .i64 bx, .int .i64 bY] 44)) := (Ext.refl _).alloc _
  generalize (wsm11.alloc (.cells #[.int .i64 ax, .int .i64 ay, .int .i64 bx, .int .i64 bY] 44)) = wS at *
  generalize wsm11.heap.size = XS at *
  have E3 : Hid (Ext wsm11 wS) := hxS
  refine mv_call (by rfl) (by go_simp) (may_t _ [(ax, ay), (bx, bY)] _ (PtsV.two hbS) (by simp) HOK.out) ?_
  rintro e w4 ⟨rfl, hx⟩
  have E4 : Hid (Ext wS w4) := hx
  clear hx
  refine ⟨_, rfl, ?_⟩
  try simp only [Act.put, zA, zB, zC]
  clear hbS
  refine pV (w' := w4) ?_
  try simp only [Act.put, zA, zB, zC]
  refine pV (w' := w4) ?_
  try simp only [Act.put, zA, zB, zC]
  refine pV (w' := w4) ?_
  try simp only [Act.put, zA, zB, zC]
  have hq_ := ((Fbx0.out.ext (tr E2 (tr E3 E4)).out)).cell 1
  simp only [List.getElem?_toArray, List.getElem?_cons_zero, List.getElem?_cons_succ] at hq_
  refine zq (.int .i64 ay) ?_
  clear hq_
  refine pV (w' := w4) ?_
  try simp only [Act.put, zA, zB, zC]
  have hq_ := ((Fbx1.out.ext (tr E2 (tr E3 E4)).out)).cell 1
  simp only [List.getElem?_toArray, List.getElem?_cons_zero, List.getElem?_cons_succ] at hq_
  refine zq (.int .i64 bY) ?_
  clear hq_
  refine pV (w' := w4) ?_
  try simp only [Act.put, zA, zB, zC]
  refine pV (w' := w4) ?_
  try simp only [Act.put, zA, zB, zC]
  refine pV (w' := w4) ?_
  try simp only [Act.put, zA, zB, zC]
  refine pL (Fbx2.out.ext (tr E2 (tr E3 E4)).out) Tryz.underlying27 (by rw [show (cy : Array Value).size = 4 from ZY]; kernel_rfl) ?_
  try simp only [Act.put, zA, zB, zC]
  refine pL (FV8.out.ext (tr E3 E4).out) Tryz.underlying27 (by rw [show (#[.bool lo.n, .slice lo.p lo.l lo.c, .bool lo.m, .slice lo.p2 lo.l2 lo.c2] : Array Value).size = 4 from rfl]; kernel_rfl) ?_
  try simp only [Act.put, zA, zB, zC]
  refine mv_call (by rfl) (by go_simp) (pCmpS (L := L) HZ1.out (Fy.out.ext (tr E1 (tr E2 (tr E3 E4))).out) (NIs.isIn ⟨lo, rfl, (Flo.out.ext (tr E3 E4).out)⟩ (by omega)) (by omega)) ?_
  rintro e w5 ⟨rfl, hx⟩
  have E5 : Hid (Ext w4 w5) := hx
  clear hx
  refine ⟨_, rfl, ?_⟩
  try simp only [Act.put, zA, zB, zC]
  refine pV (w' := w5) ?_
  try simp only [Act.put, zA, zB, zC]
  refine pV (w' := w5) ?_
  try simp only [Act.put, zA, zB, zC]
  refine pV (w' := w5) ?_
  try simp only [Act.put, zA, zB, zC]
  refine pL (Fbx2.out.ext (tr E2 (tr E3 (tr E4 E5))).out) Tryz.underlying27 (by rw [show (cy : Array Value).size = 4 from ZY]; kernel_rfl) ?_
  try simp only [Act.put, zA, zB, zC]
  refine pL (FV9.out.ext (tr E3 (tr E4 E5)).out) Tryz.underlying27 (by rw [show (#[.bool hi.n, .slice hi.p hi.l hi.c, .bool hi.m, .slice hi.p2 hi.l2 hi.c2] : Array Value).size = 4 from rfl]; kernel_rfl) ?_
  try simp only [Act.put, zA, zB, zC]
  refine mv_call (by rfl) (by go_simp) (pCmpS (L := L) HZ2.out (Fy.out.ext (tr E1 (tr E2 (tr E3 (tr E4 E5)))).out) (NIs.isIn ⟨hi, rfl, (Fhi.out.ext (tr E3 (tr E4 E5)).out)⟩ (by omega)) (by omega)) ?_
  rintro e w6 ⟨rfl, hx⟩
  have E6 : Hid (Ext w5 w6) := hx
  clear hx
  refine ⟨_, rfl, ?_⟩
  try simp only [Act.put, zA, zB, zC]
  refine pV (w' := w6) ?_
  try simp only [Act.put, zA, zB, zC]
  refine pV (w' := w6) ?_
  try simp only [Act.put, zA, zB, zC]
  clear hz1n hz2n HZ1 HZ2 HK1 HK2
  go_upto_region 4 with fail
  have wd : IntKind.i64.wrap (bY - ay) = bY - ay := by rw [IntKind.wrap_i64]; omega
  have q1 := Nm.rl_sub y (ay : Rat)
  have q2 := Nm.rl_div ((1 : Int) : Rat) ((bY - ay : Int) : Rat)
  have q3 := Nm.rl_mul (y - (ay : Rat)) (((1 : Int) : Rat) / ((bY - ay : Int) : Rat))
  go_cut [10] (fun s wx => ∃ (X8 : Nat) (c8 : Array Value), s = .pointer (some ⟨X8, 0, none⟩) ∧ NIs wx c8 ((y - (ay : Rat)) * (((1 : Int) : Rat) / ((bY - ay : Int) : Rat))) ∧ Blk wx X8 27 c8 ∧ Ext w6 wx)
  case first =>
   refine wp_region_held_drew (S := fun x => Ext w6 x) (by kernel_rfl) (Ext.refl _).drew (fun _ => ?_)
   have E7 := zH (show Ext w6 w6.drew from (Ext.refl _).drew)
   refine zl 0 (bs 14 1) (fun x hx => ((Fbx2.out.ext (tr E2 (tr E3 (tr E4 (tr E5 E6)))).out)).ext hx) Tryz.underlying27 (by rw [show (cy : Array Value).size = 4 from ZY]; kernel_rfl) E7.out ?_
   refine zv 1 (bs 14 3) E7.out ?_
   refine zu 2 (bs 14 7) (v := .int .i64 ay) E7.out ?_ (hv := by intro w hSw; (try dsimp only at hSw); have hq_ := ((Fbx0.out.ext (tr E2 (tr E3 (tr E4 (tr E5 E6)))).out).ext hSw).cell 1; simp only [List.getElem?_toArray, List.getElem?_cons_zero, List.getElem?_cons_succ] at hq_; go_simp <;> with_reducible rfl)
   refine zv 5 (bs 14 39) E7.out ?_
   refine zu 6 (bs 14 103) (v := .int .i64 bY) E7.out ?_ (hv := by intro w hSw; (try dsimp only at hSw); have hq_ := ((Fbx1.out.ext (tr E2 (tr E3 (tr E4 (tr E5 E6)))).out).ext hSw).cell 1; simp only [List.getElem?_toArray, List.getElem?_cons_zero, List.getElem?_cons_succ] at hq_; go_simp <;> with_reducible rfl)
   refine zv 7 (bs 14 231) E7.out ?_
   refine zu 8 (bs 14 487) (v := .int .i64 ay) E7.out ?_ (hv := by intro w hSw; (try dsimp only at hSw); have hq_ := ((Fbx0.out.ext (tr E2 (tr E3 (tr E4 (tr E5 E6)))).out).ext hSw).cell 1; simp only [List.getElem?_toArray, List.getElem?_cons_zero, List.getElem?_cons_succ] at hq_; go_simp <;> with_reducible rfl)
   refine zv 9 (bs 14 999) E7.out ?_
   refine mB 3 12 (bs 14 1007) (bs 14 5095) (u := .pointer (some ⟨w6.drew.heap.size, 0, none⟩)) (wj := (w6.drew.alloc (.cells z4 27))) (pFrom ay _ (by omega) (by omega)) (E7.out.alloc _) ?_ ?_
   ·rintro e w8 ⟨c1, rfl, hc, hx⟩
    have E8 : Hid (Ext w6.drew w8) := hx
    have FA1 := zH hc
    clear hc
    clear hx
    refine ⟨_, rfl, (tr E7 E8).out, ?_⟩
    try simp only [Act.put, zA, zB, zC]
    refine mB 4 12 (bs 14 1023) (bs 14 5103) (u := .pointer (some ⟨w8.heap.size, 0, none⟩)) (wj := (w8.alloc (.cells z4 27))) (pSub (L := L + 1) ((Fy.out.ext (tr E1 (tr E2 (tr E3 (tr E4 (tr E5 (tr E6 (tr E7 E8))))))).out).mono (by omega)) (FA1.out.isIn (by omega)) (by omega)) ((tr E7 E8).out.alloc _) ?_ ?_
    ·rintro e w9 ⟨c2, rfl, hc, hx⟩
     have E9 : Hid (Ext w8 w9) := hx
     have FA2 := zH hc
     clear hc
     clear hx
     refine ⟨_, rfl, (tr E7 (tr E8 E9)).out, ?_⟩
     try simp only [Act.put, zA, zB, zC]
     refine mB 10 12 (bs 14 2047) (bs 14 5119) (u := .pointer (some ⟨w9.heap.size, 0, none⟩)) (wj := (w9.alloc (.cells z4 27))) (by_any 1 (bY - ay) _ (by omega) (by omega) (by omega) (by omega) (by omega)) ((tr E7 (tr E8 E9)).out.alloc _) ?_ ?_
     ·rintro e w10 ⟨c3, rfl, hc, hx⟩
      have E10 : Hid (Ext w9 w10) := hx
      have FA3 := zH hc
      clear hc
      clear hx
      refine ⟨_, rfl, (tr E7 (tr E8 (tr E9 E10))).out, ?_⟩
      try simp only [Act.put, zA, zB, zC]
      refine mB 11 12 (bs 14 4095) (bs 14 6143) (u := .pointer (some ⟨w10.heap.size, 0, none⟩)) (wj := (w10.alloc (.cells z4 27))) (pMul (L := L + 4) ((FA2.out.ext E10.out).isIn (by omega)) (FA3.out.isIn (by omega)) (by omega)) ((tr E7 (tr E8 (tr E9 E10))).out.alloc _) ?_ ?_
      ·rintro e w11 ⟨c4, rfl, hc, hx⟩
       have E11 : Hid (Ext w10 w11) := hx
       have FA4 := zH hc
       have Z4 := hc.size
       have O4 := hc.one
       clear hc
       clear hx
       refine ⟨_, rfl, (tr E7 (tr E8 (tr E9 (tr E10 E11)))).out, ?_⟩
       try simp only [Act.put, zA, zB, zC]
       refine mU 12 (bs 14 8191) (v := .pointer (some ⟨w11.heap.size, 0, none⟩)) (w' := (w11.alloc (.cells z4 27))) ((tr E7 (tr E8 (tr E9 (tr E10 E11)))).out.alloc _) ?_
       try simp only [Act.put, zA, zB, zC]
       have E12 := zH (show Ext w11 (w11.alloc (.cells z4 27)) from (Ext.refl _).alloc _)
       have Fnb12 := zH (Blk.new w11 27 z4)
       have hbx := Fnb12.out
       have ob := Own.setCells (w11.alloc (.cells z4 27)) w11.heap.size c4
       have hgb : w6.heap.size ≤ w11.heap.size := (tr E7 (tr E8 (tr E9 (tr E10 E11)))).out.size
       have hS8 : Ext w6 ((w11.alloc (.cells z4 27)).setCells w11.heap.size 0 (c4 : Array Value).toList) := ob.ext (tr E7 (tr E8 (tr E9 (tr E10 (tr E11 E12))))).out hgb
       refine mO 13 (bs 14 16383) c4 hbx (Eq.trans Z4 rfl) (by rw [show (c4 : Array Value).size = 4 from Z4]; kernel_rfl) O4 hS8 ?_
       (try simp only [Act.put])
       refine wpAnyH_done (by kernel_rfl) ?_ _
       go_wp2_with fail
       go_meet
       exact ⟨_, _, rfl, ((FA4.out.ext E12.out)).own hbx noUn ob, hbx.setCells c4 (Eq.trans Z4 rfl), hS8⟩
      (try simp only [Act.put, zA, zB, zC])
      have E11 := zH (show Ext w10 (w10.alloc (.cells z4 27)) from (Ext.refl _).alloc _)
      have Fnb12 := zH (Blk.new w10 27 z4)
      refine mC 11 (bs 14 8191) (pMul (L := L + 4) ((FA2.out.ext (tr E10 E11).out).isIn (by omega)) ((FA3.out.ext E11.out).isIn (by omega)) (by omega)) ?_
      rintro e w12 ⟨c4, rfl, hc, hx⟩
      have E12 := zH (show Ext (w10.alloc (.cells z4 27)) w12 from hx)
      have FA4 := zH hc
      have Z4 := hc.size
      have O4 := hc.one
      clear hc
      clear hx
      refine ⟨_, rfl, (tr E7 (tr E8 (tr E9 (tr E10 (tr E11 E12))))).out, ?_⟩
      try simp only [Act.put, zA, zB, zC]
      have hbx := (Fnb12.out.ext E12.out)
      have ob := Own.setCells w12 w10.heap.size c4
      have hgb : w6.heap.size ≤ w10.heap.size := (tr E7 (tr E8 (tr E9 E10))).out.size
      have hS8 : Ext w6 (w12.setCells w10.heap.size 0 (c4 : Array Value).toList) := ob.ext (tr E7 (tr E8 (tr E9 (tr E10 (tr E11 E12))))).out hgb
      refine mO 13 (bs 14 16383) c4 hbx (Eq.trans Z4 rfl) (by rw [show (c4 : Array Value).size = 4 from Z4]; kernel_rfl) O4 hS8 ?_
      (try simp only [Act.put])
      refine wpAnyH_done (by kernel_rfl) ?_ _
      go_wp2_with fail
      go_meet
      exact ⟨_, _, rfl, (FA4.out).own hbx noUn ob, hbx.setCells c4 (Eq.trans Z4 rfl), hS8⟩
     (try simp only [Act.put, zA, zB, zC])
     have E10 := zH (show Ext w9 (w9.alloc (.cells z4 27)) from (Ext.refl _).alloc _)
     have Fnb12 := zH (Blk.new w9 27 z4)
     refine mC 10 (bs 14 6143) (by_any 1 (bY - ay) _ (by omega) (by omega) (by omega) (by omega) (by omega)) ?_
     rintro e w11 ⟨c3, rfl, hc, hx⟩
     have E11 := zH (show Ext (w9.alloc (.cells z4 27)) w11 from hx)
     have FA3 := zH hc
     clear hc
     clear hx
     refine ⟨_, rfl, (tr E7 (tr E8 (tr E9 (tr E10 E11)))).out, ?_⟩
     try simp only [Act.put, zA, zB, zC]
     refine mC 11 (bs 14 8191) (pMul (L := L + 4) ((FA2.out.ext (tr E10 E11).out).isIn (by omega)) (FA3.out.isIn (by omega)) (by omega)) ?_
     rintro e w12 ⟨c4, rfl, hc, hx⟩
     have E12 : Hid (Ext w11 w12) := hx
     have FA4 := zH hc
     have Z4 := hc.size
     have O4 := hc.one
     clear hc
     clear hx
     refine ⟨_, rfl, (tr E7 (tr E8 (tr E9 (tr E10 (tr E11 E12))))).out, ?_⟩
     try simp only [Act.put, zA, zB, zC]
     have hbx := (Fnb12.out.ext (tr E11 E12).out)
     have ob := Own.setCells w12 w9.heap.size c4
     have hgb : w6.heap.size ≤ w9.heap.size := (tr E7 (tr E8 E9)).out.size
     have hS8 : Ext w6 (w12.setCells w9.heap.size 0 (c4 : Array Value).toList) := ob.ext (tr E7 (tr E8 (tr E9 (tr E10 (tr E11 E12))))).out hgb
     refine mO 13 (bs 14 16383) c4 hbx (Eq.trans Z4 rfl) (by rw [show (c4 : Array Value).size = 4 from Z4]; kernel_rfl) O4 hS8 ?_
     (try simp only [Act.put])
     refine wpAnyH_done (by kernel_rfl) ?_ _
     go_wp2_with fail
     go_meet
     exact ⟨_, _, rfl, (FA4.out).own hbx noUn ob, hbx.setCells c4 (Eq.trans Z4 rfl), hS8⟩
    (try simp only [Act.put, zA, zB, zC])
    have E9 := zH (show Ext w8 (w8.alloc (.cells z4 27)) from (Ext.refl _).alloc _)
    have Fnb12 := zH (Blk.new w8 27 z4)
    refine mC 4 (bs 14 5119) (pSub (L := L + 1) ((Fy.out.ext (tr E1 (tr E2 (tr E3 (tr E4 (tr E5 (tr E6 (tr E7 (tr E8 E9)))))))).out).mono (by omega)) ((FA1.out.ext E9.out).isIn (by omega)) (by omega)) ?_
    rintro e w10 ⟨c2, rfl, hc, hx⟩
    have E10 := zH (show Ext (w8.alloc (.cells z4 27)) w10 from hx)
    have FA2 := zH hc
    clear hc
    clear hx
    refine ⟨_, rfl, (tr E7 (tr E8 (tr E9 E10))).out, ?_⟩
    try simp only [Act.put, zA, zB, zC]
    refine mC 10 (bs 14 6143) (by_any 1 (bY - ay) _ (by omega) (by omega) (by omega) (by omega) (by omega)) ?_
    rintro e w11 ⟨c3, rfl, hc, hx⟩
    have E11 : Hid (Ext w10 w11) := hx
    have FA3 := zH hc
    clear hc
    clear hx
    refine ⟨_, rfl, (tr E7 (tr E8 (tr E9 (tr E10 E11)))).out, ?_⟩
    try simp only [Act.put, zA, zB, zC]
    refine mC 11 (bs 14 8191) (pMul (L := L + 4) ((FA2.out.ext E11.out).isIn (by omega)) (FA3.out.isIn (by omega)) (by omega)) ?_
    rintro e w12 ⟨c4, rfl, hc, hx⟩
    have E12 : Hid (Ext w11 w12) := hx
    have FA4 := zH hc
    have Z4 := hc.size
    have O4 := hc.one
    clear hc
    clear hx
    refine ⟨_, rfl, (tr E7 (tr E8 (tr E9 (tr E10 (tr E11 E12))))).out, ?_⟩
    try simp only [Act.put, zA, zB, zC]
    have hbx := (Fnb12.out.ext (tr E10 (tr E11 E12)).out)
    have ob := Own.setCells w12 w8.heap.size c4
    have hgb : w6.heap.size ≤ w8.heap.size := (tr E7 E8).out.size
    have hS8 : Ext w6 (w12.setCells w8.heap.size 0 (c4 : Array Value).toList) := ob.ext (tr E7 (tr E8 (tr E9 (tr E10 (tr E11 E12))))).out hgb
    refine mO 13 (bs 14 16383) c4 hbx (Eq.trans Z4 rfl) (by rw [show (c4 : Array Value).size = 4 from Z4]; kernel_rfl) O4 hS8 ?_
    (try simp only [Act.put])
    refine wpAnyH_done (by kernel_rfl) ?_ _
    go_wp2_with fail
    go_meet
    exact ⟨_, _, rfl, (FA4.out).own hbx noUn ob, hbx.setCells c4 (Eq.trans Z4 rfl), hS8⟩
   (try simp only [Act.put, zA, zB, zC])
   have E8 := zH (show Ext w6.drew (w6.drew.alloc (.cells z4 27)) from (Ext.refl _).alloc _)
   have Fnb12 := zH (Blk.new w6.drew 27 z4)
   refine mC 3 (bs 14 5103) (pFrom ay _ (by omega) (by omega)) ?_
   rintro e w9 ⟨c1, rfl, hc, hx⟩
   have E9 := zH (show Ext (w6.drew.alloc (.cells z4 27)) w9 from hx)
   have FA1 := zH hc
   clear hc
   clear hx
   refine ⟨_, rfl, (tr E7 (tr E8 E9)).out, ?_⟩
   try simp only [Act.put, zA, zB, zC]
   refine mC 4 (bs 14 5119) (pSub (L := L + 1) ((Fy.out.ext (tr E1 (tr E2 (tr E3 (tr E4 (tr E5 (tr E6 (tr E7 (tr E8 E9)))))))).out).mono (by omega)) (FA1.out.isIn (by omega)) (by omega)) ?_
   rintro e w10 ⟨c2, rfl, hc, hx⟩
   have E10 : Hid (Ext w9 w10) := hx
   have FA2 := zH hc
   clear hc
   clear hx
   refine ⟨_, rfl, (tr E7 (tr E8 (tr E9 E10))).out, ?_⟩
   try simp only [Act.put, zA, zB, zC]
   refine mC 10 (bs 14 6143) (by_any 1 (bY - ay) _ (by omega) (by omega) (by omega) (by omega) (by omega)) ?_
   rintro e w11 ⟨c3, rfl, hc, hx⟩
   have E11 : Hid (Ext w10 w11) := hx
   have FA3 := zH hc
   clear hc
   clear hx
   refine ⟨_, rfl, (tr E7 (tr E8 (tr E9 (tr E10 E11)))).out, ?_⟩
   try simp only [Act.put, zA, zB, zC]
   refine mC 11 (bs 14 8191) (pMul (L := L + 4) ((FA2.out.ext E11.out).isIn (by omega)) (FA3.out.isIn (by omega)) (by omega)) ?_
   rintro e w12 ⟨c4, rfl, hc, hx⟩
   have E12 : Hid (Ext w11 w12) := hx
   have FA4 := zH hc
   have Z4 := hc.size
   have O4 := hc.one
   clear hc
   clear hx
   refine ⟨_, rfl, (tr E7 (tr E8 (tr E9 (tr E10 (tr E11 E12))))).out, ?_⟩
   try simp only [Act.put, zA, zB, zC]
   have hbx := (Fnb12.out.ext (tr E9 (tr E10 (tr E11 E12))).out)
   have ob := Own.setCells w12 w6.drew.heap.size c4
   have hgb : w6.heap.size ≤ w6.drew.heap.size := E7.out.size
   have hS8 : Ext w6 (w12.setCells w6.drew.heap.size 0 (c4 : Array Value).toList) := ob.ext (tr E7 (tr E8 (tr E9 (tr E10 (tr E11 E12))))).out hgb
   refine mO 13 (bs 14 16383) c4 hbx (Eq.trans Z4 rfl) (by rw [show (c4 : Array Value).size = 4 from Z4]; kernel_rfl) O4 hS8 ?_
   (try simp only [Act.put])
   refine wpAnyH_done (by kernel_rfl) ?_ _
   go_wp2_with fail
   go_meet
   exact ⟨_, _, rfl, (FA4.out).own hbx noUn ob, hbx.setCells c4 (Eq.trans Z4 rfl), hS8⟩
  case rest =>
   obtain ⟨X10, c10, rfl, hfa, hb10, hx⟩ := hcut
   generalize wc = wv at *
   have E7 : Hid (Ext w6 wv) := hx
   have Z10 := hfa.size
   have O10 := hfa.one
   have FT10 := zH hfa
   have Fb10 := zH hb10
   clear hfa hb10 hx
   go_upto_region 5 with fail
   refine wp_region_lit ?_
   refine pV (w' := wv) ?_
   try simp only [Act.put, zA, zB, zC]
   have hq_ := ((Fbx0.out.ext (tr E2 (tr E3 (tr E4 (tr E5 (tr E6 E7))))).out)).cell 0
   simp only [List.getElem?_toArray, List.getElem?_cons_zero] at hq_
   refine zq (.int .i64 ax) ?_
   clear hq_
   refine pV (w' := wv) ?_
   try simp only [Act.put, zA, zB, zC]
   have hq_ := ((Fbx1.out.ext (tr E2 (tr E3 (tr E4 (tr E5 (tr E6 E7))))).out)).cell 0
   simp only [List.getElem?_toArray, List.getElem?_cons_zero] at hq_
   refine zq (.int .i64 bx) ?_
   clear hq_
   refine pL Fb10.out Tryz.underlying27 (by rw [show (c10 : Array Value).size = 4 from Z10]; kernel_rfl) ?_
   try simp only [Act.put, zA, zB, zC]
   refine mv_call (by rfl) (by go_simp) (along_any (2 * L + 10) ax bx _ _ _ (FT10.out.isIn (by omega)) (by omega) (by omega) (by omega) (by omega)) ?_
   rintro e w8 ⟨cr, rfl, hc, hx⟩
   have E8 : Hid (Ext wv w8) := hx
   have Fr := zH hc
   have ZR := hc.size
   have OR := hc.one
   clear hc
   clear hx
   refine ⟨_, rfl, ?_⟩
   try simp only [Act.put, zA, zB, zC]
   have o1 := Own.setCells w8 R0 cr
   have kb1 := (FR0.out.ext (tr E2 (tr E3 (tr E4 (tr E5 (tr E6 (tr E7 E8)))))).out)
   refine pO cr kb1 (Eq.trans ZR rfl) (by rw [show (cr : Array Value).size = 4 from ZR]; kernel_rfl) OR ?_
   (try simp only [Act.put])
   have kc1 := kb1.setCells cr (Eq.trans ZR rfl)
   refine mv_val (v := .bool true) (w' := (w8.setCells R0 0 (cr : Array Value).toList)) (by rfl) (by go_simp <;> with_reducible rfl) ?_
   (try simp only [Act.put])
   go_wp2_with fail
   refine bodyPost_ret (v := .tuple #[.agg cr, .bool true]) ?_ rfl ⟨_, rfl, Fr.out.own kb1 noUn o1, o1.ext (tr E1 (tr E2 (tr E3 (tr E4 (tr E5 (tr E6 (tr E7 E8))))))).out gR0⟩
   exact results_c1t1 rfl rfl (kc1.loadVar rfl rfl (by rw [ZR]; rfl)) rfl
end Go.Proofs.YtaeeeailoiioaacGreat

namespace Go.Proofs.YtaeeeailoiioaacGreat
open Go.RowKit

structure MkE where
  a : RV
  q : Rat
  up : Int
def MkE.cells (e : MkE) : List Value := [.bool e.a.n, .slice e.a.p e.a.l e.a.c, .bool e.a.m, .slice e.a.p2 e.a.l2 e.a.c2, .int .i64 e.up]
theorem MkE.len (e : MkE) : e.cells.length = 5 := rfl
theorem MkE.one (e : MkE) : ∀ v, v ∈ e.cells → v.oneCell' = true := by simp [MkE.cells, Value.oneCell']
theorem MkE.noU (e : MkE) : NoUL e.cells := by simp [NoUL, MkE.cells]
def MkE.vl (e : MkE) : QI := (e.q, e.up)
def MkE.Ok (L : Nat) (w : World) (e : MkE) : Prop := e.a.Is w e.q ∧ Nm.rl e.q ≤ L ∧ -1 ≤ e.up ∧ e.up ≤ 1
theorem MkE.Ok.dig {L : Nat} {w w' : World} {e : MkE} (h : e.Ok L w) (d : Dig w w') : e.Ok L w' := ⟨h.1.dig d, h.2⟩
theorem noUL_mk (es : List MkE) : NoUL (es.flatMap MkE.cells) := by
  intro x hx
  obtain ⟨e, _, he⟩ := List.mem_flatMap.1 hx
  exact MkE.noU e x he
theorem wkQ' {α : Type} (f : α → QI) : Stb.Wk (fun x y : α => ltM (f x) (f y)) := ⟨fun _ _ h => wkM.1 _ _ h, fun _ _ _ h1 h2 => wkM.2 _ _ _ h1 h2⟩
def ltK (e f : MkE) : Bool := ltM e.vl f.vl
theorem Dig.kept {w w' : World} {r : Option Nat} (hg : w.grownBy w' r) (hr : ∀ k, r = some k → ∃ o : Obj, w.heap[k]? = some o ∧ o.isCells = false) : Dig w w' := by
 intro v xs h
 obtain ⟨p, cap, rfl, hc, hd, hp⟩ := h
 refine ⟨p, cap, rfl, hc, hd, fun h0 => ?_⟩
 obtain ⟨b, o, rfl, hb⟩ := hp h0
 refine ⟨b, o, rfl, fun i hi => ?_⟩
 have h1 := hb i hi
 have hne : ¬ (some b = r) := fun e => by
  obtain ⟨ob, h2, h3⟩ := hr b e.symm
  cases ob with
  | cells cs t fz => cases h3
  | _ => simp [World.cell?, h2] at h1
 rw [World.cell?_of_block (hg.block b (World.block_lt_of_cell? w ⟨b, o + i, none⟩ h1) hne)]
 exact h1
theorem Hp.kept {w0 w w' : World} {m : List Ent} {r : Option Nat} (h : Hp w0 w m) (hg : w.grownBy w' r) (hr : ∀ k, r = some k → w0.heap.size ≤ k ∧ ∃ o : Obj, w.heap[k]? = some o ∧ o.isCells = false) : Hp w0 w' m := by
 refine ⟨h.ext.grown hg (fun k hk => (hr k hk).1), fun i e he => (h.all i e he).kept hg (fun k hk hrk => ?_), h.apart⟩
 obtain ⟨o, h2, h3⟩ := (hr k hrk).2
 cases e with
 | blk g t cs =>
  injection hk with hk
  subst hk
  have := h.blk he
  unfold Blk at this
  rw [h2] at this
  injection this with this
  rw [this] at h3
  cases h3
 | row t size v n xs =>
  obtain ⟨h4, ⟨rfl, _⟩ | ⟨g, cap, rest, rfl, a, hb, c⟩⟩ := h.row he
  ·simp [Ent.own, Value.ownBlock] at hk
  have hk : g = k := by simpa [Ent.own, Value.ownBlock] using hk
  subst hk
  unfold Blk at hb
  rw [h2] at hb
  injection hb with hb
  rw [hb] at h3
  cases h3
def crossV (y : Rat) (e : (Int × Int) × (Int × Int)) : Option QI :=
  if (e.1.2 : Rat) < y ∧ y < (e.2.2 : Rat) then some (xatV e.1.1 e.1.2 e.2.1 e.2.2 y, 1)
  else if (e.2.2 : Rat) < y ∧ y < (e.1.2 : Rat) then some (xatV e.1.1 e.1.2 e.2.1 e.2.2 y, -1) else none
def crossesV (y : Rat) (rs : List Ring) : List QI := (edgesV rs).filterMap (crossV y)
def marksV (y : Rat) (rs : List Ring) : List QI := Stb.stab ltM (crossesV y (if okR rs = true then rs else []))
theorem rl_xat {ax ay bx bY : Int} {y : Rat} {L : Nat} (ha : okPt ax ay = true) (hb : okPt bx bY = true) (hy : Nm.rl y ≤ L) : Nm.rl (xatV ax ay bx bY y) ≤ L + 8 := by
 unfold okPt at ha hb
 simp only [Bool.and_eq_true, decide_eq_true_eq] at ha hb
 unfold xatV
 have q1 := Nm.rl_sub y (ay : Rat)
 have q2 := Nm.rl_div ((1 : Int) : Rat) ((bY - ay : Int) : Rat)
 have q3 := Nm.rl_mul (y - (ay : Rat)) (((1 : Int) : Rat) / ((bY - ay : Int) : Rat))
 have q4 := Nm.rl_mul ((y - (ay : Rat)) * (((1 : Int) : Rat) / ((bY - ay : Int) : Rat))) ((bx - ax : Int) : Rat)
 have q5 := Nm.rl_add (ax : Rat) ((y - (ay : Rat)) * (((1 : Int) : Rat) / ((bY - ay : Int) : Rat)) * ((bx - ax : Int) : Rat))
 have e1 := rlI ax (by omega)
 have e2 := rlI ay (by omega)
 have e3 := rlI (bY - ay) (by omega)
 have e4 := rlI (bx - ax) (by omega)
 have e5 := rlI 1 (by omega)
 omega
theorem sortMk_any (L : Nat) (v : Value) (es : List MkE) (base : Nat) (w : World) (h : RowN w base 59 5 v es.length (es.flatMap MkE.cells)) (hok : ∀ e, e ∈ es → e.Ok L w)
  (hcmp : ∀ (w : World) (e f : MkE), e.Ok L w → f.Ok L w → Calls Tryz.prog 51 #[.agg e.cells.toArray, .agg f.cells.toArray] w fun x w' => ∃ z : Int, x = .returned (.int .i64 z) ∧ (z < 0 ↔ ltK e f = true) ∧ Ext w w')
  (hn : es.length ≤ 20000) :
  Calls Tryz.prog 50 #[v, .func (.func 51) #[] #[]] w fun e w' =>
   e = .returned (.tuple #[]) ∧ RowN w' base 59 5 v es.length ((Stb.stab ltK es).flatMap MkE.cells) ∧ w.grownBy w' v.ownBlock := by
 rcases h.2 with ⟨rfl, h0⟩ | ⟨g, cap, rest, rfl, hb, hg, hc1, hc2, hc3, hc4⟩
 ·have : es = [] := List.eq_nil_of_length_eq_zero h0
  subst this
  refine (mrk.sortStable_none none 0 _ w).mono ?_
  rintro e w' ⟨rfl, rfl⟩
  exact ⟨rfl, h, World.grownBy.refl _ _⟩
 have hxs : ∃ xs : List {e : MkE // e.Ok L w}, xs.map Subtype.val = es := by
  clear h hg hc1 hc3 hn hc4
  induction es with
  | nil => exact ⟨[], rfl⟩
  | cons e es ih =>
   obtain ⟨xs, hx⟩ := ih (fun f hf => hok f (by simp [hf]))
   exact ⟨⟨e, hok e (by simp)⟩ :: xs, by rw [List.map_cons, hx]⟩
 obtain ⟨xs, rfl⟩ := hxs
 have hfm : xs.flatMap (fun x => x.1.cells) = (xs.map Subtype.val).flatMap MkE.cells := by rw [List.flatMap_map]
 have hlen : xs.length = (xs.map Subtype.val).length := by rw [List.length_map]
 refine (mrk.sortStable_any (fun x : {e : MkE // e.Ok L w} => x.1.cells) (fun _ => rfl) (fun x => x.1.one) (fun x y => ltK x.1 y.1) (wkQ' (fun x : {e : MkE // e.Ok L w} => x.1.vl)) w w g cap _ 59 rest xs (fun wr o x y => ?_) ⟨by rw [hfm]; exact hg, Own.refl _ _⟩ hlen hn).mono ?_
 ·have d : Dig w wr := Dig.of_own hg hc4.arr o
  exact hcmp wr x.1 y.1 (x.2.dig d) (y.2.dig d)
 rintro e w' ⟨rfl, hs2⟩
 have hm : (Stb.stab (fun x y : {e : MkE // e.Ok L w} => ltK x.1 y.1) xs).map Subtype.val = Stb.stab ltK (xs.map Subtype.val) := stab_map Subtype.val (lt' := ltK) (fun _ _ => rfl) xs
 have hl2 : (Stb.stab ltK (xs.map Subtype.val)).length = (xs.map Subtype.val).length := Stb.stab_len _
 have hfl : ∀ es : List MkE, (es.flatMap MkE.cells).length = es.length * 5 := fun es => flat_length MkE.len es
 refine ⟨rfl, ⟨by rw [hfl, hl2], Or.inr ⟨g, cap, rest, rfl, hb, ?_, hc1, hc2, ?_, ?_⟩⟩, ?_⟩
 ·have h3 := hs2.blk
  rw [show (Stb.stab (fun x y : {e : MkE // e.Ok L w} => ltK x.1 y.1) xs).flatMap (fun x => x.1.cells) = (Stb.stab ltK (xs.map Subtype.val)).flatMap MkE.cells by rw [← hm, List.flatMap_map]] at h3
  exact h3
 ·rw [hfl, hl2, ← hfl]; exact hc3
 ·exact (noUL_mk _).app hc4.right
 have := hs2.own
 simpa [Value.ownBlock, Own] using this
end Go.Proofs.YtaeeeailoiioaacGreat
