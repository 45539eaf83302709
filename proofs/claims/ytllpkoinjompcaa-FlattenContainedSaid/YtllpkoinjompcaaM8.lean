/- In order: Plain laws of bounds: a point between two others lies between their bounds. · Plain laws of bounds: a curve within its box, the box within that of the control points. · The law's inBox, where its answer is true. · Slices of rational numbers; the reference's Sum. · The law's reached, where its answer is true. · Small functions of vec and intmath, and of the references 11 and 15. · Loops over points: pieces, may, allValid, segments. · QuadSegments and CubicSegments of the program. · The reference's QuadSegments and CubicSegments. · The reference's QuadSegments, CubicSegments; the rounded quotients. · The validity of a parameter; QuadAt and CubicAt. · QuadAt of the program and of the reference. · CubicAt of the program. · QuadAt and CubicAt of the reference. · The closures of Quad and Cubic: one point of the curve. · The iterator of the points, and what collects them. · What collects the points of an iterator. · Quad of the program. · SamePoints of the reference: two slices of points are equal. · The law's helper quad, and that its example holds. · How a law's arguments are opened: points and arrays of four points. · How a law's arguments are opened: rational numbers, arrays of points of them. · How a law's arguments are opened: arrays of four points of rational numbers. -/
import Derived.Deep.LoopGhost
import Derived.RangeFuncNested
import Derived.RangeFuncBound
import Derived.RangeFuncCalls
import Derived.RangeFuncLeaves
import Derived.Shelf.Abstract
import Derived.Shelf.RegionOpen
import Derived.OwnWalkIn
import Derived.TacticsInMore
import Derived.LoopNIn
import Derived.LoopIn
import Derived.Maps.AppendAt
import Derived.Deep.AppendLies
import Derived.Test.YtllpkoinjompcaaRows
import Derived.ProofKit
import Derived.OpenShut
import Derived.Below
import Derived.ChangeSlices
import Derived.Test.YtllpkoinjompcaaM7
namespace Go.Proofs.Ytllpkoinjompcaa

theorem lerp_ge {l a b t : Rat} (ha : l ≤ a) (hb : l ≤ b) (h0 : 0 ≤ t) (h1 : t ≤ 1) : l ≤ lerpV a b t := by
  have e : lerpV a b t = l + ((1 - t) * (a - l) + t * (b - l)) := by simp only [lerpV]; grind
  have k1 : 0 ≤ (1 - t) * (a - l) := Rat.mul_nonneg (by grind) (by grind)
  have k2 : 0 ≤ t * (b - l) := Rat.mul_nonneg h0 (by grind)
  rw [e]
  grind
theorem lerp_le {l a b t : Rat} (ha : a ≤ l) (hb : b ≤ l) (h0 : 0 ≤ t) (h1 : t ≤ 1) : lerpV a b t ≤ l := by
  have e : lerpV a b t = l - ((1 - t) * (l - a) + t * (l - b)) := by simp only [lerpV]; grind
  have k1 : 0 ≤ (1 - t) * (l - a) := Rat.mul_nonneg (by grind) (by grind)
  have k2 : 0 ≤ t * (l - b) := Rat.mul_nonneg h0 (by grind)
  rw [e]
  grind
theorem quad_ge {l a b c t : Rat} (ha : l ≤ a) (hb : l ≤ b) (hc : l ≤ c) (h0 : 0 ≤ t) (h1 : t ≤ 1) : l ≤ quadV a b c t := lerp_ge (lerp_ge ha hb h0 h1) (lerp_ge hb hc h0 h1) h0 h1
theorem quad_le {l a b c t : Rat} (ha : a ≤ l) (hb : b ≤ l) (hc : c ≤ l) (h0 : 0 ≤ t) (h1 : t ≤ 1) : quadV a b c t ≤ l := lerp_le (lerp_le ha hb h0 h1) (lerp_le hb hc h0 h1) h0 h1
theorem cubic_ge {l a b c d t : Rat} (ha : l ≤ a) (hb : l ≤ b) (hc : l ≤ c) (hd : l ≤ d) (h0 : 0 ≤ t) (h1 : t ≤ 1) : l ≤ cubicV a b c d t := lerp_ge (quad_ge ha hb hc h0 h1) (quad_ge hb hc hd h0 h1) h0 h1
theorem cubic_le {l a b c d t : Rat} (ha : a ≤ l) (hb : b ≤ l) (hc : c ≤ l) (hd : d ≤ l) (h0 : 0 ≤ t) (h1 : t ≤ 1) : cubicV a b c d t ≤ l := lerp_le (quad_le ha hb hc h0 h1) (quad_le hb hc hd h0 h1) h0 h1
theorem half_first (a b c d u : Rat) : cubicV a b c d u = cubicV a (lerpV a b (1 / 2)) (lerpV (lerpV a b (1 / 2)) (lerpV b c (1 / 2)) (1 / 2)) (lerpV (lerpV (lerpV a b (1 / 2)) (lerpV b c (1 / 2)) (1 / 2)) (lerpV (lerpV b c (1 / 2)) (lerpV c d (1 / 2)) (1 / 2)) (1 / 2)) (2 * u) := by simp only [cubicV, lerpV]; grind
theorem half_last (a b c d u : Rat) : cubicV a b c d u = cubicV (lerpV (lerpV (lerpV a b (1 / 2)) (lerpV b c (1 / 2)) (1 / 2)) (lerpV (lerpV b c (1 / 2)) (lerpV c d (1 / 2)) (1 / 2)) (1 / 2)) (lerpV (lerpV b c (1 / 2)) (lerpV c d (1 / 2)) (1 / 2)) (lerpV c d (1 / 2)) d (2 * u - 1) := by simp only [cubicV, lerpV]; grind
theorem quad_at_top {a b c t u : Rat} (hn : a - 2 * b + c ≠ 0) (ht : t = (a - b) / (a - 2 * b + c)) : quadV a b c u = quadV a b c t + (a - 2 * b + c) * ((u - t) * (u - t)) := by
  have h : (a - 2 * b + c) * t = a - b := by rw [ht]; grind
  simp only [quadV, lerpV]
  grind
theorem lower_le_left (q l : Rat) : lower q l ≤ q := by unfold lower; split <;> grind
theorem lower_le_right (q l : Rat) : lower q l ≤ l := by unfold lower; split <;> grind
theorem upper_ge_left (q l : Rat) : q ≤ upper q l := by unfold upper; split <;> grind
theorem upper_ge_right (q l : Rat) : l ≤ upper q l := by unfold upper; split <;> grind
theorem foldLo_le (xs : List Rat) : ∀ a, xs.foldl (fun l q => lower q l) a ≤ a ∧ ∀ x ∈ xs, xs.foldl (fun l q => lower q l) a ≤ x := by
  induction xs with
  | nil => intro a; exact ⟨by simp, by simp⟩
  | cons y ys ih =>
    intro a
    obtain ⟨h1, h2⟩ := ih (lower y a)
    have h3 := lower_le_left y a
    have h4 := lower_le_right y a
    refine ⟨Rat.le_trans h1 h4, fun x hx => ?_⟩
    rcases List.mem_cons.1 hx with rfl | hx
    · exact Rat.le_trans h1 h3
    · exact h2 x hx
theorem foldHi_ge (xs : List Rat) : ∀ a, a ≤ xs.foldl (fun l q => upper q l) a ∧ ∀ x ∈ xs, x ≤ xs.foldl (fun l q => upper q l) a := by
  induction xs with
  | nil => intro a; exact ⟨by simp, by simp⟩
  | cons y ys ih =>
    intro a
    obtain ⟨h1, h2⟩ := ih (upper y a)
    have h3 := upper_ge_left y a
    have h4 := upper_ge_right y a
    refine ⟨Rat.le_trans h4 h1, fun x hx => ?_⟩
    rcases List.mem_cons.1 hx with rfl | hx
    · exact Rat.le_trans h3 h1
    · exact h2 x hx
theorem boxLo_le {x y : Rat} {xs : List Rat} (h : x ∈ y :: xs) : boxLo (y :: xs) ≤ x := by
  obtain ⟨h1, h2⟩ := foldLo_le xs y
  rcases List.mem_cons.1 h with rfl | h
  · exact h1
  · exact h2 x h
theorem boxHi_ge {x y : Rat} {xs : List Rat} (h : x ∈ y :: xs) : x ≤ boxHi (y :: xs) := by
  obtain ⟨h1, h2⟩ := foldHi_ge xs y
  rcases List.mem_cons.1 h with rfl | h
  · exact h1
  · exact h2 x h
theorem foldLo_ge {m : Rat} (xs : List Rat) : ∀ a, m ≤ a → (∀ x ∈ xs, m ≤ x) → m ≤ xs.foldl (fun l q => lower q l) a := by
  induction xs with
  | nil => intro a h _; exact h
  | cons y ys ih =>
    intro a h hx
    refine ih _ ?_ (fun x k => hx x (List.mem_cons_of_mem _ k))
    have := hx y (List.mem_cons_self ..)
    show m ≤ lower y a
    unfold lower; split <;> assumption
theorem foldHi_le {m : Rat} (xs : List Rat) : ∀ a, a ≤ m → (∀ x ∈ xs, x ≤ m) → xs.foldl (fun l q => upper q l) a ≤ m := by
  induction xs with
  | nil => intro a h _; exact h
  | cons y ys ih =>
    intro a h hx
    refine ih _ ?_ (fun x k => hx x (List.mem_cons_of_mem _ k))
    have := hx y (List.mem_cons_self ..)
    show upper y a ≤ m
    unfold upper; split <;> assumption
end Go.Proofs.Ytllpkoinjompcaa

namespace Go.Proofs.Ytllpkoinjompcaa

theorem rat_lt_or_ge (a b : Rat) : a < b ∨ b ≤ a := by
  by_cases h : a < b
  · exact Or.inl h
  · exact Or.inr (Rat.not_lt.1 h)
theorem lower_ge {m q l : Rat} (h : m ≤ q) (k : m ≤ l) : m ≤ lower q l := by unfold lower; split <;> assumption
theorem upper_le {m q l : Rat} (h : q ≤ m) (k : l ≤ m) : upper q l ≤ m := by unfold upper; split <;> assumption
theorem quad_arc (a b c u : Rat) : quadV a b c u = lerpV a c u + ((2 * b - a - c) * (u * (1 - u))) := by simp only [quadV, lerpV]; grind
theorem quad_from_a (a b c u : Rat) : quadV a b c u = a + (2 * (u * (b - a)) + (a - 2 * b + c) * (u * u)) := by simp only [quadV, lerpV]; grind
theorem quad_from_c (a b c u : Rat) : quadV a b c u = c + (2 * ((1 - u) * (b - c)) + (a - 2 * b + c) * ((1 - u) * (1 - u))) := by simp only [quadV, lerpV]; grind
theorem qTop_mul {a b c : Rat} (h : a - 2 * b + c ≠ 0) : (a - 2 * b + c) * qTop a b c = a - b := by
  have e : (a - b) + (c - b) = a - 2 * b + c := by grind
  unfold qTop
  rw [e]
  grind
theorem lower_le_c (a c : Rat) : lower c a ≤ a ∧ lower c a ≤ c := ⟨lower_le_right c a, lower_le_left c a⟩
theorem upper_ge_c (a c : Rat) : a ≤ upper c a ∧ c ≤ upper c a := ⟨upper_ge_right c a, upper_ge_left c a⟩
theorem quadLo_le_ends (a b c : Rat) : quadLo a b c ≤ a ∧ quadLo a b c ≤ c := by
  have h := lower_le_c a c
  unfold quadLo
  split
  · have k := lower_le_right (quadV a b c (qTop a b c)) (lower c a)
    exact ⟨Rat.le_trans k h.1, Rat.le_trans k h.2⟩
  · exact h
theorem quadHi_ge_ends (a b c : Rat) : a ≤ quadHi a b c ∧ c ≤ quadHi a b c := by
  have h := upper_ge_c a c
  unfold quadHi
  split
  · have k := upper_ge_right (quadV a b c (qTop a b c)) (upper c a)
    exact ⟨Rat.le_trans h.1 k, Rat.le_trans h.2 k⟩
  · exact h
theorem quadLo_le (a b c u : Rat) (h0 : 0 ≤ u) (h1 : u ≤ 1) : quadLo a b c ≤ quadV a b c u := by
  obtain ⟨ea, ec⟩ := quadLo_le_ends a b c
  have v0 : 0 ≤ 1 - u := by grind
  have uv : 0 ≤ u * (1 - u) := Rat.mul_nonneg h0 v0
  by_cases hn : a - 2 * b + c ≤ 0
  · rw [quad_arc]
    have k := lerp_ge ea ec h0 h1
    have k2 : 0 ≤ (2 * b - a - c) * (u * (1 - u)) := Rat.mul_nonneg (by grind) uv
    grind
  · have hp : 0 < a - 2 * b + c := by grind
    have hm := qTop_mul (a := a) (b := b) (c := c) (by grind)
    by_cases ht : 0 < qTop a b c ∧ qTop a b c < 1
    · have e : quadLo a b c ≤ quadV a b c (qTop a b c) := by
        unfold quadLo; rw [if_pos ht]; exact lower_le_left _ _
      have e2 := quad_at_top (a := a) (b := b) (c := c) (t := qTop a b c) (u := u) (by grind) (by grind)
      have k2 : 0 ≤ (u - qTop a b c) * (u - qTop a b c) := by
        rcases Rat.le_total (a := 0) (b := (u - qTop a b c)) with k | k
        · exact Rat.mul_nonneg k k
        · have := Rat.mul_nonneg (a := -(u - qTop a b c)) (b := -(u - qTop a b c)) (by grind) (by grind); grind
      have k3 := Rat.mul_nonneg (Rat.le_of_lt hp) k2
      rw [e2]; grind
    · by_cases h3 : 0 < qTop a b c
      · have h4 : 1 ≤ qTop a b c := by
          rcases rat_lt_or_ge (qTop a b c) 1 with h | h
          · exact absurd ⟨h3, h⟩ ht
          · exact h
        have h5 : 0 ≤ (a - 2 * b + c) * (qTop a b c - 1) := Rat.mul_nonneg (Rat.le_of_lt hp) (by grind)
        have h6 : 0 ≤ b - c := by grind
        rw [quad_from_c]
        have k1 := Rat.mul_nonneg v0 h6
        have k2 := Rat.mul_nonneg (Rat.le_of_lt hp) (Rat.mul_nonneg v0 v0)
        grind
      · have h5 : 0 ≤ (a - 2 * b + c) * (- qTop a b c) := Rat.mul_nonneg (Rat.le_of_lt hp) (by grind)
        have h6 : 0 ≤ b - a := by grind
        rw [quad_from_a]
        have k1 := Rat.mul_nonneg h0 h6
        have k2 := Rat.mul_nonneg (Rat.le_of_lt hp) (Rat.mul_nonneg h0 h0)
        grind
theorem quadHi_ge (a b c u : Rat) (h0 : 0 ≤ u) (h1 : u ≤ 1) : quadV a b c u ≤ quadHi a b c := by
  obtain ⟨ea, ec⟩ := quadHi_ge_ends a b c
  have v0 : 0 ≤ 1 - u := by grind
  have uv : 0 ≤ u * (1 - u) := Rat.mul_nonneg h0 v0
  by_cases hn : 0 ≤ a - 2 * b + c
  · rw [quad_arc]
    have k := lerp_le ea ec h0 h1
    have k2 : 0 ≤ (a - 2 * b + c) * (u * (1 - u)) := Rat.mul_nonneg hn uv
    grind
  · have hp : 0 < -(a - 2 * b + c) := by grind
    have hm := qTop_mul (a := a) (b := b) (c := c) (by grind)
    by_cases ht : 0 < qTop a b c ∧ qTop a b c < 1
    · have e : quadV a b c (qTop a b c) ≤ quadHi a b c := by
        unfold quadHi; rw [if_pos ht]; exact upper_ge_left _ _
      have e2 := quad_at_top (a := a) (b := b) (c := c) (t := qTop a b c) (u := u) (by grind) (by grind)
      have k2 : 0 ≤ (u - qTop a b c) * (u - qTop a b c) := by
        rcases Rat.le_total (a := 0) (b := (u - qTop a b c)) with k | k
        · exact Rat.mul_nonneg k k
        · have := Rat.mul_nonneg (a := -(u - qTop a b c)) (b := -(u - qTop a b c)) (by grind) (by grind); grind
      have k3 := Rat.mul_nonneg (Rat.le_of_lt hp) k2
      rw [e2]; grind
    · by_cases h3 : 0 < qTop a b c
      · have h4 : 1 ≤ qTop a b c := by
          rcases rat_lt_or_ge (qTop a b c) 1 with h | h
          · exact absurd ⟨h3, h⟩ ht
          · exact h
        have h5 : 0 ≤ -(a - 2 * b + c) * (qTop a b c - 1) := Rat.mul_nonneg (Rat.le_of_lt hp) (by grind)
        have h6 : 0 ≤ c - b := by grind
        rw [quad_from_c]
        have k1 := Rat.mul_nonneg v0 h6
        have k2 := Rat.mul_nonneg (Rat.le_of_lt hp) (Rat.mul_nonneg v0 v0)
        grind
      · have h5 : 0 ≤ -(a - 2 * b + c) * (- qTop a b c) := Rat.mul_nonneg (Rat.le_of_lt hp) (by grind)
        have h6 : 0 ≤ a - b := by grind
        rw [quad_from_a]
        have k1 := Rat.mul_nonneg h0 h6
        have k2 := Rat.mul_nonneg (Rat.le_of_lt hp) (Rat.mul_nonneg h0 h0)
        grind
theorem quadLo_ge {a b c m : Rat} (ha : m ≤ a) (hb : m ≤ b) (hc : m ≤ c) : m ≤ quadLo a b c := by
  have hl : m ≤ lower c a := by unfold lower; split <;> assumption
  unfold quadLo
  split
  · rename_i h
    have := quad_ge ha hb hc (Rat.le_of_lt h.1) (Rat.le_of_lt h.2)
    exact lower_ge this hl
  · exact hl
theorem quadHi_le {a b c m : Rat} (ha : a ≤ m) (hb : b ≤ m) (hc : c ≤ m) : quadHi a b c ≤ m := by
  have hl : upper c a ≤ m := by unfold upper; split <;> assumption
  unfold quadHi
  split
  · rename_i h
    have := quad_le ha hb hc (Rat.le_of_lt h.1) (Rat.le_of_lt h.2)
    exact upper_le this hl
  · exact hl
theorem least_mem : ∀ (xs : List Rat) (y : Rat), ∃ m ∈ y :: xs, ∀ x ∈ y :: xs, m ≤ x := by
  intro xs
  induction xs with
  | nil => intro y; exact ⟨y, by simp, by simp⟩
  | cons z zs ih =>
    intro y
    obtain ⟨m, hm, h⟩ := ih z
    rcases Rat.le_total (a := y) (b := m) with k | k
    · refine ⟨y, by simp, fun x hx => ?_⟩
      rcases List.mem_cons.1 hx with rfl | hx
      · exact Rat.le_refl
      · exact Rat.le_trans k (h x hx)
    · refine ⟨m, List.mem_cons_of_mem _ hm, fun x hx => ?_⟩
      rcases List.mem_cons.1 hx with rfl | hx
      · exact k
      · exact h x hx
theorem greatest_mem : ∀ (xs : List Rat) (y : Rat), ∃ m ∈ y :: xs, ∀ x ∈ y :: xs, x ≤ m := by
  intro xs
  induction xs with
  | nil => intro y; exact ⟨y, by simp, by simp⟩
  | cons z zs ih =>
    intro y
    obtain ⟨m, hm, h⟩ := ih z
    rcases Rat.le_total (a := m) (b := y) with k | k
    · refine ⟨y, by simp, fun x hx => ?_⟩
      rcases List.mem_cons.1 hx with rfl | hx
      · exact Rat.le_refl
      · exact Rat.le_trans (h x hx) k
    · refine ⟨m, List.mem_cons_of_mem _ hm, fun x hx => ?_⟩
      rcases List.mem_cons.1 hx with rfl | hx
      · exact k
      · exact h x hx
theorem quad_reached_lo (a b c : Rat) : ∃ x ∈ [a, b, c], x ≤ quadLo a b c := by
  obtain ⟨m, hm, h⟩ := least_mem [b, c] a
  exact ⟨m, hm, quadLo_ge (h a (by simp)) (h b (by simp)) (h c (by simp))⟩
theorem quad_reached_hi (a b c : Rat) : ∃ x ∈ [a, b, c], quadHi a b c ≤ x := by
  obtain ⟨m, hm, h⟩ := greatest_mem [b, c] a
  exact ⟨m, hm, quadHi_le (h a (by simp)) (h b (by simp)) (h c (by simp))⟩
theorem half0 : (0 : Rat) ≤ 1 / 2 := by decide +kernel
theorem half1 : (1 : Rat) / 2 ≤ 1 := by decide +kernel
def cubXs (a b c d : Rat) : List Rat := [a, lerpV (lerpV (lerpV a b (1 / 2)) (lerpV b c (1 / 2)) (1 / 2)) (lerpV (lerpV b c (1 / 2)) (lerpV c d (1 / 2)) (1 / 2)) (1 / 2), lerpV a b (1 / 2), lerpV (lerpV b c (1 / 2)) (lerpV c d (1 / 2)) (1 / 2), lerpV (lerpV a b (1 / 2)) (lerpV b c (1 / 2)) (1 / 2), lerpV c d (1 / 2), lerpV (lerpV (lerpV a b (1 / 2)) (lerpV b c (1 / 2)) (1 / 2)) (lerpV (lerpV b c (1 / 2)) (lerpV c d (1 / 2)) (1 / 2)) (1 / 2), d]
theorem cubXs_ge {a b c d m : Rat} (ha : m ≤ a) (hb : m ≤ b) (hc : m ≤ c) (hd : m ≤ d) : ∀ x ∈ cubXs a b c d, m ≤ x := by
  have h1 := lerp_ge ha hb half0 half1
  have h2 := lerp_ge hb hc half0 half1
  have h3 := lerp_ge hc hd half0 half1
  have h4 := lerp_ge h1 h2 half0 half1
  have h5 := lerp_ge h2 h3 half0 half1
  have h6 := lerp_ge h4 h5 half0 half1
  intro x hx
  simp only [cubXs, List.mem_cons, List.not_mem_nil, or_false] at hx
  rcases hx with rfl | rfl | rfl | rfl | rfl | rfl | rfl | rfl <;> assumption
theorem cubXs_le {a b c d m : Rat} (ha : a ≤ m) (hb : b ≤ m) (hc : c ≤ m) (hd : d ≤ m) : ∀ x ∈ cubXs a b c d, x ≤ m := by
  have h1 := lerp_le ha hb half0 half1
  have h2 := lerp_le hb hc half0 half1
  have h3 := lerp_le hc hd half0 half1
  have h4 := lerp_le h1 h2 half0 half1
  have h5 := lerp_le h2 h3 half0 half1
  have h6 := lerp_le h4 h5 half0 half1
  intro x hx
  simp only [cubXs, List.mem_cons, List.not_mem_nil, or_false] at hx
  rcases hx with rfl | rfl | rfl | rfl | rfl | rfl | rfl | rfl <;> assumption
theorem cub_reached_lo (a b c d : Rat) : ∃ x ∈ [a, b, c, d], x ≤ boxLo (cubXs a b c d) := by
  obtain ⟨m, hm, h⟩ := least_mem [b, c, d] a
  have k := cubXs_ge (h a (by simp)) (h b (by simp)) (h c (by simp)) (h d (by simp))
  exact ⟨m, hm, foldLo_ge _ _ (k _ (by simp [cubXs])) (fun x hx => k x (List.mem_cons_of_mem _ hx))⟩
theorem cub_reached_hi (a b c d : Rat) : ∃ x ∈ [a, b, c, d], boxHi (cubXs a b c d) ≤ x := by
  obtain ⟨m, hm, h⟩ := greatest_mem [b, c, d] a
  have k := cubXs_le (h a (by simp)) (h b (by simp)) (h c (by simp)) (h d (by simp))
  exact ⟨m, hm, foldHi_le _ _ (k _ (by simp [cubXs])) (fun x hx => k x (List.mem_cons_of_mem _ hx))⟩
theorem cubLo_mem {a b c d x : Rat} (h : x ∈ cubXs a b c d) : boxLo (cubXs a b c d) ≤ x := boxLo_le h
theorem cubHi_mem {a b c d x : Rat} (h : x ∈ cubXs a b c d) : x ≤ boxHi (cubXs a b c d) := boxHi_ge h
theorem cubLo_le (a b c d u : Rat) (h0 : 0 ≤ u) (h1 : u ≤ 1) : boxLo (cubXs a b c d) ≤ cubicV a b c d u := by
  have two : (2 : Rat) * (1 / 2) = 1 := by decide +kernel
  rcases Rat.le_total (a := u) (b := (1 / 2)) with k | k
  · rw [half_first]
    exact cubic_ge (cubLo_mem (by simp [cubXs])) (cubLo_mem (by simp [cubXs])) (cubLo_mem (by simp [cubXs])) (cubLo_mem (by simp [cubXs])) (by grind) (by grind)
  · rw [half_last]
    exact cubic_ge (cubLo_mem (by simp [cubXs])) (cubLo_mem (by simp [cubXs])) (cubLo_mem (by simp [cubXs])) (cubLo_mem (by simp [cubXs])) (by grind) (by grind)
theorem cubHi_ge (a b c d u : Rat) (h0 : 0 ≤ u) (h1 : u ≤ 1) : cubicV a b c d u ≤ boxHi (cubXs a b c d) := by
  have two : (2 : Rat) * (1 / 2) = 1 := by decide +kernel
  rcases Rat.le_total (a := u) (b := (1 / 2)) with k | k
  · rw [half_first]
    exact cubic_le (cubHi_mem (by simp [cubXs])) (cubHi_mem (by simp [cubXs])) (cubHi_mem (by simp [cubXs])) (cubHi_mem (by simp [cubXs])) (by grind) (by grind)
  · rw [half_last]
    exact cubic_le (cubHi_mem (by simp [cubXs])) (cubHi_mem (by simp [cubXs])) (cubHi_mem (by simp [cubXs])) (cubHi_mem (by simp [cubXs])) (by grind) (by grind)
end Go.Proofs.Ytllpkoinjompcaa

namespace Go.Proofs.Ytllpkoinjompcaa
open Go.RowKit
attribute [local go_sem ↓] Go.wp_at_zero Go.wp_at_succ run_max_ii run_min_ii

theorem r03Cmp {L : Nat} {w : World} {cs ct : Array Value} {q r : Rat} (hp : NIn L w cs q) (hq : NIn L w ct r) (hL : L ≤ 60000) :
    Calls Try.prog 23 #[.agg cs, .agg ct] w fun e w' => e = .returned (.int .i64 (rcmp q r)) ∧ Ext w w' := by
  obtain ⟨a, rfl, h1⟩ := hp
  obtain ⟨b, rfl, h2⟩ := hq
  exact r3cmp_any _ _ _ _ _ _ _ _ L q r w h1 h2 (by omega)
theorem rcmp_le {q r : Rat} (h : q ≤ r) : rcmp q r ≤ 0 := by
  rcases Int.lt_or_le 0 (rcmp q r) with h1 | h1
  · exfalso
    have h2 : rcmp r q < 0 := by
      have e : rcmp r q = - rcmp q r := by
        unfold rcmp
        rw [← Int.sign_neg]
        congr 1
        omega
      omega
    exact Rat.not_lt.2 h (rcmp_lt.1 h2)
  · exact h1
set_option maxRecDepth 20000 in
set_option maxHeartbeats 8000000 in
theorem inBox_any (L : Nat) (cp cl ch : Array Value) (x y lx ly hx hy : Rat) (w : World) (hp : PtIn L w cp x y) (hl : PtIn L w cl lx ly) (hh : PtIn L w ch hx hy) (q1 : lx ≤ x) (q2 : x ≤ hx) (q3 : ly ≤ y) (q4 : y ≤ hy) (hL : L ≤ 60000) :
    Calls Try.prog 26 #[.agg cp, .agg cl, .agg ch] w fun e w' => e = .returned (.bool true) ∧ Ext w w' := by
  have ZP := hp.size
  have ZL := hl.size
  have ZH := hh.size
  have k1 := rcmp_le q1
  have k2 := rcmp_le q2
  have k3 := rcmp_le q3
  have k4 := rcmp_le q4
  have Fp := Lib.hid hp
  have Fl := Lib.hid hl
  have Fh := Lib.hid hh
  clear hp hl hh q1 q2 q3 q4
  go_enter Try.func26, Try.ntmps26
  go_upto_region 1 with fail
  have hbx0 : Blk (((w.alloc (.cells cp 42)).alloc (.cells cl 42)).alloc (.cells ch 42)) (w.heap.size) 42 cp := Blk.ext (Blk.new_at w _ (by simp) _ _) (((Ext.refl _).alloc _).alloc _)
  have hbx1 : Blk (((w.alloc (.cells cp 42)).alloc (.cells cl 42)).alloc (.cells ch 42)) (w.heap.size + 1) 42 cl := Blk.ext (Blk.new_at (w.alloc (.cells cp 42)) _ (by simp) _ _) ((Ext.refl _).alloc _)
  have hbx2 : Blk (((w.alloc (.cells cp 42)).alloc (.cells cl 42)).alloc (.cells ch 42)) (w.heap.size + 1 + 1) 42 ch := Blk.ext (Blk.new_at ((w.alloc (.cells cp 42)).alloc (.cells cl 42)) _ (by simp) _ _) (Ext.refl _)
  have hE : Ext w (((w.alloc (.cells cp 42)).alloc (.cells cl 42)).alloc (.cells ch 42)) := ((((Ext.refl _).alloc _).alloc _).alloc _)
  generalize (((w.alloc (.cells cp 42)).alloc (.cells cl 42)).alloc (.cells ch 42)) = wa at *
  generalize w.heap.size + 1 + 1 = bx2 at *
  generalize w.heap.size + 1 = bx1 at *
  have E1 := Lib.hid (show Ext w wa from hE)
  have Fbx0 := Lib.hid hbx0
  have Fbx1 := Lib.hid hbx1
  have Fbx2 := Lib.hid hbx2
  clear hE hbx0 hbx1 hbx2
  refine wp_region_lit ?_
  refine mv_val (v := ?vm1) (w' := wa) (by rfl) ?hm1 ?rm1
  case hm1 => (go_simp <;> with_reducible rfl)
  (try simp only [Act.put, sIT, sC0, sCS])
  refine mv_part (by rfl) _ _ (by rfl) bx1 0 4 _ cl _ (by rfl) Fbx1.out Try.underlying41 (by rfl) (by kernel_rfl) (by rw [show (cl : Array Value).size = 8 from ZL]; omega) ?_
  (try simp only [Act.put, sIT, sC0, sCS])
  refine mv_val (v := ?vm2) (w' := wa) (by rfl) ?hm2 ?rm2
  case hm2 => (go_simp <;> with_reducible rfl)
  (try simp only [Act.put, sIT, sC0, sCS])
  refine mv_part (by rfl) _ _ (by rfl) w.heap.size 0 4 _ cp _ (by rfl) Fbx0.out Try.underlying41 (by rfl) (by kernel_rfl) (by rw [show (cp : Array Value).size = 8 from ZP]; omega) ?_
  (try simp only [Act.put, sIT, sC0, sCS])
  refine mv_call (by rfl) (by go_simp) (r03Cmp (Fl.out.ext E1.out).c0 (Fp.out.ext E1.out).c0 hL) ?_
  rintro e w2 ⟨rfl, hx⟩
  have E2 := Lib.hid (show Ext wa w2 from hx)
  clear hx
  refine ⟨_, rfl, ?_⟩
  (try simp only [Act.put, sIT, sC0, sCS])
  refine mv_val (v := ?vm4) (w' := w2) (by rfl) ?hm4 ?rm4
  case hm4 => (go_simp <;> with_reducible rfl)
  (try simp only [Act.put, sIT, sC0, sCS])
  refine mv_val (v := ?vm5) (w' := w2) (by rfl) ?hm5 ?rm5
  case hm5 => (go_simp <;> with_reducible rfl)
  (try simp only [Act.put, sIT, sC0, sCS])
  refine mv_val (v := ?vm6) (w' := w2) (by rfl) ?hm6 ?rm6
  case hm6 => (go_simp <;> with_reducible rfl)
  (try simp only [Act.put, sIT, sC0, sCS])
  refine mv_part (by rfl) _ _ (by rfl) w.heap.size 0 4 _ cp _ (by rfl) (Fbx0.out.ext E2.out) Try.underlying41 (by rfl) (by kernel_rfl) (by rw [show (cp : Array Value).size = 8 from ZP]; omega) ?_
  (try simp only [Act.put, sIT, sC0, sCS])
  refine mv_val (v := ?vm7) (w' := w2) (by rfl) ?hm7 ?rm7
  case hm7 => (go_simp <;> with_reducible rfl)
  (try simp only [Act.put, sIT, sC0, sCS])
  refine mv_part (by rfl) _ _ (by rfl) bx2 0 4 _ ch _ (by rfl) (Fbx2.out.ext E2.out) Try.underlying41 (by rfl) (by kernel_rfl) (by rw [show (ch : Array Value).size = 8 from ZH]; omega) ?_
  (try simp only [Act.put, sIT, sC0, sCS])
  refine mv_call (by rfl) (by go_simp) (r03Cmp (Fp.out.ext (E1.out.trans E2.out)).c0 (Fh.out.ext (E1.out.trans E2.out)).c0 hL) ?_
  rintro e w3 ⟨rfl, hx⟩
  have E3 := Lib.hid (show Ext w2 w3 from hx)
  clear hx
  refine ⟨_, rfl, ?_⟩
  (try simp only [Act.put, sIT, sC0, sCS])
  refine mv_val (v := ?vm9) (w' := w3) (by rfl) ?hm9 ?rm9
  case hm9 => (go_simp <;> with_reducible rfl)
  (try simp only [Act.put, sIT, sC0, sCS])
  refine mv_val (v := ?vm10) (w' := w3) (by rfl) ?hm10 ?rm10
  case hm10 => (go_simp <;> with_reducible rfl)
  (try simp only [Act.put, sIT, sC0, sCS])
  refine mv_val (v := ?vm11) (w' := w3) (by rfl) ?hm11 ?rm11
  case hm11 => (go_simp <;> with_reducible rfl)
  (try simp only [Act.put, sIT, sC0, sCS])
  refine mv_val (v := ?vm12) (w' := w3) (by rfl) ?hm12 ?rm12
  case hm12 => (go_simp <;> with_reducible rfl)
  (try simp only [Act.put, sIT, sC0, sCS])
  refine mv_part (by rfl) _ _ (by rfl) bx1 4 4 _ cl _ (by rfl) (Fbx1.out.ext (E2.out.trans E3.out)) Try.underlying41 (by rfl) (by kernel_rfl) (by rw [show (cl : Array Value).size = 8 from ZL]; omega) ?_
  (try simp only [Act.put, sIT, sC0, sCS])
  refine mv_val (v := ?vm13) (w' := w3) (by rfl) ?hm13 ?rm13
  case hm13 => (go_simp <;> with_reducible rfl)
  (try simp only [Act.put, sIT, sC0, sCS])
  refine mv_part (by rfl) _ _ (by rfl) w.heap.size 4 4 _ cp _ (by rfl) (Fbx0.out.ext (E2.out.trans E3.out)) Try.underlying41 (by rfl) (by kernel_rfl) (by rw [show (cp : Array Value).size = 8 from ZP]; omega) ?_
  (try simp only [Act.put, sIT, sC0, sCS])
  refine mv_call (by rfl) (by go_simp) (r03Cmp (Fl.out.ext (E1.out.trans (E2.out.trans E3.out))).c1 (Fp.out.ext (E1.out.trans (E2.out.trans E3.out))).c1 hL) ?_
  rintro e w4 ⟨rfl, hx⟩
  have E4 := Lib.hid (show Ext w3 w4 from hx)
  clear hx
  refine ⟨_, rfl, ?_⟩
  (try simp only [Act.put, sIT, sC0, sCS])
  refine mv_val (v := ?vm15) (w' := w4) (by rfl) ?hm15 ?rm15
  case hm15 => (go_simp <;> with_reducible rfl)
  (try simp only [Act.put, sIT, sC0, sCS])
  refine mv_val (v := ?vm16) (w' := w4) (by rfl) ?hm16 ?rm16
  case hm16 => (go_simp <;> with_reducible rfl)
  (try simp only [Act.put, sIT, sC0, sCS])
  refine mv_val (v := ?vm17) (w' := w4) (by rfl) ?hm17 ?rm17
  case hm17 => (go_simp <;> with_reducible rfl)
  (try simp only [Act.put, sIT, sC0, sCS])
  refine mv_val (v := ?vm18) (w' := w4) (by rfl) ?hm18 ?rm18
  case hm18 => (go_simp <;> with_reducible rfl)
  (try simp only [Act.put, sIT, sC0, sCS])
  refine mv_part (by rfl) _ _ (by rfl) w.heap.size 4 4 _ cp _ (by rfl) (Fbx0.out.ext (E2.out.trans (E3.out.trans E4.out))) Try.underlying41 (by rfl) (by kernel_rfl) (by rw [show (cp : Array Value).size = 8 from ZP]; omega) ?_
  (try simp only [Act.put, sIT, sC0, sCS])
  refine mv_val (v := ?vm19) (w' := w4) (by rfl) ?hm19 ?rm19
  case hm19 => (go_simp <;> with_reducible rfl)
  (try simp only [Act.put, sIT, sC0, sCS])
  refine mv_part (by rfl) _ _ (by rfl) bx2 4 4 _ ch _ (by rfl) (Fbx2.out.ext (E2.out.trans (E3.out.trans E4.out))) Try.underlying41 (by rfl) (by kernel_rfl) (by rw [show (ch : Array Value).size = 8 from ZH]; omega) ?_
  (try simp only [Act.put, sIT, sC0, sCS])
  refine mv_call (by rfl) (by go_simp) (r03Cmp (Fp.out.ext (E1.out.trans (E2.out.trans (E3.out.trans E4.out)))).c1 (Fh.out.ext (E1.out.trans (E2.out.trans (E3.out.trans E4.out)))).c1 hL) ?_
  rintro e w5 ⟨rfl, hx⟩
  have E5 := Lib.hid (show Ext w4 w5 from hx)
  clear hx
  refine ⟨_, rfl, ?_⟩
  (try simp only [Act.put, sIT, sC0, sCS])
  refine mv_val (v := ?vm21) (w' := w5) (by rfl) ?hm21 ?rm21
  case hm21 => (go_simp <;> with_reducible rfl)
  (try simp only [Act.put, sIT, sC0, sCS])
  refine mv_val (v := ?vm22) (w' := w5) (by rfl) ?hm22 ?rm22
  case hm22 => (go_simp <;> with_reducible rfl)
  (try simp only [Act.put, sIT, sC0, sCS])
  refine mv_val (v := ?vm23) (w' := w5) (by rfl) ?hm23 ?rm23
  case hm23 => (go_simp <;> with_reducible rfl)
  (try simp only [Act.put, sIT, sC0, sCS])
  go_wp2_with fail
  go_ret
  exact ⟨rfl, (E1.out.trans (E2.out.trans (E3.out.trans (E4.out.trans E5.out))))⟩
end Go.Proofs.Ytllpkoinjompcaa

namespace Go.Proofs.Ytllpkoinjompcaa
open Go.RowKit
attribute [local go_sem ↓] Go.wp_at_zero Go.wp_at_succ run_max_ii run_min_ii

def rvCells (rs : List RV) : List Value := rs.flatMap fun a => [.bool a.n, .slice a.p a.l a.c, .bool a.m, .slice a.p2 a.l2 a.c2]
theorem rvCells_get (rs : List RV) : ∀ (i j : Nat), i < rs.length → j < 4 → (rvCells rs)[i * 4 + j]? = [.bool (rs.getD i RV.zero).n, .slice (rs.getD i RV.zero).p (rs.getD i RV.zero).l (rs.getD i RV.zero).c, .bool (rs.getD i RV.zero).m, .slice (rs.getD i RV.zero).p2 (rs.getD i RV.zero).l2 (rs.getD i RV.zero).c2][j]? := by
  induction rs with
  | nil => intro i j hi; simp at hi
  | cons x xs ih =>
    intro i j hi hj
    have e : rvCells (x :: xs) = [.bool x.n, .slice x.p x.l x.c, .bool x.m, .slice x.p2 x.l2 x.c2] ++ rvCells xs := by simp [rvCells]
    rw [e]
    cases i with
    | zero => rw [List.getElem?_append_left (by simp; omega), Nat.zero_mul, Nat.zero_add]; rfl
    | succ i =>
      rw [List.getElem?_append_right (by simp; omega)]
      have := ih i j (by simpa using hi) hj
      simp only [List.length_cons, List.length_nil]
      rw [show (i + 1) * 4 + j - (0 + 1 + 1 + 1 + 1) = i * 4 + j by omega, this]
      rfl
def RatsV (L : Nat) (w : World) (v : Value) (qs : List Rat) : Prop :=
  ∃ (A : Option Addr) (cap : Nat) (rs : List RV), v = .slice A qs.length cap ∧ rs.length = qs.length ∧ (∀ i, i < qs.length → (rs.getD i RV.zero).In L w (qs.getD i 0)) ∧
    (0 < qs.length → ∃ g off, A = some ⟨g, off, none⟩ ∧ ∀ i, i < qs.length → w.rangeAt g (off + i * 4) [.bool (rs.getD i RV.zero).n, .slice (rs.getD i RV.zero).p (rs.getD i RV.zero).l (rs.getD i RV.zero).c, .bool (rs.getD i RV.zero).m, .slice (rs.getD i RV.zero).p2 (rs.getD i RV.zero).l2 (rs.getD i RV.zero).c2])
theorem range_ext {w w' : World} {g o : Nat} {cs : List Value} (h : w.rangeAt g o cs) (x : Ext w w') : w'.rangeAt g o cs := fun j v hv => x.get (h j v hv)
theorem RatsV.ext {L : Nat} {w w' : World} {v : Value} {qs : List Rat} (h : RatsV L w v qs) (x : Ext w w') : RatsV L w' v qs := by
  obtain ⟨A, cap, rs, h1, h2, h3, h4⟩ := h
  refine ⟨A, cap, rs, h1, h2, fun i hi => (h3 i hi).ext x, fun h0 => ?_⟩
  obtain ⟨g, off, h5, h6⟩ := h4 h0
  exact ⟨g, off, h5, fun i hi => range_ext (h6 i hi) x⟩
theorem RatsV.of_blk {L : Nat} {w : World} {X : Nat} {e : TypeId} {rs : List RV} {qs : List Rat} (h : Blk w X e (rvCells rs).toArray) (hl : rs.length = qs.length) (hq : ∀ i, i < qs.length → (rs.getD i RV.zero).In L w (qs.getD i 0)) : RatsV L w (.slice (some ⟨X, 0, none⟩) qs.length qs.length) qs := by
  refine ⟨_, _, rs, rfl, hl, hq, fun h0 => ⟨X, 0, rfl, fun i hi j u hu => ?_⟩⟩
  have hj : j < 4 := (List.getElem?_eq_some_iff.1 hu).1
  rw [Nat.zero_add, h.cell, List.getElem?_toArray, rvCells_get rs i j (by omega) hj]
  exact hu
theorem in3 {L : Nat} {w : World} {a b c : RV} {p q r : Rat} (h0 : a.In L w p) (h1 : b.In L w q) (h2 : c.In L w r) : ∀ i, i < [p, q, r].length → ([a, b, c].getD i RV.zero).In L w ([p, q, r].getD i 0) := by
  intro i hi
  match i, hi with
  | 0, _ => exact h0
  | 1, _ => exact h1
  | 2, _ => exact h2
theorem in4 {L : Nat} {w : World} {a b c d : RV} {p q r s : Rat} (h0 : a.In L w p) (h1 : b.In L w q) (h2 : c.In L w r) (h3 : d.In L w s) : ∀ i, i < [p, q, r, s].length → ([a, b, c, d].getD i RV.zero).In L w ([p, q, r, s].getD i 0) := by
  intro i hi
  match i, hi with
  | 0, _ => exact h0
  | 1, _ => exact h1
  | 2, _ => exact h2
  | 3, _ => exact h3

end Go.Proofs.Ytllpkoinjompcaa

namespace Go.Proofs.Ytllpkoinjompcaa
open Go.RowKit
attribute [local go_sem ↓] Go.wp_at_zero Go.wp_at_succ run_max_ii run_min_ii

theorem rcmp_le_iff {q r : Rat} : rcmp q r ≤ 0 ↔ q ≤ r := by
  constructor
  · intro h
    by_cases k : r < q
    · have e : rcmp r q = - rcmp q r := by
        unfold rcmp
        rw [← Int.sign_neg]
        congr 1
        omega
      have := rcmp_lt.2 k
      omega
    · exact Rat.not_lt.1 k
  · exact rcmp_le
theorem rcmp_ge_iff {q r : Rat} : 0 ≤ rcmp q r ↔ r ≤ q := by
  have e : rcmp r q = - rcmp q r := by
    unfold rcmp
    rw [← Int.sign_neg]
    congr 1
    omega
  rw [← rcmp_le_iff, e]
  omega
theorem ex_snoc {p : Nat → Prop} {k : Nat} : (∃ j, j < k + 1 ∧ p j) ↔ (∃ j, j < k ∧ p j) ∨ p k := by
  constructor
  · rintro ⟨j, h1, h2⟩
    by_cases h : j < k
    · exact Or.inl ⟨j, h, h2⟩
    · exact Or.inr (by have : j = k := by omega
                       rwa [this] at h2)
  · rintro (⟨j, h1, h2⟩ | h)
    · exact ⟨j, by omega, h2⟩
    · exact ⟨k, by omega, h⟩
set_option maxRecDepth 20000 in
set_option maxHeartbeats 8000000 in
theorem reached_any (L : Nat) (cl ch : Array Value) (lo hi : Rat) (v : Value) (xs : List Rat) (w : World) (hl : NIn L w cl lo) (hh : NIn L w ch hi) (hv : RatsV L w v xs) (hn : xs.length ≤ 50) (k1 : ∃ x ∈ xs, x ≤ lo) (k2 : ∃ x ∈ xs, hi ≤ x) (hL : L ≤ 60000) :
    Calls Try.prog 27 #[.agg cl, .agg ch, v] w fun e w' => e = .returned (.bool true) ∧ Ext w w' := by
  have ZL := hl.size
  have ZH := hh.size
  have q1 : ∃ j, j < xs.length ∧ xs.getD j 0 ≤ lo := by
    obtain ⟨x, hx, h⟩ := k1
    obtain ⟨j, hj, rfl⟩ := List.getElem_of_mem hx
    exact ⟨j, hj, by simpa [List.getD, hj] using h⟩
  have q2 : ∃ j, j < xs.length ∧ hi ≤ xs.getD j 0 := by
    obtain ⟨x, hx, h⟩ := k2
    obtain ⟨j, hj, rfl⟩ := List.getElem_of_mem hx
    exact ⟨j, hj, by simpa [List.getD, hj] using h⟩
  have Q := Lib.hid (And.intro q1 q2)
  clear k1 k2 q1 q2
  obtain ⟨A, ca, rs, rfl, hrl, hin, hcell⟩ := hv
  have HIN := Lib.hid hin
  have HC := Lib.hid hcell
  clear hin hcell hrl
  have Fl := Lib.hid hl
  have Fh := Lib.hid hh
  clear hl hh
  go_enter Try.func27, Try.ntmps27
  go_upto_region 1 with fail
  have hbx0 : Blk ((w.alloc (.cells cl 41)).alloc (.cells ch 41)) (w.heap.size) 41 cl := Blk.ext (Blk.new_at w _ (by simp) _ _) ((Ext.refl _).alloc _)
  have hbx1 : Blk ((w.alloc (.cells cl 41)).alloc (.cells ch 41)) (w.heap.size + 1) 41 ch := Blk.ext (Blk.new_at (w.alloc (.cells cl 41)) _ (by simp) _ _) (Ext.refl _)
  have hE : Ext w ((w.alloc (.cells cl 41)).alloc (.cells ch 41)) := (((Ext.refl _).alloc _).alloc _)
  generalize ((w.alloc (.cells cl 41)).alloc (.cells ch 41)) = wa at *
  generalize w.heap.size + 1 = bx1 at *
  have E1 := Lib.hid (show Ext w wa from hE)
  have Fbx0 := Lib.hid hbx0
  have Fbx1 := Lib.hid hbx1
  clear hE hbx0 hbx1
  go_wp2_with fail
  go_loopg [7, 8, 12] xs.length (fun g under over i wr => ∃ (k : Nat) (u v : Bool), k ≤ xs.length ∧ g = xs.length - k ∧ i = .int .i64 k ∧ under = .bool u ∧ over = .bool v ∧ (u = true ↔ ∃ j, j < k ∧ xs.getD j 0 ≤ lo) ∧ (v = true ↔ ∃ j, j < k ∧ hi ≤ xs.getD j 0) ∧ Ext wa wr)
  case atStart => exact ⟨0, false, false, Nat.zero_le _, by omega, rfl, rfl, rfl, by simp, by simp, Ext.refl _⟩
  case round =>
    obtain ⟨k, u, v, hk, rfl, rfl, rfl, rfl, hu, hv, hE⟩ := hrel
    have HU := Lib.hid (And.intro hu hv)
    have HE := Lib.hid hE
    clear hu hv hE
    by_cases hlt : k < xs.length
    · obtain ⟨g1, o1, rfl, hp⟩ := HC.out (by omega)
      have HRA := Lib.hid (range_ext (hp k hlt) (E1.out.trans HE.out))
      have HRI := Lib.hid ((HIN.out k hlt).ext (E1.out.trans HE.out))
      have HUS := Lib.hid (And.intro (ex_snoc (p := fun j => xs.getD j 0 ≤ lo) (k := k)) (ex_snoc (p := fun j => hi ≤ xs.getD j 0) (k := k)))
      generalize hga : rs.getD k RV.zero = ra at *
      generalize hgb : xs.getD k 0 = rq at *
      clear hp hga hgb
      cases u
      · cases v
        · have AA := Lib.hid (E1.out.trans HE.out)
          have Fl_ := Lib.hid ((Fl.out.ext E1.out).ext HE.out)
          have Fh_ := Lib.hid ((Fh.out.ext E1.out).ext HE.out)
          have Fbx0_ := Lib.hid (Fbx0.out.ext HE.out)
          have Fbx1_ := Lib.hid (Fbx1.out.ext HE.out)
          have Fra := Lib.hid HRI.out
          go_upto_region 5 with fail
          refine wp_region_held_drew (S := fun x => Ext wr x) (by kernel_rfl) (Ext.refl _).drew (fun _ => ?_)
          have E1 := Lib.hid (show Ext wr wr.drew from (Ext.refl _).drew)
          refine md_val (i := 0) (v := ?vm1) (listed' := #[true, false, false, false, false, false, false, false, false, false, false]) (by rfl) (by kernel_rfl) (by kernel_rfl) (by kernel_rfl) (by intro _ _ _ h; exact h) (by rfl) ?hm1 E1.out (by kernel_rfl) ?rm1
          case hm1 => (intro w hSw; (try dsimp only at hSw); go_simp <;> with_reducible rfl)
          (try simp only [Act.put, sIT, sC0, sCS])
          refine md_val (i := 1) (v := ?vm2) (listed' := #[true, true, false, false, false, false, false, false, false, false, false]) (by rfl) (by kernel_rfl) (by kernel_rfl) (by kernel_rfl) (by intro _ _ _ h; exact h) (by rfl) ?hm2 E1.out (by kernel_rfl) ?rm2
          case hm2 => (intro w hSw; (try dsimp only at hSw); go_simp <;> with_reducible rfl)
          (try simp only [Act.put, sIT, sC0, sCS])
          refine md_val (i := 2) (v := ?vm3) (listed' := #[true, true, true, false, false, false, false, false, false, false, false]) (by rfl) (by kernel_rfl) (by kernel_rfl) (by kernel_rfl) (by intro _ _ _ h; exact h) (by rfl) ?hm3 E1.out (by kernel_rfl) ?rm3
          case hm3 => (intro w hSw; (try dsimp only at hSw); go_simp <;> with_reducible rfl)
          (try simp only [Act.put, sIT, sC0, sCS])
          refine md_val (i := 3) (v := ?vm4) (listed' := #[true, true, true, true, false, false, false, false, false, false, false]) (by rfl) (by kernel_rfl) (by kernel_rfl) (by kernel_rfl) (by intro _ _ _ h; exact h) (by rfl) ?hm4 E1.out (by kernel_rfl) ?rm4
          case hm4 => (intro w hSw; (try dsimp only at hSw); go_simp <;> with_reducible rfl)
          (try simp only [Act.put, sIT, sC0, sCS])
          refine md_val (i := 4) (v := ?vm5) (listed' := #[true, true, true, true, true, false, false, false, false, false, false]) (by rfl) (by kernel_rfl) (by kernel_rfl) (by kernel_rfl) (by intro _ _ _ h; exact h) (by rfl) ?hm5 E1.out (by kernel_rfl) ?rm5
          case hm5 => (intro w hSw; (try dsimp only at hSw); go_simp <;> with_reducible rfl)
          (try simp only [Act.put, sIT, sC0, sCS])
          refine md_range (i := 5) (listed' := #[true, true, true, true, true, true, false, false, false, false, false]) (by rfl) (by kernel_rfl) (by kernel_rfl) (by kernel_rfl) _ _ (by rfl) g1 (o1 + k * 4) [.bool ra.n, .slice ra.p ra.l ra.c, .bool ra.m, .slice ra.p2 ra.l2 ra.c2] _ (by intro _ _ _ h; exact h) (by rfl) (by rfl) (fun x hx => range_ext HRA.out ((Ext.refl _).trans hx)) Try.underlying41 (by rfl) (by kernel_rfl) E1.out (by kernel_rfl) ?_
          (try simp only [Act.put, sIT, sC0, sCS])
          refine md_load (i := 6) (listed' := #[true, true, true, true, true, true, true, false, false, false, false]) (by rfl) (by kernel_rfl) (by kernel_rfl) (by kernel_rfl) _ _ (by rfl) w.heap.size _ cl _ (by intro _ _ _ h; exact h) (by rfl) (by rfl) (fun x hx => (Fbx0_.out).ext hx) Try.underlying41 (by rfl) (by rw [show (cl : Array Value).size = 4 from ZL]; kernel_rfl) E1.out (by kernel_rfl) ?_
          (try simp only [Act.put, sIT, sC0, sCS])
          refine md_call (i := 7) (listed' := #[true, true, true, true, true, true, true, true, false, false, false]) (by rfl) (by kernel_rfl) (by rfl) (by go_simp) (r03Cmp (L := L) (cs := #[.bool ra.n, .slice ra.p ra.l ra.c, .bool ra.m, .slice ra.p2 ra.l2 ra.c2]) ⟨ra, rfl, (Fra.out.ext E1.out)⟩ (Fl_.out.ext E1.out) hL) (by kernel_rfl) ?_
          rintro e w2 ⟨rfl, hx⟩
          have E2 := Lib.hid (show Ext wr.drew w2 from hx)
          clear hx
          refine ⟨_, rfl, (E1.out.trans E2.out), ?_⟩
          (try simp only [Act.put, sIT, sC0, sCS])
          refine md_val (i := 8) (v := ?vm6) (listed' := #[true, true, true, true, true, true, true, true, true, false, false]) (by rfl) (by kernel_rfl) (by kernel_rfl) (by kernel_rfl) (by intro _ _ _ h; exact h) (by rfl) ?hm6 (E1.out.trans E2.out) (by kernel_rfl) ?rm6
          case hm6 => (intro w hSw; (try dsimp only at hSw); go_simp <;> with_reducible rfl)
          (try simp only [Act.put, sIT, sC0, sCS])
          refine md_val (i := 9) (v := ?vm7) (listed' := #[true, true, true, true, true, true, true, true, true, true, false]) (by rfl) (by kernel_rfl) (by kernel_rfl) (by kernel_rfl) (by intro _ _ _ h; exact h) (by rfl) ?hm7 (E1.out.trans E2.out) (by kernel_rfl) ?rm7
          case hm7 => (intro w hSw; (try dsimp only at hSw); go_simp <;> with_reducible rfl)
          (try simp only [Act.put, sIT, sC0, sCS])
          refine md_val (i := 10) (v := ?vm8) (listed' := #[true, true, true, true, true, true, true, true, true, true, true]) (by rfl) (by kernel_rfl) (by kernel_rfl) (by kernel_rfl) (by intro _ _ _ h; exact h) (by rfl) ?hm8 (E1.out.trans E2.out) (by kernel_rfl) ?rm8
          case hm8 => (intro w hSw; (try dsimp only at hSw); go_simp <;> with_reducible rfl)
          (try simp only [Act.put, sIT, sC0, sCS])
          refine wpAnyH_done (by kernel_rfl) ?_ _
          go_upto_region 6 with fail
          refine wp_region_held_drew (S := fun x => Ext w2 x) (by kernel_rfl) (Ext.refl _).drew (fun _ => ?_)
          have E3 := Lib.hid (show Ext w2 w2.drew from (Ext.refl _).drew)
          refine md_val (i := 0) (v := ?vm9) (listed' := #[true, false, false, false, false, false, false, false, false, false, false]) (by rfl) (by kernel_rfl) (by kernel_rfl) (by kernel_rfl) (by intro _ _ _ h; exact h) (by rfl) ?hm9 E3.out (by kernel_rfl) ?rm9
          case hm9 => (intro w hSw; (try dsimp only at hSw); go_simp <;> with_reducible rfl)
          (try simp only [Act.put, sIT, sC0, sCS])
          refine md_val (i := 1) (v := ?vm10) (listed' := #[true, true, false, false, false, false, false, false, false, false, false]) (by rfl) (by kernel_rfl) (by kernel_rfl) (by kernel_rfl) (by intro _ _ _ h; exact h) (by rfl) ?hm10 E3.out (by kernel_rfl) ?rm10
          case hm10 => (intro w hSw; (try dsimp only at hSw); go_simp <;> with_reducible rfl)
          (try simp only [Act.put, sIT, sC0, sCS])
          refine md_val (i := 2) (v := ?vm11) (listed' := #[true, true, true, false, false, false, false, false, false, false, false]) (by rfl) (by kernel_rfl) (by kernel_rfl) (by kernel_rfl) (by intro _ _ _ h; exact h) (by rfl) ?hm11 E3.out (by kernel_rfl) ?rm11
          case hm11 => (intro w hSw; (try dsimp only at hSw); go_simp <;> with_reducible rfl)
          (try simp only [Act.put, sIT, sC0, sCS])
          refine md_val (i := 3) (v := ?vm12) (listed' := #[true, true, true, true, false, false, false, false, false, false, false]) (by rfl) (by kernel_rfl) (by kernel_rfl) (by kernel_rfl) (by intro _ _ _ h; exact h) (by rfl) ?hm12 E3.out (by kernel_rfl) ?rm12
          case hm12 => (intro w hSw; (try dsimp only at hSw); go_simp <;> with_reducible rfl)
          (try simp only [Act.put, sIT, sC0, sCS])
          refine md_val (i := 4) (v := ?vm13) (listed' := #[true, true, true, true, true, false, false, false, false, false, false]) (by rfl) (by kernel_rfl) (by kernel_rfl) (by kernel_rfl) (by intro _ _ _ h; exact h) (by rfl) ?hm13 E3.out (by kernel_rfl) ?rm13
          case hm13 => (intro w hSw; (try dsimp only at hSw); go_simp <;> with_reducible rfl)
          (try simp only [Act.put, sIT, sC0, sCS])
          refine md_range (i := 5) (listed' := #[true, true, true, true, true, true, false, false, false, false, false]) (by rfl) (by kernel_rfl) (by kernel_rfl) (by kernel_rfl) _ _ (by rfl) g1 (o1 + k * 4) [.bool ra.n, .slice ra.p ra.l ra.c, .bool ra.m, .slice ra.p2 ra.l2 ra.c2] _ (by intro _ _ _ h; exact h) (by rfl) (by rfl) (fun x hx => range_ext HRA.out ((E1.out.trans E2.out).trans hx)) Try.underlying41 (by rfl) (by kernel_rfl) E3.out (by kernel_rfl) ?_
          (try simp only [Act.put, sIT, sC0, sCS])
          refine md_load (i := 6) (listed' := #[true, true, true, true, true, true, true, false, false, false, false]) (by rfl) (by kernel_rfl) (by kernel_rfl) (by kernel_rfl) _ _ (by rfl) bx1 _ ch _ (by intro _ _ _ h; exact h) (by rfl) (by rfl) (fun x hx => ((Fbx1_.out.ext (E1.out.trans E2.out))).ext hx) Try.underlying41 (by rfl) (by rw [show (ch : Array Value).size = 4 from ZH]; kernel_rfl) E3.out (by kernel_rfl) ?_
          (try simp only [Act.put, sIT, sC0, sCS])
          refine md_call (i := 7) (listed' := #[true, true, true, true, true, true, true, true, false, false, false]) (by rfl) (by kernel_rfl) (by rfl) (by go_simp) (r03Cmp (L := L) (cs := #[.bool ra.n, .slice ra.p ra.l ra.c, .bool ra.m, .slice ra.p2 ra.l2 ra.c2]) ⟨ra, rfl, (Fra.out.ext (E1.out.trans (E2.out.trans E3.out)))⟩ (Fh_.out.ext (E1.out.trans (E2.out.trans E3.out))) hL) (by kernel_rfl) ?_
          rintro e w4 ⟨rfl, hx⟩
          have E4 := Lib.hid (show Ext w2.drew w4 from hx)
          clear hx
          refine ⟨_, rfl, (E3.out.trans E4.out), ?_⟩
          (try simp only [Act.put, sIT, sC0, sCS])
          refine md_val (i := 8) (v := ?vm14) (listed' := #[true, true, true, true, true, true, true, true, true, false, false]) (by rfl) (by kernel_rfl) (by kernel_rfl) (by kernel_rfl) (by intro _ _ _ h; exact h) (by rfl) ?hm14 (E3.out.trans E4.out) (by kernel_rfl) ?rm14
          case hm14 => (intro w hSw; (try dsimp only at hSw); go_simp <;> with_reducible rfl)
          (try simp only [Act.put, sIT, sC0, sCS])
          refine md_val (i := 9) (v := ?vm15) (listed' := #[true, true, true, true, true, true, true, true, true, true, false]) (by rfl) (by kernel_rfl) (by kernel_rfl) (by kernel_rfl) (by intro _ _ _ h; exact h) (by rfl) ?hm15 (E3.out.trans E4.out) (by kernel_rfl) ?rm15
          case hm15 => (intro w hSw; (try dsimp only at hSw); go_simp <;> with_reducible rfl)
          (try simp only [Act.put, sIT, sC0, sCS])
          refine md_val (i := 10) (v := ?vm16) (listed' := #[true, true, true, true, true, true, true, true, true, true, true]) (by rfl) (by kernel_rfl) (by kernel_rfl) (by kernel_rfl) (by intro _ _ _ h; exact h) (by rfl) ?hm16 (E3.out.trans E4.out) (by kernel_rfl) ?rm16
          case hm16 => (intro w hSw; (try dsimp only at hSw); go_simp <;> with_reducible rfl)
          (try simp only [Act.put, sIT, sC0, sCS])
          refine wpAnyH_done (by kernel_rfl) ?_ _
          go_wp2_with fail
          go_roundg (xs.length - (k + 1))
          case measure => omega
          case rel => exact ⟨k + 1, decide (rcmp rq lo ≤ 0), decide (0 ≤ rcmp rq hi), hlt, rfl, by go_num, rfl, rfl, (by rw [HUS.out.1, decide_eq_true_iff, rcmp_le_iff]; exact ⟨Or.inr, fun h => h.elim (fun h => absurd (HU.out.1.2 h) (by simp)) id⟩), (by rw [HUS.out.2, decide_eq_true_iff, rcmp_ge_iff]; exact ⟨Or.inr, fun h => h.elim (fun h => absurd (HU.out.2.2 h) (by simp)) id⟩), HE.out.trans (E1.out.trans (E2.out.trans (E3.out.trans E4.out)))⟩
        · have AA := Lib.hid (E1.out.trans HE.out)
          have Fl_ := Lib.hid ((Fl.out.ext E1.out).ext HE.out)
          have Fh_ := Lib.hid ((Fh.out.ext E1.out).ext HE.out)
          have Fbx0_ := Lib.hid (Fbx0.out.ext HE.out)
          have Fbx1_ := Lib.hid (Fbx1.out.ext HE.out)
          have Fra := Lib.hid HRI.out
          go_upto_region 5 with fail
          refine wp_region_held_drew (S := fun x => Ext wr x) (by kernel_rfl) (Ext.refl _).drew (fun _ => ?_)
          have E1 := Lib.hid (show Ext wr wr.drew from (Ext.refl _).drew)
          refine md_val (i := 0) (v := ?vm17) (listed' := #[true, false, false, false, false, false, false, false, false, false, false]) (by rfl) (by kernel_rfl) (by kernel_rfl) (by kernel_rfl) (by intro _ _ _ h; exact h) (by rfl) ?hm17 E1.out (by kernel_rfl) ?rm17
          case hm17 => (intro w hSw; (try dsimp only at hSw); go_simp <;> with_reducible rfl)
          (try simp only [Act.put, sIT, sC0, sCS])
          refine md_val (i := 1) (v := ?vm18) (listed' := #[true, true, false, false, false, false, false, false, false, false, false]) (by rfl) (by kernel_rfl) (by kernel_rfl) (by kernel_rfl) (by intro _ _ _ h; exact h) (by rfl) ?hm18 E1.out (by kernel_rfl) ?rm18
          case hm18 => (intro w hSw; (try dsimp only at hSw); go_simp <;> with_reducible rfl)
          (try simp only [Act.put, sIT, sC0, sCS])
          refine md_val (i := 2) (v := ?vm19) (listed' := #[true, true, true, false, false, false, false, false, false, false, false]) (by rfl) (by kernel_rfl) (by kernel_rfl) (by kernel_rfl) (by intro _ _ _ h; exact h) (by rfl) ?hm19 E1.out (by kernel_rfl) ?rm19
          case hm19 => (intro w hSw; (try dsimp only at hSw); go_simp <;> with_reducible rfl)
          (try simp only [Act.put, sIT, sC0, sCS])
          refine md_val (i := 3) (v := ?vm20) (listed' := #[true, true, true, true, false, false, false, false, false, false, false]) (by rfl) (by kernel_rfl) (by kernel_rfl) (by kernel_rfl) (by intro _ _ _ h; exact h) (by rfl) ?hm20 E1.out (by kernel_rfl) ?rm20
          case hm20 => (intro w hSw; (try dsimp only at hSw); go_simp <;> with_reducible rfl)
          (try simp only [Act.put, sIT, sC0, sCS])
          refine md_val (i := 4) (v := ?vm21) (listed' := #[true, true, true, true, true, false, false, false, false, false, false]) (by rfl) (by kernel_rfl) (by kernel_rfl) (by kernel_rfl) (by intro _ _ _ h; exact h) (by rfl) ?hm21 E1.out (by kernel_rfl) ?rm21
          case hm21 => (intro w hSw; (try dsimp only at hSw); go_simp <;> with_reducible rfl)
          (try simp only [Act.put, sIT, sC0, sCS])
          refine md_range (i := 5) (listed' := #[true, true, true, true, true, true, false, false, false, false, false]) (by rfl) (by kernel_rfl) (by kernel_rfl) (by kernel_rfl) _ _ (by rfl) g1 (o1 + k * 4) [.bool ra.n, .slice ra.p ra.l ra.c, .bool ra.m, .slice ra.p2 ra.l2 ra.c2] _ (by intro _ _ _ h; exact h) (by rfl) (by rfl) (fun x hx => range_ext HRA.out ((Ext.refl _).trans hx)) Try.underlying41 (by rfl) (by kernel_rfl) E1.out (by kernel_rfl) ?_
          (try simp only [Act.put, sIT, sC0, sCS])
          refine md_load (i := 6) (listed' := #[true, true, true, true, true, true, true, false, false, false, false]) (by rfl) (by kernel_rfl) (by kernel_rfl) (by kernel_rfl) _ _ (by rfl) w.heap.size _ cl _ (by intro _ _ _ h; exact h) (by rfl) (by rfl) (fun x hx => (Fbx0_.out).ext hx) Try.underlying41 (by rfl) (by rw [show (cl : Array Value).size = 4 from ZL]; kernel_rfl) E1.out (by kernel_rfl) ?_
          (try simp only [Act.put, sIT, sC0, sCS])
          refine md_call (i := 7) (listed' := #[true, true, true, true, true, true, true, true, false, false, false]) (by rfl) (by kernel_rfl) (by rfl) (by go_simp) (r03Cmp (L := L) (cs := #[.bool ra.n, .slice ra.p ra.l ra.c, .bool ra.m, .slice ra.p2 ra.l2 ra.c2]) ⟨ra, rfl, (Fra.out.ext E1.out)⟩ (Fl_.out.ext E1.out) hL) (by kernel_rfl) ?_
          rintro e w2 ⟨rfl, hx⟩
          have E2 := Lib.hid (show Ext wr.drew w2 from hx)
          clear hx
          refine ⟨_, rfl, (E1.out.trans E2.out), ?_⟩
          (try simp only [Act.put, sIT, sC0, sCS])
          refine md_val (i := 8) (v := ?vm22) (listed' := #[true, true, true, true, true, true, true, true, true, false, false]) (by rfl) (by kernel_rfl) (by kernel_rfl) (by kernel_rfl) (by intro _ _ _ h; exact h) (by rfl) ?hm22 (E1.out.trans E2.out) (by kernel_rfl) ?rm22
          case hm22 => (intro w hSw; (try dsimp only at hSw); go_simp <;> with_reducible rfl)
          (try simp only [Act.put, sIT, sC0, sCS])
          refine md_val (i := 9) (v := ?vm23) (listed' := #[true, true, true, true, true, true, true, true, true, true, false]) (by rfl) (by kernel_rfl) (by kernel_rfl) (by kernel_rfl) (by intro _ _ _ h; exact h) (by rfl) ?hm23 (E1.out.trans E2.out) (by kernel_rfl) ?rm23
          case hm23 => (intro w hSw; (try dsimp only at hSw); go_simp <;> with_reducible rfl)
          (try simp only [Act.put, sIT, sC0, sCS])
          refine md_val (i := 10) (v := ?vm24) (listed' := #[true, true, true, true, true, true, true, true, true, true, true]) (by rfl) (by kernel_rfl) (by kernel_rfl) (by kernel_rfl) (by intro _ _ _ h; exact h) (by rfl) ?hm24 (E1.out.trans E2.out) (by kernel_rfl) ?rm24
          case hm24 => (intro w hSw; (try dsimp only at hSw); go_simp <;> with_reducible rfl)
          (try simp only [Act.put, sIT, sC0, sCS])
          refine wpAnyH_done (by kernel_rfl) ?_ _
          go_upto_region 6 with fail
          refine wp_region_held_drew (S := fun x => Ext w2 x) (by kernel_rfl) (Ext.refl _).drew (fun _ => ?_)
          have E3 := Lib.hid (show Ext w2 w2.drew from (Ext.refl _).drew)
          refine md_val (i := 0) (v := ?vm25) (listed' := #[true, false, false, false, false, false, false, false, false, false, false]) (by rfl) (by kernel_rfl) (by kernel_rfl) (by kernel_rfl) (by intro _ _ _ h; exact h) (by rfl) ?hm25 E3.out (by kernel_rfl) ?rm25
          case hm25 => (intro w hSw; (try dsimp only at hSw); go_simp <;> with_reducible rfl)
          (try simp only [Act.put, sIT, sC0, sCS])
          refine md_val (i := 1) (v := ?vm26) (listed' := #[true, true, false, false, false, false, false, false, false, false, false]) (by rfl) (by kernel_rfl) (by kernel_rfl) (by kernel_rfl) (by intro _ _ _ h; exact h) (by rfl) ?hm26 E3.out (by kernel_rfl) ?rm26
          case hm26 => (intro w hSw; (try dsimp only at hSw); go_simp <;> with_reducible rfl)
          (try simp only [Act.put, sIT, sC0, sCS])
          refine md_skip (i := 2) (listed' := #[true, true, true, false, false, false, false, false, false, false, false]) (by rfl) (by kernel_rfl) (by kernel_rfl) (by kernel_rfl) (by intro _ _ _ h; exact h) (by rfl) E3.out (by kernel_rfl) ?_
          (try simp only [Act.put, sIT, sC0, sCS])
          refine md_skip (i := 3) (listed' := #[true, true, true, true, false, false, false, false, false, false, false]) (by rfl) (by kernel_rfl) (by kernel_rfl) (by kernel_rfl) (by intro _ _ _ h; exact h) (by rfl) E3.out (by kernel_rfl) ?_
          (try simp only [Act.put, sIT, sC0, sCS])
          refine md_skip (i := 4) (listed' := #[true, true, true, true, true, false, false, false, false, false, false]) (by rfl) (by kernel_rfl) (by kernel_rfl) (by kernel_rfl) (by intro _ _ _ h; exact h) (by rfl) E3.out (by kernel_rfl) ?_
          (try simp only [Act.put, sIT, sC0, sCS])
          refine md_skip (i := 5) (listed' := #[true, true, true, true, true, true, false, false, false, false, false]) (by rfl) (by kernel_rfl) (by kernel_rfl) (by kernel_rfl) (by intro _ _ _ h; exact h) (by rfl) E3.out (by kernel_rfl) ?_
          (try simp only [Act.put, sIT, sC0, sCS])
          refine md_skip (i := 6) (listed' := #[true, true, true, true, true, true, true, false, false, false, false]) (by rfl) (by kernel_rfl) (by kernel_rfl) (by kernel_rfl) (by intro _ _ _ h; exact h) (by rfl) E3.out (by kernel_rfl) ?_
          (try simp only [Act.put, sIT, sC0, sCS])
          refine md_skip (i := 7) (listed' := #[true, true, true, true, true, true, true, true, false, false, false]) (by rfl) (by kernel_rfl) (by kernel_rfl) (by kernel_rfl) (by intro _ _ _ h; exact h) (by rfl) E3.out (by kernel_rfl) ?_
          (try simp only [Act.put, sIT, sC0, sCS])
          refine md_skip (i := 8) (listed' := #[true, true, true, true, true, true, true, true, true, false, false]) (by rfl) (by kernel_rfl) (by kernel_rfl) (by kernel_rfl) (by intro _ _ _ h; exact h) (by rfl) E3.out (by kernel_rfl) ?_
          (try simp only [Act.put, sIT, sC0, sCS])
          refine md_val (i := 9) (v := ?vm27) (listed' := #[true, true, true, true, true, true, true, true, true, true, false]) (by rfl) (by kernel_rfl) (by kernel_rfl) (by kernel_rfl) (by intro _ _ _ h; exact h) (by rfl) ?hm27 E3.out (by kernel_rfl) ?rm27
          case hm27 => (intro w hSw; (try dsimp only at hSw); go_simp <;> with_reducible rfl)
          (try simp only [Act.put, sIT, sC0, sCS])
          refine md_val (i := 10) (v := ?vm28) (listed' := #[true, true, true, true, true, true, true, true, true, true, true]) (by rfl) (by kernel_rfl) (by kernel_rfl) (by kernel_rfl) (by intro _ _ _ h; exact h) (by rfl) ?hm28 E3.out (by kernel_rfl) ?rm28
          case hm28 => (intro w hSw; (try dsimp only at hSw); go_simp <;> with_reducible rfl)
          (try simp only [Act.put, sIT, sC0, sCS])
          refine wpAnyH_done (by kernel_rfl) ?_ _
          go_wp2_with fail
          go_roundg (xs.length - (k + 1))
          case measure => omega
          case rel => exact ⟨k + 1, decide (rcmp rq lo ≤ 0), true, hlt, rfl, by go_num, rfl, rfl, (by rw [HUS.out.1, decide_eq_true_iff, rcmp_le_iff]; exact ⟨Or.inr, fun h => h.elim (fun h => absurd (HU.out.1.2 h) (by simp)) id⟩), (by rw [HUS.out.2]; exact ⟨fun _ => Or.inl (HU.out.2.1 (by trivial)), fun _ => rfl⟩), HE.out.trans (E1.out.trans (E2.out.trans E3.out))⟩
      · cases v
        · have AA := Lib.hid (E1.out.trans HE.out)
          have Fl_ := Lib.hid ((Fl.out.ext E1.out).ext HE.out)
          have Fh_ := Lib.hid ((Fh.out.ext E1.out).ext HE.out)
          have Fbx0_ := Lib.hid (Fbx0.out.ext HE.out)
          have Fbx1_ := Lib.hid (Fbx1.out.ext HE.out)
          have Fra := Lib.hid HRI.out
          go_upto_region 5 with fail
          refine wp_region_held_drew (S := fun x => Ext wr x) (by kernel_rfl) (Ext.refl _).drew (fun _ => ?_)
          have E1 := Lib.hid (show Ext wr wr.drew from (Ext.refl _).drew)
          refine md_val (i := 0) (v := ?vm29) (listed' := #[true, false, false, false, false, false, false, false, false, false, false]) (by rfl) (by kernel_rfl) (by kernel_rfl) (by kernel_rfl) (by intro _ _ _ h; exact h) (by rfl) ?hm29 E1.out (by kernel_rfl) ?rm29
          case hm29 => (intro w hSw; (try dsimp only at hSw); go_simp <;> with_reducible rfl)
          (try simp only [Act.put, sIT, sC0, sCS])
          refine md_val (i := 1) (v := ?vm30) (listed' := #[true, true, false, false, false, false, false, false, false, false, false]) (by rfl) (by kernel_rfl) (by kernel_rfl) (by kernel_rfl) (by intro _ _ _ h; exact h) (by rfl) ?hm30 E1.out (by kernel_rfl) ?rm30
          case hm30 => (intro w hSw; (try dsimp only at hSw); go_simp <;> with_reducible rfl)
          (try simp only [Act.put, sIT, sC0, sCS])
          refine md_skip (i := 2) (listed' := #[true, true, true, false, false, false, false, false, false, false, false]) (by rfl) (by kernel_rfl) (by kernel_rfl) (by kernel_rfl) (by intro _ _ _ h; exact h) (by rfl) E1.out (by kernel_rfl) ?_
          (try simp only [Act.put, sIT, sC0, sCS])
          refine md_skip (i := 3) (listed' := #[true, true, true, true, false, false, false, false, false, false, false]) (by rfl) (by kernel_rfl) (by kernel_rfl) (by kernel_rfl) (by intro _ _ _ h; exact h) (by rfl) E1.out (by kernel_rfl) ?_
          (try simp only [Act.put, sIT, sC0, sCS])
          refine md_skip (i := 4) (listed' := #[true, true, true, true, true, false, false, false, false, false, false]) (by rfl) (by kernel_rfl) (by kernel_rfl) (by kernel_rfl) (by intro _ _ _ h; exact h) (by rfl) E1.out (by kernel_rfl) ?_
          (try simp only [Act.put, sIT, sC0, sCS])
          refine md_skip (i := 5) (listed' := #[true, true, true, true, true, true, false, false, false, false, false]) (by rfl) (by kernel_rfl) (by kernel_rfl) (by kernel_rfl) (by intro _ _ _ h; exact h) (by rfl) E1.out (by kernel_rfl) ?_
          (try simp only [Act.put, sIT, sC0, sCS])
          refine md_skip (i := 6) (listed' := #[true, true, true, true, true, true, true, false, false, false, false]) (by rfl) (by kernel_rfl) (by kernel_rfl) (by kernel_rfl) (by intro _ _ _ h; exact h) (by rfl) E1.out (by kernel_rfl) ?_
          (try simp only [Act.put, sIT, sC0, sCS])
          refine md_skip (i := 7) (listed' := #[true, true, true, true, true, true, true, true, false, false, false]) (by rfl) (by kernel_rfl) (by kernel_rfl) (by kernel_rfl) (by intro _ _ _ h; exact h) (by rfl) E1.out (by kernel_rfl) ?_
          (try simp only [Act.put, sIT, sC0, sCS])
          refine md_skip (i := 8) (listed' := #[true, true, true, true, true, true, true, true, true, false, false]) (by rfl) (by kernel_rfl) (by kernel_rfl) (by kernel_rfl) (by intro _ _ _ h; exact h) (by rfl) E1.out (by kernel_rfl) ?_
          (try simp only [Act.put, sIT, sC0, sCS])
          refine md_val (i := 9) (v := ?vm31) (listed' := #[true, true, true, true, true, true, true, true, true, true, false]) (by rfl) (by kernel_rfl) (by kernel_rfl) (by kernel_rfl) (by intro _ _ _ h; exact h) (by rfl) ?hm31 E1.out (by kernel_rfl) ?rm31
          case hm31 => (intro w hSw; (try dsimp only at hSw); go_simp <;> with_reducible rfl)
          (try simp only [Act.put, sIT, sC0, sCS])
          refine md_val (i := 10) (v := ?vm32) (listed' := #[true, true, true, true, true, true, true, true, true, true, true]) (by rfl) (by kernel_rfl) (by kernel_rfl) (by kernel_rfl) (by intro _ _ _ h; exact h) (by rfl) ?hm32 E1.out (by kernel_rfl) ?rm32
          case hm32 => (intro w hSw; (try dsimp only at hSw); go_simp <;> with_reducible rfl)
          (try simp only [Act.put, sIT, sC0, sCS])
          refine wpAnyH_done (by kernel_rfl) ?_ _
          go_upto_region 6 with fail
          refine wp_region_held_drew (S := fun x => Ext wr.drew x) (by kernel_rfl) (Ext.refl _).drew (fun _ => ?_)
          have E2 := Lib.hid (show Ext wr.drew wr.drew.drew from (Ext.refl _).drew)
          refine md_val (i := 0) (v := ?vm33) (listed' := #[true, false, false, false, false, false, false, false, false, false, false]) (by rfl) (by kernel_rfl) (by kernel_rfl) (by kernel_rfl) (by intro _ _ _ h; exact h) (by rfl) ?hm33 E2.out (by kernel_rfl) ?rm33
          case hm33 => (intro w hSw; (try dsimp only at hSw); go_simp <;> with_reducible rfl)
          (try simp only [Act.put, sIT, sC0, sCS])
          refine md_val (i := 1) (v := ?vm34) (listed' := #[true, true, false, false, false, false, false, false, false, false, false]) (by rfl) (by kernel_rfl) (by kernel_rfl) (by kernel_rfl) (by intro _ _ _ h; exact h) (by rfl) ?hm34 E2.out (by kernel_rfl) ?rm34
          case hm34 => (intro w hSw; (try dsimp only at hSw); go_simp <;> with_reducible rfl)
          (try simp only [Act.put, sIT, sC0, sCS])
          refine md_val (i := 2) (v := ?vm35) (listed' := #[true, true, true, false, false, false, false, false, false, false, false]) (by rfl) (by kernel_rfl) (by kernel_rfl) (by kernel_rfl) (by intro _ _ _ h; exact h) (by rfl) ?hm35 E2.out (by kernel_rfl) ?rm35
          case hm35 => (intro w hSw; (try dsimp only at hSw); go_simp <;> with_reducible rfl)
          (try simp only [Act.put, sIT, sC0, sCS])
          refine md_val (i := 3) (v := ?vm36) (listed' := #[true, true, true, true, false, false, false, false, false, false, false]) (by rfl) (by kernel_rfl) (by kernel_rfl) (by kernel_rfl) (by intro _ _ _ h; exact h) (by rfl) ?hm36 E2.out (by kernel_rfl) ?rm36
          case hm36 => (intro w hSw; (try dsimp only at hSw); go_simp <;> with_reducible rfl)
          (try simp only [Act.put, sIT, sC0, sCS])
          refine md_val (i := 4) (v := ?vm37) (listed' := #[true, true, true, true, true, false, false, false, false, false, false]) (by rfl) (by kernel_rfl) (by kernel_rfl) (by kernel_rfl) (by intro _ _ _ h; exact h) (by rfl) ?hm37 E2.out (by kernel_rfl) ?rm37
          case hm37 => (intro w hSw; (try dsimp only at hSw); go_simp <;> with_reducible rfl)
          (try simp only [Act.put, sIT, sC0, sCS])
          refine md_range (i := 5) (listed' := #[true, true, true, true, true, true, false, false, false, false, false]) (by rfl) (by kernel_rfl) (by kernel_rfl) (by kernel_rfl) _ _ (by rfl) g1 (o1 + k * 4) [.bool ra.n, .slice ra.p ra.l ra.c, .bool ra.m, .slice ra.p2 ra.l2 ra.c2] _ (by intro _ _ _ h; exact h) (by rfl) (by rfl) (fun x hx => range_ext HRA.out (E1.out.trans hx)) Try.underlying41 (by rfl) (by kernel_rfl) E2.out (by kernel_rfl) ?_
          (try simp only [Act.put, sIT, sC0, sCS])
          refine md_load (i := 6) (listed' := #[true, true, true, true, true, true, true, false, false, false, false]) (by rfl) (by kernel_rfl) (by kernel_rfl) (by kernel_rfl) _ _ (by rfl) bx1 _ ch _ (by intro _ _ _ h; exact h) (by rfl) (by rfl) (fun x hx => ((Fbx1_.out.ext E1.out)).ext hx) Try.underlying41 (by rfl) (by rw [show (ch : Array Value).size = 4 from ZH]; kernel_rfl) E2.out (by kernel_rfl) ?_
          (try simp only [Act.put, sIT, sC0, sCS])
          refine md_call (i := 7) (listed' := #[true, true, true, true, true, true, true, true, false, false, false]) (by rfl) (by kernel_rfl) (by rfl) (by go_simp) (r03Cmp (L := L) (cs := #[.bool ra.n, .slice ra.p ra.l ra.c, .bool ra.m, .slice ra.p2 ra.l2 ra.c2]) ⟨ra, rfl, (Fra.out.ext (E1.out.trans E2.out))⟩ (Fh_.out.ext (E1.out.trans E2.out)) hL) (by kernel_rfl) ?_
          rintro e w3 ⟨rfl, hx⟩
          have E3 := Lib.hid (show Ext wr.drew.drew w3 from hx)
          clear hx
          refine ⟨_, rfl, (E2.out.trans E3.out), ?_⟩
          (try simp only [Act.put, sIT, sC0, sCS])
          refine md_val (i := 8) (v := ?vm38) (listed' := #[true, true, true, true, true, true, true, true, true, false, false]) (by rfl) (by kernel_rfl) (by kernel_rfl) (by kernel_rfl) (by intro _ _ _ h; exact h) (by rfl) ?hm38 (E2.out.trans E3.out) (by kernel_rfl) ?rm38
          case hm38 => (intro w hSw; (try dsimp only at hSw); go_simp <;> with_reducible rfl)
          (try simp only [Act.put, sIT, sC0, sCS])
          refine md_val (i := 9) (v := ?vm39) (listed' := #[true, true, true, true, true, true, true, true, true, true, false]) (by rfl) (by kernel_rfl) (by kernel_rfl) (by kernel_rfl) (by intro _ _ _ h; exact h) (by rfl) ?hm39 (E2.out.trans E3.out) (by kernel_rfl) ?rm39
          case hm39 => (intro w hSw; (try dsimp only at hSw); go_simp <;> with_reducible rfl)
          (try simp only [Act.put, sIT, sC0, sCS])
          refine md_val (i := 10) (v := ?vm40) (listed' := #[true, true, true, true, true, true, true, true, true, true, true]) (by rfl) (by kernel_rfl) (by kernel_rfl) (by kernel_rfl) (by intro _ _ _ h; exact h) (by rfl) ?hm40 (E2.out.trans E3.out) (by kernel_rfl) ?rm40
          case hm40 => (intro w hSw; (try dsimp only at hSw); go_simp <;> with_reducible rfl)
          (try simp only [Act.put, sIT, sC0, sCS])
          refine wpAnyH_done (by kernel_rfl) ?_ _
          go_wp2_with fail
          go_roundg (xs.length - (k + 1))
          case measure => omega
          case rel => exact ⟨k + 1, true, decide (0 ≤ rcmp rq hi), hlt, rfl, by go_num, rfl, rfl, (by rw [HUS.out.1]; exact ⟨fun _ => Or.inl (HU.out.1.1 (by trivial)), fun _ => rfl⟩), (by rw [HUS.out.2, decide_eq_true_iff, rcmp_ge_iff]; exact ⟨Or.inr, fun h => h.elim (fun h => absurd (HU.out.2.2 h) (by simp)) id⟩), HE.out.trans (E1.out.trans (E2.out.trans E3.out))⟩
        · have AA := Lib.hid (E1.out.trans HE.out)
          have Fl_ := Lib.hid ((Fl.out.ext E1.out).ext HE.out)
          have Fh_ := Lib.hid ((Fh.out.ext E1.out).ext HE.out)
          have Fbx0_ := Lib.hid (Fbx0.out.ext HE.out)
          have Fbx1_ := Lib.hid (Fbx1.out.ext HE.out)
          have Fra := Lib.hid HRI.out
          go_upto_region 5 with fail
          refine wp_region_held_drew (S := fun x => Ext wr x) (by kernel_rfl) (Ext.refl _).drew (fun _ => ?_)
          have E1 := Lib.hid (show Ext wr wr.drew from (Ext.refl _).drew)
          refine md_val (i := 0) (v := ?vm41) (listed' := #[true, false, false, false, false, false, false, false, false, false, false]) (by rfl) (by kernel_rfl) (by kernel_rfl) (by kernel_rfl) (by intro _ _ _ h; exact h) (by rfl) ?hm41 E1.out (by kernel_rfl) ?rm41
          case hm41 => (intro w hSw; (try dsimp only at hSw); go_simp <;> with_reducible rfl)
          (try simp only [Act.put, sIT, sC0, sCS])
          refine md_val (i := 1) (v := ?vm42) (listed' := #[true, true, false, false, false, false, false, false, false, false, false]) (by rfl) (by kernel_rfl) (by kernel_rfl) (by kernel_rfl) (by intro _ _ _ h; exact h) (by rfl) ?hm42 E1.out (by kernel_rfl) ?rm42
          case hm42 => (intro w hSw; (try dsimp only at hSw); go_simp <;> with_reducible rfl)
          (try simp only [Act.put, sIT, sC0, sCS])
          refine md_skip (i := 2) (listed' := #[true, true, true, false, false, false, false, false, false, false, false]) (by rfl) (by kernel_rfl) (by kernel_rfl) (by kernel_rfl) (by intro _ _ _ h; exact h) (by rfl) E1.out (by kernel_rfl) ?_
          (try simp only [Act.put, sIT, sC0, sCS])
          refine md_skip (i := 3) (listed' := #[true, true, true, true, false, false, false, false, false, false, false]) (by rfl) (by kernel_rfl) (by kernel_rfl) (by kernel_rfl) (by intro _ _ _ h; exact h) (by rfl) E1.out (by kernel_rfl) ?_
          (try simp only [Act.put, sIT, sC0, sCS])
          refine md_skip (i := 4) (listed' := #[true, true, true, true, true, false, false, false, false, false, false]) (by rfl) (by kernel_rfl) (by kernel_rfl) (by kernel_rfl) (by intro _ _ _ h; exact h) (by rfl) E1.out (by kernel_rfl) ?_
          (try simp only [Act.put, sIT, sC0, sCS])
          refine md_skip (i := 5) (listed' := #[true, true, true, true, true, true, false, false, false, false, false]) (by rfl) (by kernel_rfl) (by kernel_rfl) (by kernel_rfl) (by intro _ _ _ h; exact h) (by rfl) E1.out (by kernel_rfl) ?_
          (try simp only [Act.put, sIT, sC0, sCS])
          refine md_skip (i := 6) (listed' := #[true, true, true, true, true, true, true, false, false, false, false]) (by rfl) (by kernel_rfl) (by kernel_rfl) (by kernel_rfl) (by intro _ _ _ h; exact h) (by rfl) E1.out (by kernel_rfl) ?_
          (try simp only [Act.put, sIT, sC0, sCS])
          refine md_skip (i := 7) (listed' := #[true, true, true, true, true, true, true, true, false, false, false]) (by rfl) (by kernel_rfl) (by kernel_rfl) (by kernel_rfl) (by intro _ _ _ h; exact h) (by rfl) E1.out (by kernel_rfl) ?_
          (try simp only [Act.put, sIT, sC0, sCS])
          refine md_skip (i := 8) (listed' := #[true, true, true, true, true, true, true, true, true, false, false]) (by rfl) (by kernel_rfl) (by kernel_rfl) (by kernel_rfl) (by intro _ _ _ h; exact h) (by rfl) E1.out (by kernel_rfl) ?_
          (try simp only [Act.put, sIT, sC0, sCS])
          refine md_val (i := 9) (v := ?vm43) (listed' := #[true, true, true, true, true, true, true, true, true, true, false]) (by rfl) (by kernel_rfl) (by kernel_rfl) (by kernel_rfl) (by intro _ _ _ h; exact h) (by rfl) ?hm43 E1.out (by kernel_rfl) ?rm43
          case hm43 => (intro w hSw; (try dsimp only at hSw); go_simp <;> with_reducible rfl)
          (try simp only [Act.put, sIT, sC0, sCS])
          refine md_val (i := 10) (v := ?vm44) (listed' := #[true, true, true, true, true, true, true, true, true, true, true]) (by rfl) (by kernel_rfl) (by kernel_rfl) (by kernel_rfl) (by intro _ _ _ h; exact h) (by rfl) ?hm44 E1.out (by kernel_rfl) ?rm44
          case hm44 => (intro w hSw; (try dsimp only at hSw); go_simp <;> with_reducible rfl)
          (try simp only [Act.put, sIT, sC0, sCS])
          refine wpAnyH_done (by kernel_rfl) ?_ _
          go_upto_region 6 with fail
          refine wp_region_held_drew (S := fun x => Ext wr.drew x) (by kernel_rfl) (Ext.refl _).drew (fun _ => ?_)
          have E2 := Lib.hid (show Ext wr.drew wr.drew.drew from (Ext.refl _).drew)
          refine md_val (i := 0) (v := ?vm45) (listed' := #[true, false, false, false, false, false, false, false, false, false, false]) (by rfl) (by kernel_rfl) (by kernel_rfl) (by kernel_rfl) (by intro _ _ _ h; exact h) (by rfl) ?hm45 E2.out (by kernel_rfl) ?rm45
          case hm45 => (intro w hSw; (try dsimp only at hSw); go_simp <;> with_reducible rfl)
          (try simp only [Act.put, sIT, sC0, sCS])
          refine md_val (i := 1) (v := ?vm46) (listed' := #[true, true, false, false, false, false, false, false, false, false, false]) (by rfl) (by kernel_rfl) (by kernel_rfl) (by kernel_rfl) (by intro _ _ _ h; exact h) (by rfl) ?hm46 E2.out (by kernel_rfl) ?rm46
          case hm46 => (intro w hSw; (try dsimp only at hSw); go_simp <;> with_reducible rfl)
          (try simp only [Act.put, sIT, sC0, sCS])
          refine md_skip (i := 2) (listed' := #[true, true, true, false, false, false, false, false, false, false, false]) (by rfl) (by kernel_rfl) (by kernel_rfl) (by kernel_rfl) (by intro _ _ _ h; exact h) (by rfl) E2.out (by kernel_rfl) ?_
          (try simp only [Act.put, sIT, sC0, sCS])
          refine md_skip (i := 3) (listed' := #[true, true, true, true, false, false, false, false, false, false, false]) (by rfl) (by kernel_rfl) (by kernel_rfl) (by kernel_rfl) (by intro _ _ _ h; exact h) (by rfl) E2.out (by kernel_rfl) ?_
          (try simp only [Act.put, sIT, sC0, sCS])
          refine md_skip (i := 4) (listed' := #[true, true, true, true, true, false, false, false, false, false, false]) (by rfl) (by kernel_rfl) (by kernel_rfl) (by kernel_rfl) (by intro _ _ _ h; exact h) (by rfl) E2.out (by kernel_rfl) ?_
          (try simp only [Act.put, sIT, sC0, sCS])
          refine md_skip (i := 5) (listed' := #[true, true, true, true, true, true, false, false, false, false, false]) (by rfl) (by kernel_rfl) (by kernel_rfl) (by kernel_rfl) (by intro _ _ _ h; exact h) (by rfl) E2.out (by kernel_rfl) ?_
          (try simp only [Act.put, sIT, sC0, sCS])
          refine md_skip (i := 6) (listed' := #[true, true, true, true, true, true, true, false, false, false, false]) (by rfl) (by kernel_rfl) (by kernel_rfl) (by kernel_rfl) (by intro _ _ _ h; exact h) (by rfl) E2.out (by kernel_rfl) ?_
          (try simp only [Act.put, sIT, sC0, sCS])
          refine md_skip (i := 7) (listed' := #[true, true, true, true, true, true, true, true, false, false, false]) (by rfl) (by kernel_rfl) (by kernel_rfl) (by kernel_rfl) (by intro _ _ _ h; exact h) (by rfl) E2.out (by kernel_rfl) ?_
          (try simp only [Act.put, sIT, sC0, sCS])
          refine md_skip (i := 8) (listed' := #[true, true, true, true, true, true, true, true, true, false, false]) (by rfl) (by kernel_rfl) (by kernel_rfl) (by kernel_rfl) (by intro _ _ _ h; exact h) (by rfl) E2.out (by kernel_rfl) ?_
          (try simp only [Act.put, sIT, sC0, sCS])
          refine md_val (i := 9) (v := ?vm47) (listed' := #[true, true, true, true, true, true, true, true, true, true, false]) (by rfl) (by kernel_rfl) (by kernel_rfl) (by kernel_rfl) (by intro _ _ _ h; exact h) (by rfl) ?hm47 E2.out (by kernel_rfl) ?rm47
          case hm47 => (intro w hSw; (try dsimp only at hSw); go_simp <;> with_reducible rfl)
          (try simp only [Act.put, sIT, sC0, sCS])
          refine md_val (i := 10) (v := ?vm48) (listed' := #[true, true, true, true, true, true, true, true, true, true, true]) (by rfl) (by kernel_rfl) (by kernel_rfl) (by kernel_rfl) (by intro _ _ _ h; exact h) (by rfl) ?hm48 E2.out (by kernel_rfl) ?rm48
          case hm48 => (intro w hSw; (try dsimp only at hSw); go_simp <;> with_reducible rfl)
          (try simp only [Act.put, sIT, sC0, sCS])
          refine wpAnyH_done (by kernel_rfl) ?_ _
          go_wp2_with fail
          go_roundg (xs.length - (k + 1))
          case measure => omega
          case rel => exact ⟨k + 1, true, true, hlt, rfl, by go_num, rfl, rfl, (by rw [HUS.out.1]; exact ⟨fun _ => Or.inl (HU.out.1.1 (by trivial)), fun _ => rfl⟩), (by rw [HUS.out.2]; exact ⟨fun _ => Or.inl (HU.out.2.1 (by trivial)), fun _ => rfl⟩), HE.out.trans (E1.out.trans E2.out)⟩
    · obtain rfl : k = xs.length := by omega
      obtain rfl : u = true := HU.out.1.2 Q.out.1
      obtain rfl : v = true := HU.out.2.2 Q.out.2
      go_wp2_with fail
      go_ret
      exact ⟨rfl, E1.out.trans HE.out⟩

end Go.Proofs.Ytllpkoinjompcaa

namespace Go.Proofs.Ytllpkoinjompcaa
open Go.RowKit
attribute [local go_sem ↓] Go.wp_at_zero Go.wp_at_succ run_eql_point run_neq_point

def clampI (n lo hi : Int) : Int := if n < lo then lo else if hi < n then hi else n

theorem clamp_any (n lo hi : Int) (w : World) :
    Calls Try.prog 145 #[.int .i64 n, .int .i64 lo, .int .i64 hi] w fun e w' => e = .returned (.int .i64 (clampI n lo hi)) ∧ w = w' := by
  go_enter Try.func145, Try.ntmps145
  go_wp2_with fail
  all_goals go_ret
  all_goals refine ⟨ret_int ?_, rfl⟩
  all_goals unfold clampI
  · rw [if_pos ‹_›]
  · rw [if_neg (by omega), if_pos ‹_›]
  · rw [if_neg (by omega), if_neg (by omega)]

theorem held_any (n : Int) (w : World) :
    Calls Try.prog 137 #[.int .i64 n] w fun e w' => e = .returned (.int .i64 (clampI n (-1048576) 1048576)) ∧ w = w' := by
  go_enter Try.func137, Try.ntmps137
  go_wp2_with (go_at_call 145; refine (clamp_any _ _ _ _).mono ?_; rintro e w' ⟨rfl, rfl⟩)
  go_ret
  exact ⟨rfl, rfl⟩

theorem hold_any (x y : Int) (w : World) :
    Calls Try.prog 113 #[.agg #[.int .i64 x, .int .i64 y]] w fun e w' => e = .returned (.agg #[.int .i64 (clampI x (-1048576) 1048576), .int .i64 (clampI y (-1048576) 1048576)]) ∧ Ext w w' := by
  go_enter Try.func113, Try.ntmps113
  go_wp2_with fail
  go_region_held3 (fun w' => w'.cell? ⟨w.heap.size, 0, none⟩ = some (.int .i64 x) ∧ w'.cell? ⟨w.heap.size, 1, none⟩ = some (.int .i64 y)) (go_keep)
    (first | (go_at_call 137; refine (held_any _ _).mono ?_; rintro e w' ⟨rfl, rfl⟩))
  go_wp2_with fail
  refine bodyPost_ret (v := .agg #[.int .i64 (clampI x (-1048576) 1048576), .int .i64 (clampI y (-1048576) 1048576)]) (by simp [results, Try.results113, go_sem]) rfl ⟨rfl, ?_⟩
  exact ((((Ext.refl _).alloc _).alloc _).drew)

theorem eq_clamp (x : Int) : (clampI x (-1048576) 1048576 == x) = decide (-1048576 ≤ x ∧ x ≤ 1048576) := by
  rw [Bool.eq_iff_iff]
  unfold clampI
  simp only [beq_iff_eq, decide_eq_true_eq]
  split
  · omega
  · split <;> omega

def okPt (x y : Int) : Bool := decide (-1048576 ≤ x ∧ x ≤ 1048576) && decide (-1048576 ≤ y ∧ y ≤ 1048576)

theorem valid_any (x y : Int) (w : World) :
    Calls Try.prog 89 #[.agg #[.int .i64 x, .int .i64 y]] w fun e w' => e = .returned (.bool (okPt x y)) ∧ Ext w w' := by
  have h0 : ∀ w', Ext (w.alloc (.cells #[.int .i64 x, .int .i64 y] 33)) w' → w'.cell? ⟨w.heap.size, 0, none⟩ = some (.int .i64 x) := fun w' h => h.get (by simp)
  have h1 : ∀ w', Ext (w.alloc (.cells #[.int .i64 x, .int .i64 y] 33)) w' → w'.cell? ⟨w.heap.size, 1, none⟩ = some (.int .i64 y) := fun w' h => h.get (by simp)
  go_enter Try.func89, Try.ntmps89
  go_wp2_with fail
  go_region_held3 (fun w' => Ext (w.alloc (.cells #[.int .i64 x, .int .i64 y] 33)) w') (first | assumption | exact Ext.drew (Ext.refl _) | (apply Ext.via; assumption; assumption))
    (first | (go_at_call 113; refine (hold_any _ _ _).mono ?_; rintro e w' ⟨rfl, hb⟩))
  go_wp2_with fail
  go_ret
  refine ⟨?_, ((Ext.refl _).alloc _).trans ‹_›⟩
  rw [eq_clamp, eq_clamp]; rfl

end Go.Proofs.Ytllpkoinjompcaa

namespace Go.Proofs.Ytllpkoinjompcaa
open Go.RowKit
attribute [local go_sem ↓] Go.wp_at_zero Go.wp_at_succ run_eql_point run_neq_point

def PtsAt (w : World) (b off : Nat) (ps : List (Int × Int)) : Prop :=
  ∀ i, i < ps.length → w.cell? ⟨b, off + i * 2, none⟩ = some (.int .i64 (ps.getD i (0, 0)).1) ∧ w.cell? ⟨b, off + i * 2 + 1, none⟩ = some (.int .i64 (ps.getD i (0, 0)).2)

theorem PtsAt.ext {w w' : World} {b off : Nat} {ps : List (Int × Int)} (h : PtsAt w b off ps) (e : Ext w w') : PtsAt w' b off ps :=
  fun i hi => ⟨e.get (h i hi).1, e.get (h i hi).2⟩

def okAll (ps : List (Int × Int)) : Bool := ps.all fun p => okPt p.1 p.2

theorem okAll_take_succ (ps : List (Int × Int)) (k : Nat) (hk : k < ps.length) :
    okAll (ps.take (k + 1)) = (okAll (ps.take k) && okPt (ps.getD k (0, 0)).1 (ps.getD k (0, 0)).2) := by
  unfold okAll
  rw [List.take_succ_eq_append_getElem hk, List.all_append]
  simp [List.getD, hk]

def least (need tol : Int) : Nat → Nat → Option Nat
  | _, 0 => none
  | k, f + 1 => if need ≤ 16 * k * k * k * k * tol * tol then some k else least need tol (k + 1) f

def piecesV (need tol : Int) (ps : List (Int × Int)) : Int × Int :=
  if tol < 1 ∨ 256 < tol then (0, 2) else if okAll ps = false then (0, 6) else
    match least need tol 1 64 with
    | some k => (k, 0)
    | none => (0, 11)

theorem okAll_stop (ps : List (Int × Int)) (k : Nat) (hk : k < ps.length) (h : okPt ps[k].1 ps[k].2 = false) : okAll ps = false := by
  unfold okAll
  rw [List.all_eq_false]
  exact ⟨ps[k], List.getElem_mem hk, by simp [h]⟩
theorem okAll_step (ps : List (Int × Int)) (k : Nat) (hk : k < ps.length) (h0 : okAll (ps.take k) = true) (h : okPt ps[k].1 ps[k].2 = true) : okAll (ps.take (k + 1)) = true := by
  rw [okAll_take_succ ps k hk, h0]
  simp [List.getD, hk, h]
theorem okAll_end (ps : List (Int × Int)) (k : Nat) (hk : k ≤ ps.length) (hge : ¬ k < ps.length) (h0 : okAll (ps.take k) = true) : okAll ps = true := by
  rwa [List.take_of_length_le (by omega)] at h0

theorem least_step (need tol : Int) (k f : Nat) (h : ¬ need ≤ 16 * k * k * k * k * tol * tol) : least need tol k (f + 1) = least need tol (k + 1) f := by
  rw [least, if_neg h]
theorem least_hit (need tol : Int) (k f : Nat) (h : need ≤ 16 * k * k * k * k * tol * tol) : least need tol k (f + 1) = some k := by
  rw [least, if_pos h]

theorem least_bounds (k : Nat) (tol : Int) (hk : k ≤ 64) (h1 : 1 ≤ tol) (h2 : tol ≤ 256) :
    0 ≤ 16 * (k : Int) * k ∧ 16 * (k : Int) * k ≤ 65536 ∧ 0 ≤ 16 * (k : Int) * k * k ∧ 16 * (k : Int) * k * k ≤ 4194304 ∧ 0 ≤ 16 * (k : Int) * k * k * k ∧ 16 * (k : Int) * k * k * k ≤ 268435456 ∧
    0 ≤ 16 * (k : Int) * k * k * k * tol ∧ 16 * (k : Int) * k * k * k * tol ≤ 68719476736 ∧ 0 ≤ 16 * (k : Int) * k * k * k * tol * tol ∧ 16 * (k : Int) * k * k * k * tol * tol ≤ 17592186044416 := by
  have hk0 : (0 : Int) ≤ k := by omega
  have hk1 : (k : Int) ≤ 64 := by omega
  have mb : ∀ a b A B : Int, 0 ≤ a → a ≤ A → 0 ≤ b → b ≤ B → 0 ≤ a * b ∧ a * b ≤ A * B := fun a b A B ha hA hb hB =>
    ⟨Int.mul_nonneg ha hb, Int.mul_le_mul hA hB hb (by omega)⟩
  have a1 := mb (16 * k) k 1024 64 (by omega) (by omega) hk0 hk1
  have a2 := mb _ k 65536 64 a1.1 (by omega) hk0 hk1
  have a3 := mb _ k 4194304 64 a2.1 (by omega) hk0 hk1
  have a4 := mb _ tol 268435456 256 a3.1 (by omega) (by omega) h2
  have a5 := mb _ tol 68719476736 256 a4.1 (by omega) (by omega) h2
  omega

theorem pieces_any (need tol : Int) (b off cap : Nat) (ps : List (Int × Int)) (w : World) (hn : ps.length ≤ 4096) (hp : PtsAt w b off ps) :
    Calls Try.prog 56 #[.int .i64 need, .int .i64 tol, .slice (some ⟨b, off, none⟩) ps.length cap] w fun e w' =>
      e = .returned (.tuple #[.int .i64 (piecesV need tol ps).1, .int .i64 (piecesV need tol ps).2]) ∧ Ext w w' := by
  by_cases ht : tol < 1 ∨ 256 < tol
  · have hv : piecesV need tol ps = (0, 2) := by unfold piecesV; rw [if_pos ht]
    rw [hv]
    clear hv
    rcases ht with ht | ht
    · go_enter Try.func56, Try.ntmps56
      go_wp2_with fail
      go_ret2
      exact ⟨rfl, Ext.refl _⟩
    · have ht' : ¬ tol < 1 := by omega
      go_enter Try.func56, Try.ntmps56
      go_wp2_with fail
      go_ret2
      exact ⟨rfl, Ext.refl _⟩
  have t1 : 1 ≤ tol := by omega
  have t2 : tol ≤ 256 := by omega
  have v1 : okAll ps = false → piecesV need tol ps = (0, 6) := fun h => by unfold piecesV; rw [if_neg ht, if_pos h]
  have v2 : ∀ k : Nat, okAll ps = true → least need tol 1 64 = some k → piecesV need tol ps = ((k : Int), 0) := fun k h hl => by unfold piecesV; rw [if_neg ht, if_neg (by simp [h]), hl]
  have v3 : okAll ps = true → least need tol 1 64 = none → piecesV need tol ps = (0, 11) := fun h hl => by unfold piecesV; rw [if_neg ht, if_neg (by simp [h]), hl]
  have H1 := Lib.hid v1
  have H2 := Lib.hid v2
  have H3 := Lib.hid v3
  clear v1 v2 v3 ht
  have d1 : decide (tol < 1) = false := by simp; omega
  have d2 : decide (256 < tol) = false := by simp; omega
  go_enter Try.func56, Try.ntmps56
  go_wp2_with fail
  go_loopw [19] (fun i wr => ∃ k : Nat, k ≤ ps.length ∧ i = .int .i64 k ∧ okAll (ps.take k) = true ∧ Ext w wr) (fun i _ => ps.length - (intOf i).toNat)
  case atStart => exact ⟨0, Nat.zero_le _, rfl, rfl, Ext.refl _⟩
  case round =>
    obtain ⟨k, hk, rfl, ho, he⟩ := hrel
    have HO := Lib.hid ho
    clear ho
    by_cases hlt : k < ps.length
    · obtain ⟨c0, c1⟩ := hp.ext he k hlt
      go_wp2_with (go_at_call 89; refine (valid_any _ _ _).mono ?_; rintro e w' ⟨rfl, hb⟩)
      · have hf : (!okPt ps[k].1 ps[k].2) = true := by assumption
        go_ret2
        rw [H1.out (okAll_stop ps k hlt (by simpa using hf))]
        exact ⟨rfl, (he.alloc _).trans ‹_›⟩
      · have hf : (!okPt ps[k].1 ps[k].2) = false := by assumption
        go_roundw
        case rel => exact ⟨k + 1, hlt, by go_num, okAll_step ps k hlt HO.out (by simpa using hf), (he.alloc _).trans ‹_›⟩
        case measure => simp [intOf]; omega
    · have HK := Lib.hid (okAll_end ps k hk hlt HO.out)
      clear HO
      go_wp2_with fail
      go_loop [10] (fun i => ∃ j : Nat, 1 ≤ j ∧ j ≤ 65 ∧ i = .int .i64 j ∧ least need tol 1 64 = least need tol j (65 - j)) (fun i => 65 - (intOf i).toNat)
      case atStart => exact ⟨1, Nat.le_refl _, by omega, rfl, rfl⟩
      case round =>
        obtain ⟨j, hj1, hj2, rfl, hl⟩ := hrel
        have HL := Lib.hid hl
        clear hl
        by_cases hj : j ≤ 64
        · have bd := least_bounds j tol hj t1 t2
          by_cases hit : need ≤ 16 * (j : Int) * j * j * j * tol * tol
          · have hr : least need tol 1 64 = some j := by
              rw [HL.out, show 65 - j = (64 - j) + 1 by omega]; exact least_hit _ _ _ _ hit
            have HR := Lib.hid hr
            clear hr
            go_wp2_with fail
            go_ret2
            rw [H2.out j HK.out HR.out]
            exact ⟨rfl, he⟩
          · have hr : least need tol 1 64 = least need tol (j + 1) (65 - (j + 1)) := by
              rw [HL.out, show 65 - j = (64 - j) + 1 by omega, least_step _ _ _ _ hit, show 64 - j = 65 - (j + 1) by omega]
            have HR := Lib.hid hr
            clear hr
            go_wp2_with fail
            go_round
            case rel => exact ⟨j + 1, by omega, by omega, by go_num, HR.out⟩
            case measure => simp [intOf]; omega
        · have hr : least need tol 1 64 = none := by
            rw [HL.out, show 65 - j = 0 by omega]; rfl
          have HR := Lib.hid hr
          clear hr
          go_wp2_with fail
          go_ret2
          rw [H3.out HK.out HR.out]
          exact ⟨rfl, he⟩

def sqD (a b c : Int × Int) : Int := (a.1 - 2 * b.1 + c.1) * (a.1 - 2 * b.1 + c.1) + (a.2 - 2 * b.2 + c.2) * (a.2 - 2 * b.2 + c.2)

theorem sq_bound (x : Int) (h1 : -4194304 ≤ x) (h2 : x ≤ 4194304) : 0 ≤ x * x ∧ x * x ≤ 17592186044416 := by
  have h : x * x ≤ 4194304 * 4194304 := by
    by_cases hx : 0 ≤ x
    · exact Int.mul_le_mul h2 h2 hx (by omega)
    · have := Int.mul_le_mul (a := -x) (c := 4194304) (b := -x) (d := 4194304) (by omega) (by omega) (by omega) (by omega)
      rw [Int.neg_mul_neg] at this
      exact this
  refine ⟨?_, by omega⟩
  by_cases hx : 0 ≤ x
  · exact Int.mul_nonneg hx hx
  · have := Int.mul_nonneg (a := -x) (b := -x) (by omega) (by omega)
    rw [Int.neg_mul_neg] at this
    exact this

theorem okPt_iff (x y : Int) : okPt x y = true ↔ (-1048576 ≤ x ∧ x ≤ 1048576) ∧ -1048576 ≤ y ∧ y ≤ 1048576 := by simp [okPt]

def SquareSays (a b c : Int × Int) (w : World) (e : Ending) (w' : World) : Prop :=
  ∃ n : Int, e = .returned (.int .i64 n) ∧ (okAll [a, b, c] = true → n = sqD a b c) ∧ Ext w w'

theorem square_any (a b c : Int × Int) (w : World) :
    Calls Try.prog 57 #[.agg #[.int .i64 a.1, .int .i64 a.2], .agg #[.int .i64 b.1, .int .i64 b.2], .agg #[.int .i64 c.1, .int .i64 c.2]] w (SquareSays a b c w) := by
  obtain ⟨ax, ay⟩ := a
  obtain ⟨bx, bt⟩ := b
  obtain ⟨cx, cy⟩ := c
  by_cases hv : okAll [(ax, ay), (bx, bt), (cx, cy)] = true
  · have hb : ((-1048576 ≤ ax ∧ ax ≤ 1048576) ∧ -1048576 ≤ ay ∧ ay ≤ 1048576) ∧ ((-1048576 ≤ bx ∧ bx ≤ 1048576) ∧ -1048576 ≤ bt ∧ bt ≤ 1048576) ∧ ((-1048576 ≤ cx ∧ cx ≤ 1048576) ∧ -1048576 ≤ cy ∧ cy ≤ 1048576) := by
      simpa [okAll, okPt_iff] using hv
    have b1 := sq_bound (ax - 2 * bx + cx) (by omega) (by omega)
    have b2 := sq_bound (ay - 2 * bt + cy) (by omega) (by omega)
    clear hv
    go_enter Try.func57, Try.ntmps57
    go_wp2_with fail
    go_quiet (fail)
    go_wp2_with fail
    go_ret
    exact ⟨_, rfl, fun _ => rfl, ((((Ext.refl _).alloc _).alloc _).alloc _).drewN _⟩
  · have HV := Lib.hid hv
    clear hv
    go_enter Try.func57, Try.ntmps57
    go_wp2_with fail
    go_quiet (fail)
    go_wp2_with fail
    go_ret
    exact ⟨_, rfl, fun h => absurd h HV.out, ((((Ext.refl _).alloc _).alloc _).alloc _).drewN _⟩

theorem piecesV_bad (n m tol : Int) (ps : List (Int × Int)) (h : okAll ps = false) : piecesV n tol ps = piecesV m tol ps := by
  unfold piecesV
  simp [h]

def quadSegV (a b c : Int × Int) (tol : Int) : Int × Int := piecesV (sqD a b c) tol [a, b, c]
theorem pts3 {w : World} {g : Nat} {a b c : Int × Int} (h0 : w.cell? ⟨g, 0, none⟩ = some (.int .i64 a.1)) (h1 : w.cell? ⟨g, 1, none⟩ = some (.int .i64 a.2)) (h2 : w.cell? ⟨g, 2, none⟩ = some (.int .i64 b.1))
    (h3 : w.cell? ⟨g, 3, none⟩ = some (.int .i64 b.2)) (h4 : w.cell? ⟨g, 4, none⟩ = some (.int .i64 c.1)) (h5 : w.cell? ⟨g, 5, none⟩ = some (.int .i64 c.2)) : PtsAt w g 0 [a, b, c] := by
  intro i hi
  match i, hi with
  | 0, _ => exact ⟨h0, h1⟩
  | 1, _ => exact ⟨h2, h3⟩
  | 2, _ => exact ⟨h4, h5⟩
def PiecesSays (need tol : Int) (ps : List (Int × Int)) (w : World) (e : Ending) (w' : World) : Prop :=
  e = .returned (.tuple #[.int .i64 (piecesV need tol ps).1, .int .i64 (piecesV need tol ps).2]) ∧ Ext w w'

theorem pieces_len (need tol : Int) (n b off cap : Nat) (ps : List (Int × Int)) (w : World) (hl : ps.length = n) (hn : n ≤ 4096) (hp : PtsAt w b off ps) :
    Calls Try.prog 56 #[.int .i64 need, .int .i64 tol, .slice (some ⟨b, off, none⟩) n cap] w (PiecesSays need tol ps w) := by
  subst hl
  exact pieces_any need tol b off cap ps w hn hp

end Go.Proofs.Ytllpkoinjompcaa

namespace Go.Proofs.Ytllpkoinjompcaa
open Go.RowKit
attribute [local go_sem ↓] Go.wp_at_zero Go.wp_at_succ run_eql_point run_neq_point run_max_ii run_min_ii

theorem quadSeg_any (a b c : Int × Int) (tol : Int) (w : World) :
    Calls Try.prog 28 #[.agg #[.int .i64 a.1, .int .i64 a.2, .int .i64 b.1, .int .i64 b.2, .int .i64 c.1, .int .i64 c.2], .int .i64 tol] w fun e w' =>
      e = .returned (.tuple #[.int .i64 (quadSegV a b c tol).1, .int .i64 (quadSegV a b c tol).2]) ∧ Ext w w' := by
  have g : ∀ w', Ext (w.alloc (.cells #[.int .i64 a.1, .int .i64 a.2, .int .i64 b.1, .int .i64 b.2, .int .i64 c.1, .int .i64 c.2] 67)) w' →
      w'.cell? ⟨w.heap.size, 0, none⟩ = some (.int .i64 a.1) ∧ w'.cell? ⟨w.heap.size, 1, none⟩ = some (.int .i64 a.2) ∧ w'.cell? ⟨w.heap.size, 2, none⟩ = some (.int .i64 b.1) ∧
      w'.cell? ⟨w.heap.size, 3, none⟩ = some (.int .i64 b.2) ∧ w'.cell? ⟨w.heap.size, 4, none⟩ = some (.int .i64 c.1) ∧ w'.cell? ⟨w.heap.size, 5, none⟩ = some (.int .i64 c.2) := fun w' h =>
    ⟨h.get (by simp), h.get (by simp), h.get (by simp), h.get (by simp), h.get (by simp), h.get (by simp)⟩
  have hps : ∀ w', Ext (w.alloc (.cells #[.int .i64 a.1, .int .i64 a.2, .int .i64 b.1, .int .i64 b.2, .int .i64 c.1, .int .i64 c.2] 67)) w' → PtsAt w' w.heap.size 0 [a, b, c] := fun w' h => by
    obtain ⟨h0, h1, h2, h3, h4, h5⟩ := g w' h
    exact pts3 h0 h1 h2 h3 h4 h5
  have HP := Lib.hid hps
  clear hps
  go_enter Try.func28, Try.ntmps28
  go_wp2_with fail
  go_region_held3 (fun w' => Ext (w.alloc (.cells #[.int .i64 a.1, .int .i64 a.2, .int .i64 b.1, .int .i64 b.2, .int .i64 c.1, .int .i64 c.2] 67)) w') (first | assumption | exact Ext.drew (Ext.refl _) | (apply Ext.via; assumption; assumption))
    (first | (go_at_call 57; refine (square_any a b c _).mono ?_; rintro e w' ⟨n, rfl, hn, hb⟩) | (go_at_call 56; refine (pieces_len _ tol 3 w.heap.size 0 3 [a, b, c] _ rfl (by omega) (HP.out _ (by assumption))).mono ?_; rintro e w' ⟨rfl, hb2⟩))
  go_wp2_with fail
  go_ret2
  have hq : quadSegV a b c tol = piecesV n tol [a, b, c] := by
    unfold quadSegV
    by_cases hv : okAll [a, b, c] = true
    · rw [hn hv]
    · exact piecesV_bad _ _ _ _ (by simpa using hv)
  rw [hq]
  exact ⟨rfl, ((Ext.refl _).alloc _).trans ‹_›⟩

end Go.Proofs.Ytllpkoinjompcaa

namespace Go.Proofs.Ytllpkoinjompcaa
open Go.RowKit
attribute [local go_sem ↓] Go.wp_at_zero Go.wp_at_succ run_eql_point run_neq_point run_max_ii run_min_ii

end Go.Proofs.Ytllpkoinjompcaa

namespace Go.Proofs.Ytllpkoinjompcaa
open Go.RowKit
attribute [local go_sem ↓] Go.wp_at_zero Go.wp_at_succ run_eql_point run_neq_point run_max_ii run_min_ii

def nearV (a b : Int) : Int := (2 * a + b) / (2 * b)

theorem quo_floor (x y : Int) (hy : 1 ≤ y) : (0 ≤ x.tmod y → x.tdiv y = x / y) ∧ (x.tmod y < 0 → x.tdiv y - 1 = x / y) ∧ (x.tmod y < 0 → x < 0) ∧ (0 ≤ x → x.tdiv y = x / y ∧ 0 ≤ x.tmod y) := by
  by_cases hx : 0 ≤ x
  · have h1 : x.tdiv y = x / y := Int.tdiv_eq_ediv_of_nonneg hx
    have h2 : 0 ≤ x.tmod y := Int.tmod_nonneg _ hx
    exact ⟨fun _ => h1, fun h => by omega, fun h => by omega, fun _ => ⟨h1, h2⟩⟩
  · have e := Int.mul_tdiv_add_tmod x y
    have e2 := Int.mul_ediv_add_emod x y
    have m0 := Int.emod_nonneg x (b := y) (by omega)
    have m1 := Int.emod_lt_of_pos x (b := y) (by omega)
    have t0 : x.tmod y ≤ 0 := by
      have := Int.tmod_nonneg (a := -x) y (by omega)
      rw [Int.neg_tmod] at this
      omega
    have t1 : -y < x.tmod y := by
      have := Int.tmod_lt_of_pos (-x) (b := y) (by omega)
      rw [Int.neg_tmod] at this
      omega
    refine ⟨fun h => ?_, fun h => ?_, fun _ => by omega, fun h => by omega⟩
    · have h0 : x.tmod y = 0 := by omega
      have hm : y * (x.tdiv y - x / y) = x % y := by rw [Int.mul_sub]; omega
      have : x.tdiv y - x / y = 0 := by
        by_cases hp : 1 ≤ x.tdiv y - x / y
        · have := Int.mul_le_mul_of_nonneg_left hp (show 0 ≤ y by omega); omega
        · by_cases hn : x.tdiv y - x / y ≤ -1
          · have := Int.mul_le_mul_of_nonneg_left hn (show 0 ≤ y by omega); omega
          · omega
      omega
    · have hm : y * (x.tdiv y - x / y) = x % y - x.tmod y := by rw [Int.mul_sub]; omega
      have : x.tdiv y - x / y = 1 := by
        by_cases hp : 2 ≤ x.tdiv y - x / y
        · have := Int.mul_le_mul_of_nonneg_left hp (show 0 ≤ y by omega); omega
        · by_cases hn : x.tdiv y - x / y ≤ 0
          · have := Int.mul_le_mul_of_nonneg_left hn (show 0 ≤ y by omega); omega
          · omega
      omega

theorem tdiv_bound (x y B : Int) (h1 : -B ≤ x) (h2 : x ≤ B) : -B ≤ x.tdiv y ∧ x.tdiv y ≤ B := by
  have := Int.natAbs_tdiv_le_natAbs x y
  omega

theorem near_any (a b : Int) (w : World) (h1 : 1 ≤ b) (h2 : b ≤ 1099511627776) (h3 : -1152921504606846976 ≤ a) (h4 : a ≤ 1152921504606846976) :
    Calls Try.prog 63 #[.int .i64 a, .int .i64 b] w fun e w' => e = .returned (.int .i64 (nearV a b)) ∧ w = w' := by
  have q := quo_floor (2 * a + b) (2 * b) (by omega)
  have bq := tdiv_bound (2 * a + b) (2 * b) 3458764513820540928 (by omega) (by omega)
  have e1 : (2 * a + b).tmod (2 * b) < 0 → nearV a b = (2 * a + b).tdiv (2 * b) - 1 := fun h => (q.2.1 h).symm
  have e2 : 0 ≤ (2 * a + b).tmod (2 * b) → nearV a b = (2 * a + b).tdiv (2 * b) := fun h => (q.1 h).symm
  have E1 := Lib.hid e1
  have E2 := Lib.hid e2
  clear e1 e2 q
  by_cases hr : (2 * a + b).tmod (2 * b) < 0
  · have d0 : ((2 * b) == 0) = false := by simp; omega
    go_enter Try.func63, Try.ntmps63
    go_wp2_with fail
    go_ret
    exact ⟨ret_int (E1.out hr).symm, rfl⟩
  · have d0 : ((2 * b) == 0) = false := by simp; omega
    go_enter Try.func63, Try.ntmps63
    go_wp2_with fail
    go_ret
    exact ⟨ret_int (E2.out (by omega)).symm, rfl⟩

end Go.Proofs.Ytllpkoinjompcaa

namespace Go.Proofs.Ytllpkoinjompcaa
open Go.RowKit
attribute [local go_sem ↓] Go.wp_at_zero Go.wp_at_succ run_eql_point run_neq_point run_max_ii run_min_ii

def parV (i n : Int) : Bool := decide (1 ≤ n) && (decide (n ≤ 64) && (decide (0 ≤ i) && decide (i ≤ n)))

theorem parV_iff (i n : Int) : parV i n = true ↔ 1 ≤ n ∧ n ≤ 64 ∧ 0 ≤ i ∧ i ≤ n := by simp [parV]

def MayB (ps : List (Int × Int)) (i n : Int) : Bool := okAll ps && parV i n

theorem may_any (b off cap : Nat) (ps : List (Int × Int)) (i n : Int) (w : World) (hn : ps.length ≤ 4096) (hp : PtsAt w b off ps) :
    Calls Try.prog 61 #[.slice (some ⟨b, off, none⟩) ps.length cap, .int .i64 i, .int .i64 n] w fun e w' => e = .returned (.bool (MayB ps i n)) ∧ Ext w w' := by
  go_enter Try.func61, Try.ntmps61
  go_wp2_with fail
  go_loopw [11] (fun x wr => ∃ k : Nat, k ≤ ps.length ∧ x = .int .i64 k ∧ okAll (ps.take k) = true ∧ Ext w wr) (fun x _ => ps.length - (intOf x).toNat)
  case atStart => exact ⟨0, Nat.zero_le _, rfl, rfl, Ext.refl _⟩
  case round =>
    obtain ⟨k, hk, rfl, ho, he⟩ := hrel
    have HO := Lib.hid ho
    clear ho
    by_cases hlt : k < ps.length
    · obtain ⟨c0, c1⟩ := hp.ext he k hlt
      go_wp2_with (go_at_call 89; refine (valid_any _ _ _).mono ?_; rintro e w' ⟨rfl, hb⟩)
      · have hf : (!okPt ps[k].1 ps[k].2) = true := by assumption
        go_ret
        exact ⟨ret_bool (by unfold MayB; rw [okAll_stop ps k hlt (by simpa using hf)]; rfl), (he.alloc _).trans ‹_›⟩
      · have hf : (!okPt ps[k].1 ps[k].2) = false := by assumption
        go_roundw
        case rel => exact ⟨k + 1, hlt, by go_num, okAll_step ps k hlt HO.out (by simpa using hf), (he.alloc _).trans ‹_›⟩
        case measure => simp [intOf]; omega
    · have e : MayB ps i n = parV i n := by unfold MayB; rw [okAll_end ps k hk hlt HO.out]; rfl
      have E := Lib.hid e
      clear HO e
      by_cases h1 : 1 ≤ n
      · by_cases h2 : n ≤ 64
        · by_cases h3 : 0 ≤ i
          · go_wp2_with fail
            all_goals go_ret
            all_goals exact ⟨ret_bool (by rw [E.out]; simp [parV, h1, h2, h3]), he⟩
          · go_wp2_with fail
            all_goals go_ret
            all_goals exact ⟨ret_bool (by rw [E.out]; simp [parV] <;> omega), he⟩
        · go_wp2_with fail
          all_goals go_ret
          all_goals exact ⟨ret_bool (by rw [E.out]; simp [parV] <;> omega), he⟩
      · go_wp2_with fail
        all_goals go_ret
        all_goals exact ⟨ret_bool (by rw [E.out]; simp [parV] <;> omega), he⟩

def MaySays (ps : List (Int × Int)) (i n : Int) (w : World) (e : Ending) (w' : World) : Prop := e = .returned (.bool (MayB ps i n)) ∧ Ext w w'

theorem may_len (l b off cap : Nat) (ps : List (Int × Int)) (i n : Int) (w : World) (hl : ps.length = l) (hn : l ≤ 4096) (hp : PtsAt w b off ps) :
    Calls Try.prog 61 #[.slice (some ⟨b, off, none⟩) l cap, .int .i64 i, .int .i64 n] w (MaySays ps i n w) := by
  subst hl
  exact may_any b off cap ps i n w hn hp
end Go.Proofs.Ytllpkoinjompcaa

namespace Go.Proofs.Ytllpkoinjompcaa
open Go.RowKit
attribute [local go_sem ↓] Go.wp_at_zero Go.wp_at_succ run_eql_point run_neq_point run_max_ii run_min_ii

theorem mulB (x y X Y : Int) (h1 : -X ≤ x) (h2 : x ≤ X) (h3 : -Y ≤ y) (h4 : y ≤ Y) : -(X * Y) ≤ x * y ∧ x * y ≤ X * Y := by
  have a := Int.natAbs_mul x y
  have b : x.natAbs * y.natAbs ≤ X.natAbs * Y.natAbs := Nat.mul_le_mul (by omega) (by omega)
  have c : ((X.natAbs * Y.natAbs : Nat) : Int) = X * Y := by
    rw [Int.natCast_mul, Int.natAbs_of_nonneg (by omega), Int.natAbs_of_nonneg (by omega)]
  omega

def qv (i n a b c : Int) : Int := nearV ((n - i) * (n - i) * a + 2 * i * (n - i) * b + i * i * c) (n * n)

theorem sq64 (i : Int) (h0 : 0 ≤ i) (h1 : i ≤ 64) : 0 ≤ i * i ∧ i * i ≤ 4096 := by
  have := mulB i i 64 64 (by omega) h1 (by omega) h1
  exact ⟨Int.mul_nonneg h0 h0, by omega⟩

theorem qbounds (i k n a b c : Int) (hi : 0 ≤ i ∧ i ≤ 64) (hk : 0 ≤ k ∧ k ≤ 64) (hn : 1 ≤ n ∧ n ≤ 64) (ha : -1048576 ≤ a ∧ a ≤ 1048576) (hb : -1048576 ≤ b ∧ b ≤ 1048576) (hc : -1048576 ≤ c ∧ c ≤ 1048576) :
    (0 ≤ k * k ∧ k * k ≤ 4096) ∧ (-4294967296 ≤ k * k * a ∧ k * k * a ≤ 4294967296) ∧ (-8192 ≤ 2 * i * k ∧ 2 * i * k ≤ 8192) ∧ (-8589934592 ≤ 2 * i * k * b ∧ 2 * i * k * b ≤ 8589934592) ∧
    (0 ≤ i * i ∧ i * i ≤ 4096) ∧ (-4294967296 ≤ i * i * c ∧ i * i * c ≤ 4294967296) ∧ (1 ≤ n * n ∧ n * n ≤ 4096) := by
  have s1 := sq64 k hk.1 hk.2
  have s2 := sq64 i hi.1 hi.2
  have s3 := sq64 n (by omega) hn.2
  have m1 := mulB (k * k) a 4096 1048576 (by omega) s1.2 ha.1 ha.2
  have m2 := mulB (2 * i) k 128 64 (by omega) (by omega) (by omega) hk.2
  have m3 := mulB (2 * i * k) b 8192 1048576 (by omega) (by omega) hb.1 hb.2
  have m4 := mulB (i * i) c 4096 1048576 (by omega) s2.2 hc.1 hc.2
  have m5 : 1 * 1 ≤ n * n := Int.mul_le_mul hn.1 hn.1 (by omega) (by omega)
  omega

theorem quadAt1_any (i k n a b c : Int) (pk pi pn : Addr) (w : World) (hi : 0 ≤ i ∧ i ≤ 64) (hk : 0 ≤ k ∧ k ≤ 64) (hn : 1 ≤ n ∧ n ≤ 64) (ha : -1048576 ≤ a ∧ a ≤ 1048576) (hb : -1048576 ≤ b ∧ b ≤ 1048576) (hc : -1048576 ≤ c ∧ c ≤ 1048576)
    (ck : w.cell? pk = some (.int .i64 k)) (ci : w.cell? pi = some (.int .i64 i)) (cn : w.cell? pn = some (.int .i64 n)) :
    Calls Try.prog 62 #[.int .i64 a, .int .i64 b, .int .i64 c, .pointer (some pk), .pointer (some pi), .pointer (some pn)] w fun e w' =>
      e = .returned (.int .i64 (nearV (k * k * a + 2 * i * k * b + i * i * c) (n * n))) ∧ w = w' := by
  have B := qbounds i k n a b c hi hk hn ha hb hc
  clear ha hb hc
  go_enter Try.func62, Try.ntmps62
  go_wp2_with (go_at_call 63; refine (near_any _ _ _ (by omega) (by omega) (by omega) (by omega)).mono ?_; rintro e w' ⟨rfl, rfl⟩)
  go_ret
  exact ⟨rfl, rfl⟩

def quadAtV (a b c : Int × Int) (i n : Int) : Int × Int := if MayB [a, b, c] i n = true then (qv i n a.1 b.1 c.1, qv i n a.2 b.2 c.2) else (0, 0)

theorem quadAt_any (a b c : Int × Int) (i n : Int) (w : World) :
    Calls Try.prog 31 #[.agg #[.int .i64 a.1, .int .i64 a.2, .int .i64 b.1, .int .i64 b.2, .int .i64 c.1, .int .i64 c.2], .int .i64 i, .int .i64 n] w fun e w' =>
      e = .returned (.agg #[.int .i64 (quadAtV a b c i n).1, .int .i64 (quadAtV a b c i n).2]) ∧ Ext w w' := by
  have g : ∀ w', Ext ((((w.alloc (.cells #[.int .i64 a.1, .int .i64 a.2, .int .i64 b.1, .int .i64 b.2, .int .i64 c.1, .int .i64 c.2] 67)).alloc (.cells #[.int .i64 i] 3)).alloc (.cells #[.int .i64 n] 3)).alloc (.cells #[.int .i64 0, .int .i64 0] 33)) w' →
      w'.cell? ⟨w.heap.size, 0, none⟩ = some (.int .i64 a.1) ∧ w'.cell? ⟨w.heap.size, 1, none⟩ = some (.int .i64 a.2) ∧ w'.cell? ⟨w.heap.size, 2, none⟩ = some (.int .i64 b.1) ∧
      w'.cell? ⟨w.heap.size, 3, none⟩ = some (.int .i64 b.2) ∧ w'.cell? ⟨w.heap.size, 4, none⟩ = some (.int .i64 c.1) ∧ w'.cell? ⟨w.heap.size, 5, none⟩ = some (.int .i64 c.2) ∧
      w'.cell? ⟨w.heap.size + 1, 0, none⟩ = some (.int .i64 i) ∧ w'.cell? ⟨w.heap.size + 2, 0, none⟩ = some (.int .i64 n) ∧
      w'.cell? ⟨w.heap.size + 3, 0, none⟩ = some (.int .i64 0) ∧ w'.cell? ⟨w.heap.size + 3, 1, none⟩ = some (.int .i64 0) ∧
      w'.frozen? ⟨w.heap.size + 3, 0, none⟩ = false ∧ w'.frozen? ⟨w.heap.size + 3, 1, none⟩ = false := fun w' h => by
    have e1 : Ext (w.alloc (.cells #[.int .i64 a.1, .int .i64 a.2, .int .i64 b.1, .int .i64 b.2, .int .i64 c.1, .int .i64 c.2] 67)) w' := ((((Ext.refl _).alloc _).alloc _).alloc _).trans h
    have e2 : Ext ((w.alloc (.cells #[.int .i64 a.1, .int .i64 a.2, .int .i64 b.1, .int .i64 b.2, .int .i64 c.1, .int .i64 c.2] 67)).alloc (.cells #[.int .i64 i] 3)) w' := (((Ext.refl _).alloc _).alloc _).trans h
    have e3 : Ext (((w.alloc (.cells #[.int .i64 a.1, .int .i64 a.2, .int .i64 b.1, .int .i64 b.2, .int .i64 c.1, .int .i64 c.2] 67)).alloc (.cells #[.int .i64 i] 3)).alloc (.cells #[.int .i64 n] 3)) w' := ((Ext.refl _).alloc _).trans h
    exact ⟨e1.get (by simp), e1.get (by simp), e1.get (by simp), e1.get (by simp), e1.get (by simp), e1.get (by simp), e2.get (by simp), e3.get (by rw [World.cell?_alloc_at _ _ _ _ (by simp)]; rfl), h.get (by rw [World.cell?_alloc_at _ _ _ _ (by simp)]; rfl), h.get (by rw [World.cell?_alloc_at _ _ _ _ (by simp)]; rfl), (h.frozen (by simp)).trans (World.frozen?_alloc_at _ _ _ _ (by simp)), (h.frozen (by simp)).trans (World.frozen?_alloc_at _ _ _ _ (by simp))⟩
  have HP := Lib.hid (fun w' h => have q := g w' h; pts3 q.1 q.2.1 q.2.2.1 q.2.2.2.1 q.2.2.2.2.1 q.2.2.2.2.2.1)
  by_cases hm : MayB [a, b, c] i n = true
  · have hv : quadAtV a b c i n = (qv i n a.1 b.1 c.1, qv i n a.2 b.2 c.2) := by unfold quadAtV; rw [if_pos hm]
    rw [hv]
    clear hv
    have ho : okAll [a, b, c] = true ∧ parV i n = true := by unfold MayB at hm; simpa using hm
    have bi := (parV_iff i n).1 ho.2
    have hb : ((-1048576 ≤ a.1 ∧ a.1 ≤ 1048576) ∧ -1048576 ≤ a.2 ∧ a.2 ≤ 1048576) ∧ ((-1048576 ≤ b.1 ∧ b.1 ≤ 1048576) ∧ -1048576 ≤ b.2 ∧ b.2 ≤ 1048576) ∧ ((-1048576 ≤ c.1 ∧ c.1 ≤ 1048576) ∧ -1048576 ≤ c.2 ∧ c.2 ≤ 1048576) := by
      simpa [okAll, okPt_iff] using ho.1
    have HB := Lib.hid hb
    clear hb ho
    go_enter Try.func31, Try.ntmps31
    go_wp2_with fail
    go_region_held3 (fun w' => Ext ((((w.alloc (.cells #[.int .i64 a.1, .int .i64 a.2, .int .i64 b.1, .int .i64 b.2, .int .i64 c.1, .int .i64 c.2] 67)).alloc (.cells #[.int .i64 i] 3)).alloc (.cells #[.int .i64 n] 3)).alloc (.cells #[.int .i64 0, .int .i64 0] 33)) w') (first | assumption | exact Ext.drew (Ext.refl _) | (apply Ext.via; assumption; assumption))
      (first | (go_at_call 61; refine (may_len 3 w.heap.size 0 3 [a, b, c] i n _ rfl (by omega) (HP.out _ (by assumption))).mono ?_; rintro e w' ⟨rfl, hb⟩))
    have hne : w.heap.size + 3 < w'.heap.size := by have := Ext.size (by assumption : Ext ((((w.alloc (.cells #[.int .i64 a.1, .int .i64 a.2, .int .i64 b.1, .int .i64 b.2, .int .i64 c.1, .int .i64 c.2] 67)).alloc (.cells #[.int .i64 i] 3)).alloc (.cells #[.int .i64 n] 3)).alloc (.cells #[.int .i64 0, .int .i64 0] 33)) w'); simp at this; omega
    have hne1 : ¬ w'.heap.size = w.heap.size + 3 := by omega
    have hne2 : ¬ w.heap.size + 3 = w'.heap.size := by omega
    go_wp2_with fail
    have gk := g _ (by assumption : Ext ((((w.alloc (.cells #[.int .i64 a.1, .int .i64 a.2, .int .i64 b.1, .int .i64 b.2, .int .i64 c.1, .int .i64 c.2] 67)).alloc (.cells #[.int .i64 i] 3)).alloc (.cells #[.int .i64 n] 3)).alloc (.cells #[.int .i64 0, .int .i64 0] 33)) w')
    have g2 : ∀ x, Own (w.heap.size + 3) w' x → x.cell? ⟨w.heap.size, 0, none⟩ = some (.int .i64 a.1) ∧ x.cell? ⟨w.heap.size, 1, none⟩ = some (.int .i64 a.2) ∧ x.cell? ⟨w.heap.size, 2, none⟩ = some (.int .i64 b.1) ∧
      x.cell? ⟨w.heap.size, 3, none⟩ = some (.int .i64 b.2) ∧ x.cell? ⟨w.heap.size, 4, none⟩ = some (.int .i64 c.1) ∧ x.cell? ⟨w.heap.size, 5, none⟩ = some (.int .i64 c.2) ∧
      x.cell? ⟨w.heap.size + 1, 0, none⟩ = some (.int .i64 i) ∧ x.cell? ⟨w.heap.size + 2, 0, none⟩ = some (.int .i64 n) := fun x h => by
      obtain ⟨k0, k1, k2, k3, k4, k5, k6, k7, _⟩ := gk
      exact ⟨h.get k0 (by simp), h.get k1 (by simp), h.get k2 (by simp), h.get k3 (by simp), h.get k4 (by simp), h.get k5 (by simp), h.get k6 (by simp), h.get k7 (by simp)⟩
    go_region_held3 (fun x => Own (w.heap.size + 3) w' x ∧ x.cell? ⟨w'.heap.size, 0, none⟩ = some (.int .i64 (n - i))) (first | assumption | (refine ⟨?_, ?_⟩ <;> (first | ((repeat (first | exact Own.refl _ _ | apply Own.drew | apply Own.alloc | apply Own.set_at)); done) | (simp; done) | (refine (cell_last _ _ _ _ _ (by simp [World.setCell])).trans rfl))))
      (first | (go_at_call 62; go_split_ands; refine (quadAt1_any i (n - i) n _ _ _ _ _ _ _ (by omega) (by omega) (by omega) ?_ ?_ ?_ (by simp [*]) (by simp [*]) (by simp [*])).mono ?_ <;> (first | (rintro e w' ⟨rfl, rfl⟩) | (have hb := HB.out; omega))))
    go_wp2_with fail
    refine bodyPost_ret (v := .agg #[.int .i64 (qv i n a.1 b.1 c.1), .int .i64 (qv i n a.2 b.2 c.2)]) ?_ rfl ⟨rfl, ?_⟩
    · unfold qv
      simp [results, Try.results31, go_sem, *]
    · refine Ext.drew (Ext.alloc (Ext.setCell (Ext.setCell ?_ (by simp; omega) _) (by simp; omega) _) _)
      exact ((Ext.refl w).alloc _ |>.alloc _ |>.alloc _ |>.alloc _ |>.drew).trans hb
  · have hv : quadAtV a b c i n = (0, 0) := by unfold quadAtV; rw [if_neg hm]
    rw [hv]
    clear hv
    have hmf : MayB [a, b, c] i n = false := by simpa using hm
    clear hm
    go_enter Try.func31, Try.ntmps31
    go_wp2_with fail
    go_region_held3 (fun w' => Ext ((((w.alloc (.cells #[.int .i64 a.1, .int .i64 a.2, .int .i64 b.1, .int .i64 b.2, .int .i64 c.1, .int .i64 c.2] 67)).alloc (.cells #[.int .i64 i] 3)).alloc (.cells #[.int .i64 n] 3)).alloc (.cells #[.int .i64 0, .int .i64 0] 33)) w') (first | assumption | exact Ext.drew (Ext.refl _) | (apply Ext.via; assumption; assumption))
      (first | (go_at_call 61; refine (may_len 3 w.heap.size 0 3 [a, b, c] i n _ rfl (by omega) (HP.out _ (by assumption))).mono ?_; rintro e w' ⟨rfl, hb⟩))
    go_wp2_with fail
    refine bodyPost_ret (v := .agg #[.int .i64 0, .int .i64 0]) ?_ rfl ⟨rfl, ?_⟩
    · simp [results, Try.results31, go_sem, *]
    · exact ((Ext.refl w).alloc _ |>.alloc _ |>.alloc _ |>.alloc _ |>.trans (by assumption)).setCell (by simp; omega) _ |>.setCell (by simp; omega) _
end Go.Proofs.Ytllpkoinjompcaa

namespace Go.Proofs.Ytllpkoinjompcaa
open Go.RowKit
attribute [local go_sem ↓] Go.wp_at_zero Go.wp_at_succ run_eql_point run_neq_point run_max_ii run_min_ii

def cv (i n a b c d : Int) : Int := nearV ((n - i) * (n - i) * (n - i) * a + 3 * i * (n - i) * (n - i) * b + 3 * i * i * (n - i) * c + i * i * i * d) (n * n * n)

end Go.Proofs.Ytllpkoinjompcaa

namespace Go.Proofs.Ytllpkoinjompcaa
open Go.RowKit
attribute [local go_sem ↓] Go.wp_at_zero Go.wp_at_succ run_eql_point run_neq_point run_max_ii run_min_ii

end Go.Proofs.Ytllpkoinjompcaa

namespace Go.Proofs.Ytllpkoinjompcaa
open Go.RowKit
attribute [local go_sem ↓] Go.wp_at_zero Go.wp_at_succ run_eql_point run_neq_point run_max_ii run_min_ii

theorem quad1_any (a b c : Int × Int) (i n : Int) (bp bn : Nat) (w : World) (h0 : w.cell? ⟨bp, 0, none⟩ = some (.int .i64 a.1)) (h1 : w.cell? ⟨bp, 1, none⟩ = some (.int .i64 a.2)) (h2 : w.cell? ⟨bp, 2, none⟩ = some (.int .i64 b.1))
    (h3 : w.cell? ⟨bp, 3, none⟩ = some (.int .i64 b.2)) (h4 : w.cell? ⟨bp, 4, none⟩ = some (.int .i64 c.1)) (h5 : w.cell? ⟨bp, 5, none⟩ = some (.int .i64 c.2)) (hn : w.cell? ⟨bn, 0, none⟩ = some (.int .i64 n)) :
    Calls Try.prog 60 #[.int .i64 i, .pointer (some ⟨bp, 0, none⟩), .pointer (some ⟨bn, 0, none⟩)] w fun e w' =>
      e = .returned (.agg #[.int .i64 (quadAtV a b c i n).1, .int .i64 (quadAtV a b c i n).2]) ∧ Ext w w' := by
  have g : ∀ w', Ext (w.alloc (.cells #[.int .i64 0, .int .i64 0] 33)) w' → w'.cell? ⟨w.heap.size, 0, none⟩ = some (.int .i64 0) ∧ w'.cell? ⟨w.heap.size, 1, none⟩ = some (.int .i64 0) ∧ w'.frozen? ⟨w.heap.size, 0, none⟩ = false ∧ w'.frozen? ⟨w.heap.size, 1, none⟩ = false := fun w' h =>
    ⟨h.get (by simp), h.get (by simp), (h.frozen (by simp)).trans (World.frozen?_alloc_at _ _ _ _ (by simp)), (h.frozen (by simp)).trans (World.frozen?_alloc_at _ _ _ _ (by simp))⟩
  have HG := Lib.hid g
  have q : ∀ p v, w.cell? p = some v → (w.alloc (.cells #[.int .i64 0, .int .i64 0] 33)).cell? p = some v := fun p v h => ((Ext.refl w).alloc _).get h
  have q0 := q _ _ h0
  have q1 := q _ _ h1
  have q2 := q _ _ h2
  have q3 := q _ _ h3
  have q4 := q _ _ h4
  have q5 := q _ _ h5
  have q6 := q _ _ hn
  clear g q
  go_enter Try.func60, Try.ntmps60
  go_wp2_with (first | (go_at_call 31; refine (quadAt_any a b c _ _ _).mono ?_; rintro e w' ⟨rfl, hb⟩; have gk := HG.out _ hb))
  refine bodyPost_ret (v := .agg #[.int .i64 (quadAtV a b c i n).1, .int .i64 (quadAtV a b c i n).2]) ?_ rfl ⟨rfl, ?_⟩
  · simp [results, Try.results60, go_sem, *]
  · exact Ext.setCell (Ext.setCell (((Ext.refl _).alloc _).trans (by assumption)) (by simp) _) (by simp) _
end Go.Proofs.Ytllpkoinjompcaa

namespace Go.Proofs.Ytllpkoinjompcaa
open Go.RowKit Go.Shelf
attribute [local go_sem] Oper.semAt_some

def ptVal (x : Int × Int) : Value := .agg #[.int .i64 x.1, .int .i64 x.2]

def upTo (f : Int → Int × Int) (n : Nat) : List (Int × Int) := (List.range n).map fun k : Nat => f ((k : Int) + 1)
theorem upTo_length (f : Int → Int × Int) (n : Nat) : (upTo f n).length = n := by simp [upTo]
theorem upTo_succ (f : Int → Int × Int) (n : Nat) : upTo f (n + 1) = upTo f n ++ [f ((n : Int) + 1)] := by simp [upTo, List.range_succ]
theorem upTo_prefix (f : Int → Int × Int) (k n : Nat) (h : k ≤ n) : upTo f k <+: upTo f n := by
  unfold upTo
  obtain ⟨d, rfl⟩ := Nat.exists_eq_add_of_le h
  rw [List.range_add, List.map_append]
  exact List.prefix_append _ _

theorem grown_of_ext {A B : World} (h : Ext A B) : A.grownBy B none := ⟨h.os, h.tape, h.output, h.size, fun i hi _ => h.block i hi⟩

set_option maxRecDepth 100000 in
set_option maxHeartbeats 1000000 in
theorem stepsQ_in (F : Fence) (m : Nat) (hF : F.fn 90) (hF2 : F.fn 60) (hro : F.round = none) (hm : 1 ≤ m) (n : Nat) (hn : n ≤ 64) (f : Int → Int × Int) (bn ba n₀ : Nat) (p q : Addr) (l : Nat) (J Jx : List (Int × Int) → World → Prop) (w : World) (hbn : bn < n₀) (hba : ba < n₀)
    (cn : w.cell? ⟨bn, 0, none⟩ = some (.int .i64 n)) (ca : w.cell? ⟨ba, 0, none⟩ = some (.func (.func 60) #[] #[.pointer (some p), .pointer (some q)]))
    (hat : ∀ (i : Int) (W : World), Below n₀ w W → CallsIn F (m - 1) Try.prog 60 #[.int .i64 i, .pointer (some p), .pointer (some q)] W (fun e W' => e = .returned (ptVal (f i)) ∧ Ext W W'))
    (hJ : ∀ s A B, J s A → Ext A B → J s B) (hn₀ : n₀ ≤ w.heap.size)
    (hY : ∀ pre x W, J pre W → pre.length < n → YieldAt F (m - 1) Try.prog l #[ptVal x] W fun e W' =>
      (e = .returned (.bool true) ∧ J (pre ++ [x]) W' ∧ Below n₀ W W') ∨ (e = .returned (.bool false) ∧ Jx (pre ++ [x]) W')) (h0 : J [] w) :
    CallsIn F m Try.prog 90 #[.func (.yield l) #[] #[], .pointer (some ⟨bn, 0, none⟩), .pointer (some ⟨ba, 0, none⟩)] w fun e W' => (∃ v, e = .returned v) ∧
      ((∃ ys, ys = upTo f n ∧ J ys W') ∨ (∃ pre, pre <+: upTo f n ∧ Jx pre W')) := by
  refine callsIn_of_wp Try.func90 rfl hF ?_ hro
  simp only [Try.ntmps90, List.size_toArray, List.length_cons, List.length_nil, Nat.reduceAdd, Nat.reduceSub, Array.replicate_succ, Array.replicate_zero, List.push_toArray, List.append_toArray, List.nil_append, List.cons_append]
  gi_wp2
  gi_loopw [4] (fun i wr => ∃ k : Nat, k ≤ n ∧ i = .int .i64 ((k : Int) + 1) ∧ Below n₀ w wr ∧ J (upTo f k) wr) (fun i _ => n + 1 - (intOf i).toNat)
  case atStart => exact ⟨0, Nat.zero_le _, rfl, Below.refl _ _, h0⟩
  case round =>
    obtain ⟨k, hk, rfl, hb, hj⟩ := hrel
    have c1 := (hb.cell (p := ⟨bn, 0, none⟩) hbn).trans cn
    have c2 := (hb.cell (p := ⟨ba, 0, none⟩) hba).trans ca
    by_cases hlt : k < n
    · gi_wp2_with (gi_at_call 60; refine (hat _ _ hb).mono ?_; rintro e W1 ⟨rfl, hx⟩; obtain ⟨fn, tmps, assign, body, hy, hR⟩ := hY _ (f ((k : Int) + 1)) W1 (hJ _ _ _ hj hx) (by rw [upTo_length]; exact hlt))
      gi_wp2
      refine hR.mono ?_
      rintro e W3 (⟨rfl, hJ3, hk3⟩ | ⟨rfl, hJx3⟩)
      · gi_wp2
        go_roundw
        case rel => exact ⟨k + 1, hlt, by go_num, ((hb.trans (hx.below.mono (Nat.le_trans hn₀ hb.size))).trans hk3), by rw [upTo_succ]; exact hJ3⟩
        case measure => simp [intOf]; omega
      · gi_wp2
        refine bodyPost_ret (results_none rfl _ _ _) rfl ?_
        exact ⟨⟨_, rfl⟩, .inr ⟨_, by rw [← upTo_succ]; exact upTo_prefix f _ _ hlt, hJx3⟩⟩
    · gi_wp2
      go_end0
      have e : k = n := by omega
      subst e
      exact ⟨⟨_, rfl⟩, .inl ⟨_, rfl, hj⟩⟩

end Go.Proofs.Ytllpkoinjompcaa

namespace Go.Proofs.Ytllpkoinjompcaa
open Go.RowKit Go.Shelf
attribute [local go_sem] Oper.semAt_some

theorem infoPt : (Try.prog.info? 33).map (fun i => (i.zero, i.size, i.bytes)) = some (some (.agg #[.int .i64 0, .int .i64 0]), 2, 16) := by kernel_rfl

def ptCells (xs : List (Int × Int)) : List Value := xs.flatMap fun x => [Value.int .i64 x.1, Value.int .i64 x.2]
theorem ptCells_snoc (xs : List (Int × Int)) (x : Int × Int) : ptCells (xs ++ [x]) = ptCells xs ++ [Value.int .i64 x.1, Value.int .i64 x.2] := by simp [ptCells]
theorem ptCells_length (xs : List (Int × Int)) : (ptCells xs).length = xs.length * 2 := by
  induction xs with
  | nil => rfl
  | cons x xs ih => simp only [ptCells, List.flatMap_cons, List.length_append, List.length_cons, List.length_nil] at ih ⊢; omega

theorem two_new (w : World) (a b : Value) (t : TypeId) : ∀ (j : Nat) (u : Value), [a, b][j]? = some u → (w.alloc (.cells #[a, b] t)).cell? ((⟨w.heap.size, 0, none⟩ : Addr).add j) = some u := by
  intro j u hj
  match j, hj with
  | 0, hj => simp at hj; subst hj; simp [Addr.add]
  | 1, hj => simp at hj; subst hj; simp [Addr.add]

set_option maxRecDepth 100000 in
set_option maxHeartbeats 2000000 in
theorem all_in (F : Fence) (m : Nat) (hF : F.fn 58) (hF2 : F.fn 90) (hro : F.round = none) (hm : 3 ≤ m) (lb : Array Value) (xs : List (Int × Int)) (hlen : xs.length ≤ 64) (w : World)
    (hseq : ∀ W, Ext w W → SeqStopsK F (m - 1) Try.prog 90 lb (fun x : Int × Int => #[ptVal x]) (Below w.heap.size) (fun ys => ys = xs) (fun pre => pre <+: xs) xs.length W) :
    CallsIn F m Try.prog 58 #[.func (.func 90) #[] lb] w fun e W' => ∃ v, e = .returned v ∧ W'.ownsRow w.heap.size 33 2 v xs.length (ptCells xs) ∧ (v = .slice none 0 0 ↔ xs = []) ∧ Ext w W' := by
  have h1 : 1 ≤ m := by omega
  obtain ⟨i0, hi, hz0, hz1, hz2⟩ := info_parts infoPt
  refine callsIn_of_wp_marks Try.func58 rfl hF ?_ hro
  simp only [Try.ntmps58, List.size_toArray, List.length_cons, List.length_nil, Nat.reduceAdd, Nat.reduceSub, Array.replicate_succ, Array.replicate_zero, List.push_toArray, List.append_toArray, List.nil_append, List.cons_append]
  gi_wp2
  have bO := Boxed.new w 29 (.slice none 0 0)
  have hB0 : Below w.heap.size w (w.alloc (.cells #[.slice none 0 0] 29)) := (Below.refl _ w).alloc (Nat.le_refl _) _
  have hq := hseq _ hB0
  refine wpIn_rangeFunc_ownH hro h1 (gf := 90) (lb := lb) rfl hF2 (enters_of Try.func90 (by kernel_rfl) rfl)
    hq belowK_t (belowK_b (by simp)) (Below.refl _ _) (fun _ => rfl)
    (fun pre W => (∃ v, Boxed W w.heap.size 29 v ∧ W.ownsRow w.heap.size 33 2 v pre.length (ptCells pre) ∧ (v = .slice none 0 0 ↔ pre = [])) ∧ Below w.heap.size w W)
    (fun _ _ _ => False)
    (OwnFrom.and (Own.from (holdsRow_own w.heap.size w.heap.size 29 33 2 (fun pre => pre.length) (fun pre => ptCells pre) (fun pre v => v = .slice none 0 0 ↔ pre = [])) _) (ownFrom_below (Nat.le_refl _) (by simp)))
    (fun _ _ _ _ _ hs _ _ => hs)
    ⟨⟨_, bO, World.ownsRow_nil _ _ _ _, by simp⟩, hB0⟩
    (fun x a' W => ∃ Bx, w.heap.size < Bx ∧ W.heap[Bx]? = some (.cells #[.int .i64 x.1, .int .i64 x.2] 33 (0, 0)) ∧ a' = { tmps := #[.func (.func 90) #[] lb, undef, .slice none 0 0, .pointer (some ⟨w.heap.size, 0, none⟩), .pointer (some ⟨Bx, 0, none⟩), .func (.func 90) #[] lb, ptVal x, undef, undef, undef, undef, undef], defers := [] })
    (fun x a' _ X Y row hs hg hr => by
      obtain ⟨Bx, h1, h2, h3⟩ := hs
      refine ⟨Bx, h1, ?_, h3⟩
      exact (hg.block Bx (Array.getElem?_eq_some_iff.1 h2).1 (fun e => by obtain ⟨_, o, ho, hc⟩ := hr Bx e.symm; rw [h2] at ho; cases ho; cases hc)).trans h2)
    ?assign ?body ?done ?stop
  case assign =>
    rintro l pre x W K ⟨⟨v, hv, hrow, hnil⟩, hB⟩ hK
    unfold ptVal at hK ⊢
    gi_wp2
    exact hK _ _ ((KeepsOthers.alloc _ _).from _) ((Below.refl _ W).alloc hB.size _) ⟨⟨v, hv.alloc _, hrow.alloc _, hnil⟩, hB.alloc hB.size _⟩ ⟨W.heap.size, hv.lt, Blk.new W _ _, rfl⟩
  case body =>
    rintro l pre x a' W hl _ ⟨⟨v, hv, hrow, hnil⟩, hB⟩ ⟨Bx, hBx, hX, rfl⟩ hlt
    have hc := hv.cell
    have x0 : W.cell? ⟨Bx, 0, none⟩ = some (.int .i64 x.1) := cell_of_row W Bx 0 _ _ (0, 0) hX
    have x1 : W.cell? ⟨Bx, 1, none⟩ = some (.int .i64 x.2) := cell_of_row W Bx 1 _ _ (0, 0) hX
    have hln := ptCells_length pre
    have HL := Lib.hid hln
    clear hln
    gi_wp2_with (gi_at_builtin; refine wpListIn_append_own _ rfl _ _ 29 rfl w.heap.size 33 i0 (.agg #[.int .i64 0, .int .i64 0]) 2 16 Try.underlying29 hi hz0 hz1 hz2 rfl (by decide) _ _ _ rfl (hrow.alloc _) ⟨W.heap.size, 0, none⟩ 1 1 [.int .i64 x.1, .int .i64 x.2] rfl rfl (two_new _ _ _ _) (by simp [Value.oneCell']) (by unfold maxLen; omega) (by omega) (by have := hB.size; simp; omega) ?_; intro v' w1 hown' hgrow _; obtain ⟨g', cap', rfl⟩ := ownsRow_succ hown'; obtain ⟨hv1, hv2, hr2, hk2, hb2⟩ := hv.appended (by decide) hrow hB.size (Nat.le_refl _) hown' hgrow; have hc1 := hv1.cell; have hf1 := hv1.frozen)
    exact ⟨hk2.from _, hb2, ⟨_, hv2, by rw [ptCells_snoc]; simpa using hr2, by simp⟩, hB.trans hb2⟩
  case done =>
    rintro D ys W hD rfl ⟨⟨v, hv, hrow, hnil⟩, hB⟩ hK
    have hc := hv.cell
    gi_wp2
    refine ⟨by simp, .inl ⟨_, _, rfl, run_takeDeferred hK, ?_⟩⟩
    exact ⟨_, results_tmp rfl _ _ _, v, rfl, ownsRow_putObj hrow _ hK rfl, hnil, hB.trans (belowK_b (w := w) (Nat.le_refl _) W D _ _ (by simp at hD; omega) hK rfl rfl)⟩
  case stop =>
    rintro D c pre W _ _ h _
    exact h.elim
end Go.Proofs.Ytllpkoinjompcaa

namespace Go.Proofs.Ytllpkoinjompcaa
open Go.RowKit Go.Shelf
attribute [local go_sem ↓] Go.wp_at_zero Go.wp_at_succ run_eql_point run_neq_point run_max_ii run_min_ii

theorem steps_any (n : Int) (fn : Fn) (first cap : Array Value) (w : World) :
    Calls Try.prog 59 #[.int .i64 n, .func fn first cap] w fun e w' =>
      e = .returned (.func (.func 90) #[] #[.pointer (some ⟨w.heap.size, 0, none⟩), .pointer (some ⟨w.heap.size + 1, 0, none⟩)]) ∧
      (w.alloc (.cells #[.int .i64 n] 3)).alloc (.cells #[.func fn first cap] 102) = w' := by
  go_enter Try.func59, Try.ntmps59
  go_wp2_with fail
  go_ret
  exact ⟨rfl, rfl⟩

theorem least_range (need tol : Int) (k f j : Nat) (h : least need tol k f = some j) : k ≤ j ∧ j < k + f := by
  induction f generalizing k with
  | zero => cases h
  | succ f ih =>
    rw [least] at h
    split at h
    · injection h with h; omega
    · have := ih (k + 1) h; omega

theorem piecesV_range (need tol : Int) (ps : List (Int × Int)) (h : (piecesV need tol ps).2 = 0) : ∃ k : Nat, (piecesV need tol ps).1 = (k : Int) ∧ 1 ≤ k ∧ k ≤ 64 := by
  unfold piecesV at h ⊢
  split at h
  · cases h
  · split at h
    · cases h
    · rename_i h1 h2
      rw [if_neg h1, if_neg h2]
      split at h
      · rename_i k hk
        have := least_range _ _ _ _ _ hk
        exact ⟨k, rfl, by omega, by omega⟩
      · cases h

def quadPts (a b c : Int × Int) (tol : Int) : List (Int × Int) :=
  if (quadSegV a b c tol).2 = 0 then upTo (fun i => quadAtV a b c i (quadSegV a b c tol).1) (quadSegV a b c tol).1.toNat else []

def OwnsPts (w w' : World) (v : Value) (ps : List (Int × Int)) : Prop := w'.ownsRow w.heap.size 33 2 v ps.length (ptCells ps) ∧ (ps = [] → v = .slice none 0 0)

def CurveSays (pts : List (Int × Int)) (er : Int) (w : World) (e : Ending) (w' : World) : Prop :=
  ∃ v, e = .returned (.tuple #[v, .int .i64 er]) ∧ OwnsPts w w' v pts ∧ Ext w w'

def Box6 (w : World) (g : Nat) (a b c : Int × Int) : Prop :=
  w.cell? ⟨g, 0, none⟩ = some (.int .i64 a.1) ∧ w.cell? ⟨g, 1, none⟩ = some (.int .i64 a.2) ∧ w.cell? ⟨g, 2, none⟩ = some (.int .i64 b.1) ∧
  w.cell? ⟨g, 3, none⟩ = some (.int .i64 b.2) ∧ w.cell? ⟨g, 4, none⟩ = some (.int .i64 c.1) ∧ w.cell? ⟨g, 5, none⟩ = some (.int .i64 c.2)
theorem Box6.ext {w w' : World} {g : Nat} {a b c : Int × Int} (h : Box6 w g a b c) (e : Ext w w') : Box6 w' g a b c :=
  ⟨e.get h.1, e.get h.2.1, e.get h.2.2.1, e.get h.2.2.2.1, e.get h.2.2.2.2.1, e.get h.2.2.2.2.2⟩

theorem collectQ (a b c : Int × Int) (n : Nat) (hn2 : n ≤ 64) (bp bq bn ba : Nat) (w : World) (hp : Box6 w bp a b c) (hq : w.cell? ⟨bq, 0, none⟩ = some (.int .i64 n)) (cn : w.cell? ⟨bn, 0, none⟩ = some (.int .i64 n))
    (ca : w.cell? ⟨ba, 0, none⟩ = some (.func (.func 60) #[] #[.pointer (some ⟨bp, 0, none⟩), .pointer (some ⟨bq, 0, none⟩)])) :
    Calls Try.prog 58 #[.func (.func 90) #[] #[.pointer (some ⟨bn, 0, none⟩), .pointer (some ⟨ba, 0, none⟩)]] w fun e w' =>
      ∃ v, e = .returned v ∧ OwnsPts w w' v (upTo (fun i => quadAtV a b c i n) n) ∧ Ext w w' := by
  refine (callsIn_wide (n := 3)).1 ((all_in Fence.wide 3 trivial trivial rfl (by omega) _ (upTo (fun i => quadAtV a b c i n) n) (by rw [upTo_length]; exact hn2) w ?_).mono ?_)
  · intro W hW l J Jx W1 hW1 hJ _ hY h0
    have e1 : Ext w W1 := hW.trans hW1
    refine stepsQ_in Fence.wide 2 trivial trivial rfl (by omega) n hn2 (fun i => quadAtV a b c i n) bn ba w.heap.size ⟨bp, 0, none⟩ ⟨bq, 0, none⟩ l J Jx W1
      (World.block_lt_of_cell? w _ cn) (World.block_lt_of_cell? w _ ca) (e1.get cn) (e1.get ca) ?_ (fun s A B hj he => hJ s A B none hj (grown_of_ext he) (fun r e => by cases e)) e1.size ?_ h0
    · intro i W2 hb
      have e2 : Ext w W2 := (e1.below).trans hb
      obtain ⟨p0, p1, p2, p3, p4, p5⟩ := hp.ext e2
      exact callsIn_wide.2 (quad1_any a b c i n bp bq W2 p0 p1 p2 p3 p4 p5 (e2.get hq))
    · intro pre x W2 hj hlt
      exact hY pre x W2 hj (by rw [upTo_length]; exact hlt)
  · rintro e W' ⟨v, rfl, ho, hnil, hx⟩
    exact ⟨v, rfl, ⟨ho, hnil.2⟩, hx⟩

theorem OwnsPts.more {w w0 w' : World} {v : Value} {ps : List (Int × Int)} (h : OwnsPts w w' v ps) (hs : w0.heap.size ≤ w.heap.size) : OwnsPts w0 w' v ps := by
  refine ⟨?_, h.2⟩
  obtain ⟨h1, h2⟩ := h.1
  refine ⟨h1, ?_⟩
  rcases h2 with h2 | ⟨g, cap, cur, hv, hg, r⟩
  · exact Or.inl h2
  · exact Or.inr ⟨g, cap, cur, hv, by omega, r⟩

set_option maxHeartbeats 800000 in
theorem quad_any (a b c : Int × Int) (tol : Int) (w : World) :
    Calls Try.prog 29 #[.agg #[.int .i64 a.1, .int .i64 a.2, .int .i64 b.1, .int .i64 b.2, .int .i64 c.1, .int .i64 c.2], .int .i64 tol] w (CurveSays (quadPts a b c tol) (quadSegV a b c tol).2 w) := by
  have g : ∀ w', Ext (w.alloc (.cells #[.int .i64 a.1, .int .i64 a.2, .int .i64 b.1, .int .i64 b.2, .int .i64 c.1, .int .i64 c.2] 67)) w' →
      w'.cell? ⟨w.heap.size, 0, none⟩ = some (.int .i64 a.1) ∧ w'.cell? ⟨w.heap.size, 1, none⟩ = some (.int .i64 a.2) ∧ w'.cell? ⟨w.heap.size, 2, none⟩ = some (.int .i64 b.1) ∧
      w'.cell? ⟨w.heap.size, 3, none⟩ = some (.int .i64 b.2) ∧ w'.cell? ⟨w.heap.size, 4, none⟩ = some (.int .i64 c.1) ∧ w'.cell? ⟨w.heap.size, 5, none⟩ = some (.int .i64 c.2) := fun w' h =>
    ⟨h.get (by simp), h.get (by simp), h.get (by simp), h.get (by simp), h.get (by simp), h.get (by simp)⟩
  have HG := Lib.hid g
  clear g
  by_cases he : (quadSegV a b c tol).2 = 0
  · obtain ⟨n, hn, hn1, hn2⟩ := piecesV_range (sqD a b c) tol [a, b, c] he
    have hp : quadPts a b c tol = upTo (fun i => quadAtV a b c i n) n := by
      unfold quadPts
      rw [if_pos he, show (quadSegV a b c tol).1 = (n : Int) from hn, Int.toNat_natCast]
    rw [hp]
    have HN := Lib.hid (show quadSegV a b c tol = ((n : Int), 0) from Prod.ext hn he)
    clear hn hp he
    rw [HN.out]
    go_enter Try.func29, Try.ntmps29
    go_wp2_with (first | (go_at_call 28; refine (quadSeg_any a b c _ _).mono ?_; rw [HN.out]; rintro e w' ⟨rfl, hb⟩) | (go_at_call 59; refine (steps_any _ _ _ _ _).mono ?_; rintro e w1 ⟨rfl, rfl⟩))
    refine (collectQ a b c n hn2 w.heap.size w'.heap.size (w'.heap.size + 1) (w'.heap.size + 1 + 1) _ (Box6.ext (HG.out w' hb) ((((Ext.refl w').alloc _).alloc _).alloc _))
      ((((Ext.refl (w'.alloc _)).alloc _).alloc _).get (by simp)) (((Ext.refl ((w'.alloc _).alloc _)).alloc _).get (by simp)) ((cell_last _ _ _ _ _ (by simp)).trans rfl)).mono ?_
    rintro e w2 ⟨v, rfl, ho, hx⟩
    have hs := hb.size
    go_wp2_with fail
    go_ret2
    exact ⟨v, rfl, ho.more (by simp at hs ⊢; omega), ((((((Ext.refl w).alloc _).trans hb).alloc _).alloc _).alloc _).trans hx⟩
  · have hp : quadPts a b c tol = [] := by unfold quadPts; rw [if_neg he]
    rw [hp]
    have hne : ((quadSegV a b c tol).2 != 0) = true := by simpa using he
    have hne2 : ((quadSegV a b c tol).2 == 0) = false := by simpa using he
    clear he hp
    go_enter Try.func29, Try.ntmps29
    go_wp2_with (first | (go_at_call 28; refine (quadSeg_any a b c _ _).mono ?_; rintro e w' ⟨rfl, hb⟩))
    go_ret2
    exact ⟨_, rfl, ⟨World.ownsRow_nil _ _ _ _, fun _ => rfl⟩, (((Ext.refl _).alloc _).trans ‹_›).alloc _⟩
end Go.Proofs.Ytllpkoinjompcaa

namespace Go.Proofs.Ytllpkoinjompcaa
open Go.RowKit
attribute [local go_sem ↓] Go.wp_at_zero Go.wp_at_succ run_eql_point run_neq_point run_max_ii run_min_ii

def PtsV (w : World) (v : Value) (ps : List (Int × Int)) : Prop :=
  ∃ (A : Option Addr) (cap : Nat), v = .slice A ps.length cap ∧ (ps ≠ [] → ∃ g off, A = some ⟨g, off, none⟩ ∧ PtsAt w g off ps)

theorem PtsV.ext {w w' : World} {v : Value} {ps : List (Int × Int)} (h : PtsV w v ps) (e : Ext w w') : PtsV w' v ps := by
  obtain ⟨A, cap, hv, ha⟩ := h
  exact ⟨A, cap, hv, fun hn => by obtain ⟨g, off, hA, hp⟩ := ha hn; exact ⟨g, off, hA, hp.ext e⟩⟩

theorem ptCells_get (ps : List (Int × Int)) (i : Nat) (hi : i < ps.length) : (ptCells ps)[i * 2]? = some (.int .i64 (ps.getD i (0, 0)).1) ∧ (ptCells ps)[i * 2 + 1]? = some (.int .i64 (ps.getD i (0, 0)).2) := by
  induction ps generalizing i with
  | nil => simp at hi
  | cons x xs ih =>
    cases i with
    | zero => simp [ptCells]
    | succ i =>
      have := ih i (by simpa using hi)
      have e : ptCells (x :: xs) = Value.int .i64 x.1 :: Value.int .i64 x.2 :: ptCells xs := by simp [ptCells]
      rw [e, show (i + 1) * 2 = i * 2 + 1 + 1 by omega, show i * 2 + 1 + 1 + 1 = (i * 2 + 1) + 1 + 1 by omega]
      simpa using this

theorem add_off (g j : Nat) : (⟨g, 0, none⟩ : Addr).add j = ⟨g, j, none⟩ := by
  unfold Addr.add
  by_cases h : j = 0
  · simp [h]
  · simp [h]

theorem OwnsPts.read {w w' : World} {v : Value} {ps : List (Int × Int)} (h : OwnsPts w w' v ps) : PtsV w' v ps := by
  rcases h.1.2 with ⟨rfl, hx⟩ | ⟨g, cap, cur, rfl, hg, hh, hc⟩
  · have : ps = [] := by
      have := ptCells_length ps
      exact List.eq_nil_of_length_eq_zero (by first | omega | (rw [hx] at this; simp at this; omega))
    subst this
    exact ⟨none, 0, rfl, fun hn => absurd rfl hn⟩
  · refine ⟨_, cap, rfl, fun _ => ⟨g, 0, rfl, fun i hi => ?_⟩⟩
    have q := ptCells_get ps i hi
    have c := World.ownsRow.cells h.1 (g := g) rfl
    have c0 := c _ _ q.1
    have c1 := c _ _ q.2
    rw [add_off] at c0 c1
    exact ⟨by rw [Nat.zero_add]; exact c0, by rw [Nat.zero_add]; exact c1⟩

theorem take_eq_succ (ps qs : List (Int × Int)) (k : Nat) (h : k < ps.length) (h' : k < qs.length) (ht : ps.take k = qs.take k) (he : ps.getD k (0, 0) = qs.getD k (0, 0)) : ps.take (k + 1) = qs.take (k + 1) := by
  rw [List.take_succ_eq_append_getElem h, List.take_succ_eq_append_getElem h', ht]
  simp [List.getD, h, h'] at he
  rw [he]

theorem samePts_any (u v : Value) (ps qs : List (Int × Int)) (w : World) (hu : PtsV w u ps) (hv : PtsV w v qs) (h1 : ps.length ≤ 100000) (h2 : qs.length ≤ 100000) :
    Calls Try.prog 30 #[u, v] w fun e w' => e = .returned (.bool (decide (ps = qs))) ∧ Ext w w' := by
  obtain ⟨A, ca, rfl, hA⟩ := hu
  obtain ⟨B, cb, rfl, hB⟩ := hv
  by_cases hl : ps.length = qs.length
  · have hne : ((ps.length : Int) != (qs.length : Int)) = false := by simp [hl]
    have hne2 : ((ps.length : Int) == (qs.length : Int)) = true := by simp [hl]
    have HL := Lib.hid hl
    clear hl
    by_cases h0 : ps.length = 0
    · have e0 : ps = [] := List.eq_nil_of_length_eq_zero h0
      have e1 : qs = [] := List.eq_nil_of_length_eq_zero (by rw [← HL.out]; exact h0)
      subst e0 e1
      clear h0
      go_enter Try.func30, Try.ntmps30
      go_wp2_with fail
      refine wp_loop_rounds 1 ?_
      rw [rounds_succ]
      go_wp2_with fail
      go_ret
      exact ⟨ret_bool (by simp), Ext.refl _⟩
    · obtain ⟨g, o, rfl, hp⟩ := hA (by rintro rfl; exact h0 rfl)
      obtain ⟨g', o', rfl, hp'⟩ := hB (by rintro rfl; exact h0 HL.out)
      clear hA hB h0
      go_enter Try.func30, Try.ntmps30
      go_wp2_with fail
      go_loopw [5] (fun i wr => ∃ k : Nat, k ≤ ps.length ∧ i = .int .i64 k ∧ ps.take k = qs.take k ∧ Ext w wr) (fun i _ => ps.length - (intOf i).toNat)
      case atStart => exact ⟨0, Nat.zero_le _, rfl, rfl, Ext.refl _⟩
      case round =>
        obtain ⟨k, hk, rfl, ht, he⟩ := hrel
        have HT := Lib.hid ht
        clear ht
        by_cases hlt : k < ps.length
        · have hlt' : k < qs.length := by rw [← HL.out]; exact hlt
          obtain ⟨c0, c1⟩ := hp.ext he k hlt
          obtain ⟨d0, d1⟩ := hp'.ext he k hlt'
          have HE1 := Lib.hid (fun heq => take_eq_succ ps qs k hlt hlt' HT.out heq)
          have HE2 := Lib.hid (show ps.getD k (0, 0) ≠ qs.getD k (0, 0) → decide (ps = qs) = false by intro hne; simp; intro e; exact hne (by rw [e]))
          generalize ps.getD k (0, 0) = x at c0 c1 HE1 HE2
          generalize qs.getD k (0, 0) = y at d0 d1 HE1 HE2
          by_cases heq : x = y
          · subst heq
            go_wp2_with fail
            go_quiet (fail)
            go_wp2_with fail
            go_roundw
            case rel => exact ⟨k + 1, hlt, by go_num, HE1.out (by simp), he.drewN _⟩
            case measure => simp [intOf]; omega
          · by_cases hx1 : x.1 = y.1
            · have b1 : (x.1 == y.1) = true := by simpa using hx1
              have b2 : (x.2 == y.2) = false := by
                rw [← Bool.not_eq_true]; intro hh; exact heq (Prod.ext hx1 (by simpa using hh))
              have HE := Lib.hid (HE2.out heq)
              clear heq hx1
              go_wp2_with fail
              go_quiet (fail)
              go_wp2_with fail
              go_ret
              exact ⟨ret_bool HE.out.symm, he.drewN _⟩
            · have b1 : (x.1 == y.1) = false := by simpa using hx1
              have HE := Lib.hid (HE2.out heq)
              clear heq hx1
              go_wp2_with fail
              go_quiet (fail)
              go_wp2_with fail
              go_ret
              exact ⟨ret_bool HE.out.symm, he.drewN _⟩
        · have HE := Lib.hid (show decide (ps = qs) = true by
            have := HT.out
            rw [List.take_of_length_le (by omega), List.take_of_length_le (by rw [← HL.out]; omega)] at this
            simpa using this)
          go_wp2_with fail
          go_ret
          exact ⟨ret_bool HE.out.symm, he⟩
  · have hne : ((ps.length : Int) != (qs.length : Int)) = true := by simp; omega
    have hne2 : ((ps.length : Int) == (qs.length : Int)) = false := by simp; omega
    have HD := Lib.hid (show decide (ps = qs) = false by simp; intro e; exact hl (by rw [e]))
    clear hl
    go_enter Try.func30, Try.ntmps30
    go_wp2_with fail
    go_ret
    exact ⟨ret_bool HD.out.symm, Ext.refl _⟩
end Go.Proofs.Ytllpkoinjompcaa

namespace Go.Proofs.Ytllpkoinjompcaa
open Go.RowKit
attribute [local go_sem ↓] Go.wp_at_zero Go.wp_at_succ run_eql_point run_neq_point run_max_ii run_min_ii


theorem ex_seg : quadSegV (0, 0) (512, 0) (512, 512) 256 = (1, 0) := by decide +kernel
theorem ex_pts : quadPts (0, 0) (512, 0) (512, 512) 256 = [(512, 512)] := by decide +kernel
theorem ex_at : quadAtV (0, 0) (512, 0) (512, 512) 1 2 = (384, 128) := by decide +kernel

theorem pts1 {w : World} {g : Nat} {a : Int × Int} (h0 : w.cell? ⟨g, 0, none⟩ = some (.int .i64 a.1)) (h1 : w.cell? ⟨g, 1, none⟩ = some (.int .i64 a.2)) : PtsAt w g 0 [a] := by
  intro i hi
  match i, hi with
  | 0, _ => exact ⟨h0, h1⟩
theorem ptsV1 {w : World} {g : Nat} {a : Int × Int} (h0 : w.cell? ⟨g, 0, none⟩ = some (.int .i64 a.1)) (h1 : w.cell? ⟨g, 1, none⟩ = some (.int .i64 a.2)) : PtsV w (.slice (some ⟨g, 0, none⟩) 1 1) [a] :=
  ⟨_, _, rfl, fun _ => ⟨_, _, rfl, pts1 h0 h1⟩⟩

theorem example_any (w : World) : Calls Try.prog 6 #[] w fun e w' => e = .returned (.bool true) ∧ Ext w w' := by
  have S1 := fun w => quadSeg_any (0, 0) (512, 0) (512, 512) 256 w
  have S2 := fun w => quad_any (0, 0) (512, 0) (512, 512) 256 w
  have S3 := fun w => quadAt_any (0, 0) (512, 0) (512, 512) 1 2 w
  rw [ex_seg] at S1
  rw [ex_seg, ex_pts] at S2
  rw [ex_at] at S3
  have H1 := Lib.hid S1
  have H2 := Lib.hid S2
  have H3 := Lib.hid S3
  clear S1 S2 S3
  have HG := Lib.hid (show ∀ x, Ext (w.alloc (.cells #[.int .i64 0, .int .i64 0, .int .i64 512, .int .i64 0, .int .i64 512, .int .i64 512] 67)) x → x.cell? ⟨w.heap.size, 0, none⟩ = some (.int .i64 0) ∧ x.cell? ⟨w.heap.size, 1, none⟩ = some (.int .i64 0) ∧ x.cell? ⟨w.heap.size, 2, none⟩ = some (.int .i64 512) ∧
      x.cell? ⟨w.heap.size, 3, none⟩ = some (.int .i64 0) ∧ x.cell? ⟨w.heap.size, 4, none⟩ = some (.int .i64 512) ∧ x.cell? ⟨w.heap.size, 5, none⟩ = some (.int .i64 512) from fun x h =>
    ⟨h.get (by simp), h.get (by simp), h.get (by simp), h.get (by simp), h.get (by simp), h.get (by simp)⟩)
  go_enter Try.func6, Try.ntmps6
  go_wp2_with fail
  refine (H1.out _).mono ?_
  rintro e w1 ⟨rfl, hb1⟩
  have g1 := HG.out w1 hb1
  go_wp2_with fail
  refine (H2.out _).mono ?_
  rintro e w2 ⟨v, rfl, ho, hb2⟩
  have g2 := HG.out w2 (hb1.trans hb2)
  have hr := Lib.hid ho.read
  clear ho g1
  go_wp2_with fail
  refine (samePts_any v _ [(512, 512)] [(512, 512)] _ (hr.out.ext ((Ext.refl _).alloc _)) (ptsV1 (by simp) (by simp)) (by simp) (by simp)).mono ?_
  rintro e w3 ⟨rfl, hb3⟩
  have g3 := HG.out w3 ((hb1.trans hb2).trans (((Ext.refl _).alloc _).trans hb3))
  clear g2
  go_wp2_with fail
  refine (H3.out _).mono ?_
  rintro e w4 ⟨rfl, hb4⟩
  go_wp2_with fail
  go_ret
  exact ⟨rfl, ((Ext.refl _).alloc _).trans (((hb1.trans hb2).trans (((Ext.refl _).alloc _).trans hb3)).trans hb4)⟩
end Go.Proofs.Ytllpkoinjompcaa

namespace Go.Proofs.Ytllpkoinjompcaa
open Go.ChangeShapes Go.WideShapes Go.ChangeAt Go.RowKit

theorem own : ownKnob Try.prog.godebug = none := by kernel_rfl
theorem laidOut : laidOutB Try.prog = true := by kernel_rfl
theorem okWide_array {P : Program} {w : World} {r : Reach} {base : Nat} {t e : TypeId} {n : Nat} {v : Value} (ht : P.underlying t = some (.array n e)) (h : Value.okWide P w r base t v) : ∃ cs, v = .agg cs ∧ cs.size = P.cellsOf t := by
  simp only [Value.okWide, ht] at h
  obtain ⟨cs, h1, h2, _⟩ := h
  exact ⟨cs, h1, h2⟩

section
variable {H : Type} {enc : TypeId × Value → H} {w : World} {base : Nat} {spare : Nat → Bool} {held : Bool}

end
end Go.Proofs.Ytllpkoinjompcaa

namespace Go.Proofs.Ytllpkoinjompcaa
open Go.ChangeShapes Go.WideShapes Go.ChangeAt Go.RowKit

theorem cells_u32 : Try.prog.cellsOf 120 = 1 := by kernel_rfl
theorem cells_rint : Try.prog.cellsOf 39 = 2 := by kernel_rfl
theorem cells_rat : Try.prog.cellsOf 41 = 4 := by kernel_rfl
theorem cells_bool : Try.prog.cellsOf 4 = 1 := by kernel_rfl
theorem cells_mag : Try.prog.cellsOf 37 = 1 := by kernel_rfl

def RV.Raw (w : World) (a : RV) : Prop := ∃ xs ys, DigS w (.slice a.p a.l a.c) xs ∧ DigS w (.slice a.p2 a.l2 a.c2) ys
theorem RV.Raw.val {w : World} {a : RV} (h : a.Raw w) : ∃ q : Rat, ∀ L, a.l ≤ L → a.l2 ≤ L → a.In L w q := by
  obtain ⟨xs, ys, h1, h2⟩ := h
  have e1 : a.l = xs.length := by obtain ⟨p, c, e, _⟩ := h1; injection e
  have e2 : a.l2 = ys.length := by obtain ⟨p, c, e, _⟩ := h2; injection e
  refine ⟨Rat.divInt (sg a.n (Nm.val xs)) (sg a.m (Nm.val ys)), fun L k1 k2 => ?_⟩
  exact ⟨_, _, ⟨_, ⟨xs, h1, rfl, by omega⟩, rfl⟩, ⟨_, ⟨ys, h2, rfl, by omega⟩, rfl⟩, rfl⟩

section
variable {H : Type} {enc : TypeId × Value → H} {w : World} {base : Nat} {held : Bool}

theorem mag_open {fuel : Nat} {cs : List Value} {x : DataW H × List MemPlace} (h : DataW.trod enc Try.prog w base (fun _ => true) held fuel 37 cs = some x) :
    ∃ p l c xs, cs = [.slice p l c] ∧ DigS w (.slice p l c) xs := by
  rcases open_ints Try.underlying37 Try.underlying120 cells_u32 h with ⟨rfl, _⟩ | ⟨a, len, cap, zs, rfl, _, hl, hm, hz, _, hc, hw⟩
  · exact ⟨none, 0, 0, [], rfl, none, 0, rfl, Nat.le_refl _, (by intro x hx; simp at hx), fun h0 => absurd h0 (by simp)⟩
  · simp only [if_true] at hz
    refine ⟨some a, len, cap, (zs.take len).map Int.toNat, rfl, some a, cap, by simp [hz]; omega, by simp [hz]; omega, ?_, fun h0 => ?_⟩
    · intro d hd
      obtain ⟨z, hz1, rfl⟩ := List.mem_map.1 hd
      have := bounds_u32 (hw z (List.mem_of_mem_take hz1))
      show z.toNat < 4294967296
      omega
    · have hlen : ((zs.take len).map Int.toNat).length = len := by simp [hz]; omega
      rw [hlen] at h0 ⊢
      have hs : a.spot = none := by
        have h1 := hc 0 (by omega)
        unfold World.cell? at h1
        cases hsp : a.spot with
        | none => rfl
        | some s =>
          exfalso
          have e : (a.add 0).spot = some s := by simp [Addr.add, hsp]
          rw [e] at h1
          revert h1
          split <;> simp
      obtain ⟨b, o, sp⟩ := a
      obtain rfl : sp = none := hs
      refine ⟨b, o, rfl, fun i hi => ?_⟩
      have h1 := hc i (by omega)
      have e : (⟨b, o, none⟩ : Addr).add i = ⟨b, o + i, none⟩ := by unfold Addr.add; split <;> simp_all
      rw [e] at h1
      rw [h1]
      have hi2 : i < zs.length := by omega
      have h2 := bounds_u32 (hw (zs.getD i 0) (by rw [List.getD_eq_getElem?_getD, List.getElem?_eq_getElem hi2]; exact List.getElem_mem hi2))
      have h3 : (List.map Int.toNat (List.take len zs)).getD i 0 = (zs.getD i 0).toNat := by
        simp [List.getD, hi, List.getElem?_eq_getElem hi2]
      rw [h3]
      congr 2
      omega

theorem rint_open {fuel : Nat} {cs : List Value} {x : DataW H × List MemPlace} (h : DataW.trod enc Try.prog w base (fun _ => true) held fuel 39 cs = some x) :
    ∃ n p l c xs, cs = [.bool n, .slice p l c] ∧ DigS w (.slice p l c) xs := by
  obtain ⟨y0, y1, n, _, hl, h0, h1⟩ := trod_struct2 Try.underlying39 h
  rw [cells_rint] at hl
  rw [cells_bool] at h0
  obtain ⟨b, e0, _⟩ := DataW.trod_bool Try.underlying4 h0
  rw [cells_mag] at h1
  obtain ⟨p, l, c, xs, e1, hd⟩ := mag_open h1
  match cs, hl with
  | [u, v], _ =>
    simp at e0 e1
    exact ⟨b, p, l, c, xs, by rw [e0, e1], hd⟩

theorem rat_open {fuel : Nat} {cs : List Value} {x : DataW H × List MemPlace} (h : DataW.trod enc Try.prog w base (fun _ => true) held fuel 41 cs = some x) :
    ∃ a : RV, cs = [.bool a.n, .slice a.p a.l a.c, .bool a.m, .slice a.p2 a.l2 a.c2] ∧ a.Raw w := by
  obtain ⟨y0, y1, n, _, hl, h0, h1⟩ := trod_struct2 Try.underlying41 h
  rw [cells_rat] at hl
  rw [cells_rint] at h0 h1
  obtain ⟨n, p, l, c, xs, e0, d0⟩ := rint_open h0
  obtain ⟨m, p2, l2, c2, ys, e1, d1⟩ := rint_open h1
  match cs, hl with
  | [u, v, u', v'], _ =>
    simp at e0 e1
    exact ⟨⟨n, p, l, c, m, p2, l2, c2⟩, by simp [e0, e1], xs, ys, d0, d1⟩
end
end Go.Proofs.Ytllpkoinjompcaa

namespace Go.Proofs.Ytllpkoinjompcaa
open Go.ChangeShapes Go.WideShapes Go.ChangeAt Go.RowKit

theorem cells_rp2 : Try.prog.cellsOf 42 = 8 := by kernel_rfl
theorem cells_rp4 : Try.prog.cellsOf 43 = 32 := by kernel_rfl
theorem okWide_struct {P : Program} {w : World} {r : Reach} {base : Nat} {t : TypeId} {fs : Array Field} {v : Value} (ht : P.underlying t = some (.struct fs)) (h : Value.okWide P w r base t v) : ∃ cs, v = .agg cs ∧ cs.size = P.cellsOf t := by
  simp only [Value.okWide, ht] at h
  obtain ⟨cs, h1, h2, _⟩ := h
  exact ⟨cs, h1, h2⟩

section
variable {H : Type} {enc : TypeId × Value → H} {w : World} {base : Nat} {held : Bool}
theorem rp2_open {fuel : Nat} {cs : List Value} {x : DataW H × List MemPlace} (h : DataW.trod enc Try.prog w base (fun _ => true) held fuel 42 cs = some x) :
    ∃ a b : RV, cs = [.bool a.n, .slice a.p a.l a.c, .bool a.m, .slice a.p2 a.l2 a.c2] ++ [.bool b.n, .slice b.p b.l b.c, .bool b.m, .slice b.p2 b.l2 b.c2] ∧ a.Raw w ∧ b.Raw w := by
  obtain ⟨xs, m, _, _, hl, hx, hi⟩ := DataW.trod_array Try.underlying42 h
  rw [cells_rp2] at hl
  rw [cells_rat] at hi
  match xs, hx with
  | [x0, x1], _ =>
    obtain ⟨a, ea, ra⟩ := rat_open (show DataW.trod enc Try.prog w base (fun _ => true) held m 41 _ = some x0 from hi 0 (by omega))
    obtain ⟨b, eb, rb⟩ := rat_open (show DataW.trod enc Try.prog w base (fun _ => true) held m 41 _ = some x1 from hi 1 (by omega))
    refine ⟨a, b, ?_, ra, rb⟩
    rw [← ea, ← eb]
    simp only [Nat.zero_mul, List.drop_zero, Nat.one_mul]
    rw [List.take_of_length_le (l := cs.drop 4) (by simp [hl]), List.take_append_drop]
theorem rp4_open {fuel : Nat} {cs : List Value} {x : DataW H × List MemPlace} (h : DataW.trod enc Try.prog w base (fun _ => true) held fuel 43 cs = some x) :
    ∃ a0 a1 b0 b1 c0 c1 d0 d1 : RV, cs = [.bool a0.n, .slice a0.p a0.l a0.c, .bool a0.m, .slice a0.p2 a0.l2 a0.c2, .bool a1.n, .slice a1.p a1.l a1.c, .bool a1.m, .slice a1.p2 a1.l2 a1.c2, .bool b0.n, .slice b0.p b0.l b0.c, .bool b0.m, .slice b0.p2 b0.l2 b0.c2, .bool b1.n, .slice b1.p b1.l b1.c, .bool b1.m, .slice b1.p2 b1.l2 b1.c2, .bool c0.n, .slice c0.p c0.l c0.c, .bool c0.m, .slice c0.p2 c0.l2 c0.c2, .bool c1.n, .slice c1.p c1.l c1.c, .bool c1.m, .slice c1.p2 c1.l2 c1.c2, .bool d0.n, .slice d0.p d0.l d0.c, .bool d0.m, .slice d0.p2 d0.l2 d0.c2, .bool d1.n, .slice d1.p d1.l d1.c, .bool d1.m, .slice d1.p2 d1.l2 d1.c2] ∧ (a0.Raw w ∧ a1.Raw w) ∧ (b0.Raw w ∧ b1.Raw w) ∧ (c0.Raw w ∧ c1.Raw w) ∧ (d0.Raw w ∧ d1.Raw w) := by
  obtain ⟨xs, m, _, _, hl, hx, hi⟩ := DataW.trod_array Try.underlying43 h
  rw [cells_rp4] at hl
  rw [cells_rp2] at hi
  match xs, hx with
  | [x0, x1, x2, x3], _ =>
    obtain ⟨a0, a1, ea, ra⟩ := rp2_open (show DataW.trod enc Try.prog w base (fun _ => true) held m 42 _ = some x0 from hi 0 (by omega))
    obtain ⟨b0, b1, eb, rb⟩ := rp2_open (show DataW.trod enc Try.prog w base (fun _ => true) held m 42 _ = some x1 from hi 1 (by omega))
    obtain ⟨c0, c1, ec, rc⟩ := rp2_open (show DataW.trod enc Try.prog w base (fun _ => true) held m 42 _ = some x2 from hi 2 (by omega))
    obtain ⟨d0, d1, ed, rd⟩ := rp2_open (show DataW.trod enc Try.prog w base (fun _ => true) held m 42 _ = some x3 from hi 3 (by omega))
    refine ⟨a0, a1, b0, b1, c0, c1, d0, d1, ?_, ra, rb, rc, rd⟩
    have e : cs = (cs.drop 0).take 8 ++ ((cs.drop 8).take 8 ++ ((cs.drop 16).take 8 ++ (cs.drop 24).take 8)) := by
      rw [List.take_of_length_le (l := cs.drop 24) (by simp [hl]), show cs.drop 24 = (cs.drop 16).drop 8 by simp, List.take_append_drop, show cs.drop 16 = (cs.drop 8).drop 8 by simp, List.take_append_drop, List.drop_zero, List.take_append_drop]
    rw [e]
    simp only [Nat.zero_mul, Nat.one_mul] at ea eb
    rw [ea, eb, show (cs.drop 16).take 8 = _ from ec, show (cs.drop 24).take 8 = _ from ed]
    rfl
end
end Go.Proofs.Ytllpkoinjompcaa
