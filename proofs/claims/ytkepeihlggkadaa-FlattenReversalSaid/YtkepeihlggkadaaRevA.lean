/- FlattenReversal: reversing a curve reverses its points. -/
import Derived.Test.YtkepeihlggkadaaFlatQ
import Derived.Test.YtkepeihlggkadaaPureA
import Derived.Test.YtkepeihlggkadaaFrame
namespace Go.Proofs.Ytkepeihlggkadaa.reversal
open Go.ChangeShapes Go.WideShapes Go.ChangeAt Go.RowKit
attribute [local go_sem ↓] Go.wp_at_zero Go.wp_at_succ run_eql_point run_neq_point run_max_ii run_min_ii

/-- What the law asks of two lists of L points. -/
def Rev (ps qs : List (Int × Int)) (L : Nat) (ok : Bool) (first last : Int × Int) : Prop :=
  ps.length = L ∧ qs.length = L ∧ L ≤ 64 ∧ (∀ i, i + 1 < L → ps.getD i (0, 0) = qs.getD (L - 2 - i) (0, 0)) ∧
  (ok = true → 1 ≤ L ∧ ps.getD (L - 1) (0, 0) = last ∧ qs.getD (L - 1) (0, 0) = first)

theorem upTo_getD (f : Int → Int × Int) (n i : Nat) (h : i < n) : (upTo f n).getD i (0, 0) = f ((i : Int) + 1) := by
  simp [upTo, List.getD, h]

theorem rev_of (f g : Int → Int × Int) (n : Nat) (h1 : 1 ≤ n) (h2 : n ≤ 64) (hr : ∀ i : Int, 0 ≤ i → i ≤ n → g (n - i) = f i) (first last : Int × Int) (hf : f 0 = first) (hl : f n = last) : Rev (upTo f n) (upTo g n) n true first last := by
  refine ⟨upTo_length _ _, upTo_length _ _, h2, fun i hi => ?_, fun _ => ⟨h1, ?_, ?_⟩⟩
  · rw [upTo_getD _ _ _ (by omega), upTo_getD _ _ _ (by omega), ← hr _ (by omega) (by omega)]
    congr 1
    omega
  · rw [upTo_getD _ _ _ (by omega), ← hl]
    congr 1
    omega
  · rw [upTo_getD _ _ _ (by omega), ← hf, ← hr 0 (by omega) (by omega)]
    congr 1
    omega

theorem rev_quad (a b c : Int × Int) (tol : Int) : ∃ L, Rev (quadPts a b c tol) (quadPts c b a tol) L (decide ((quadSegV a b c tol).2 = 0)) a c := by
  by_cases h : (quadSegV a b c tol).2 = 0
  · obtain ⟨ho, _, _, n, hn, h1, h2, _⟩ := piecesV_good (sqD a b c) tol [a, b, c] h
    have hn' : (quadSegV a b c tol).1 = (n : Int) := hn
    refine ⟨n, ?_⟩
    have e1 : quadPts a b c tol = upTo (fun i => quadAtV a b c i n) n := by unfold quadPts; rw [if_pos h, hn', Int.toNat_natCast]
    have e2 : quadPts c b a tol = upTo (fun i => quadAtV c b a i n) n := by unfold quadPts; rw [quadSegV_rev, if_pos h, hn', Int.toNat_natCast]
    rw [e1, e2, show decide ((quadSegV a b c tol).2 = 0) = true by simpa using h]
    have m0 : MayB [a, b, c] 0 n = true := by unfold MayB; rw [ho, (parV_iff 0 n).2 (by omega)]; rfl
    have m1 : MayB [a, b, c] n n = true := by unfold MayB; rw [ho, (parV_iff n n).2 (by omega)]; rfl
    refine rev_of _ _ n h1 h2 (fun i h0 hi => quadAtV_rev a b c i n h0 hi) a c ?_ ?_
    · unfold quadAtV; rw [if_pos m0, qv_start _ _ _ _ (by omega), qv_start _ _ _ _ (by omega)]
    · unfold quadAtV; rw [if_pos m1, qv_end _ _ _ _ (by omega), qv_end _ _ _ _ (by omega)]
  · refine ⟨0, ?_⟩
    have e1 : quadPts a b c tol = [] := by unfold quadPts; rw [if_neg h]
    have e2 : quadPts c b a tol = [] := by unfold quadPts; rw [quadSegV_rev, if_neg h]
    rw [e1, e2]
    exact ⟨rfl, rfl, by omega, fun i hi => by omega, fun hh => absurd (by simpa using hh) h⟩

theorem rev_cubic (a b c d : Int × Int) (tol : Int) : ∃ L, Rev (cubicPts a b c d tol) (cubicPts d c b a tol) L (decide ((cubicSegV a b c d tol).2 = 0)) a d := by
  by_cases h : (cubicSegV a b c d tol).2 = 0
  · obtain ⟨ho, _, _, n, hn, h1, h2, _⟩ := piecesV_good (9 * max (sqD a b c) (sqD b c d)) tol [a, b, c, d] h
    have hn' : (cubicSegV a b c d tol).1 = (n : Int) := hn
    refine ⟨n, ?_⟩
    have e1 : cubicPts a b c d tol = upTo (fun i => cubicAtV a b c d i n) n := by unfold cubicPts; rw [if_pos h, hn', Int.toNat_natCast]
    have e2 : cubicPts d c b a tol = upTo (fun i => cubicAtV d c b a i n) n := by unfold cubicPts; rw [cubicSegV_rev, if_pos h, hn', Int.toNat_natCast]
    rw [e1, e2, show decide ((cubicSegV a b c d tol).2 = 0) = true by simpa using h]
    have m0 : MayB [a, b, c, d] 0 n = true := by unfold MayB; rw [ho, (parV_iff 0 n).2 (by omega)]; rfl
    have m1 : MayB [a, b, c, d] n n = true := by unfold MayB; rw [ho, (parV_iff n n).2 (by omega)]; rfl
    refine rev_of _ _ n h1 h2 (fun i h0 hi => cubicAtV_rev a b c d i n h0 hi) a d ?_ ?_
    · unfold cubicAtV; rw [if_pos m0, cv_start _ _ _ _ _ (by omega), cv_start _ _ _ _ _ (by omega)]
    · unfold cubicAtV; rw [if_pos m1, cv_end _ _ _ _ _ (by omega), cv_end _ _ _ _ _ (by omega)]
  · refine ⟨0, ?_⟩
    have e1 : cubicPts a b c d tol = [] := by unfold cubicPts; rw [if_neg h]
    have e2 : cubicPts d c b a tol = [] := by unfold cubicPts; rw [cubicSegV_rev, if_neg h]
    rw [e1, e2]
    exact ⟨rfl, rfl, by omega, fun i hi => by omega, fun hh => absurd (by simpa using hh) h⟩

/-- A slice of L points, its length by name. -/
def PtsL (w : World) (v : Value) (ps : List (Int × Int)) (L : Nat) : Prop :=
  ∃ (A : Option Addr) (cap : Nat), v = .slice A L cap ∧ ps.length = L ∧ (0 < L → ∃ g off, A = some ⟨g, off, none⟩ ∧ PtsAt w g off ps)
theorem PtsL.of {w : World} {v : Value} {ps : List (Int × Int)} {L : Nat} (h : PtsV w v ps) (hl : ps.length = L) : PtsL w v ps L := by
  obtain ⟨A, cap, rfl, hA⟩ := h
  subst hl
  exact ⟨A, cap, rfl, rfl, fun hp => hA (by rintro rfl; simp at hp)⟩

end Go.Proofs.Ytkepeihlggkadaa.reversal
