/- SamePoints of the reference: two slices of points are equal. -/
import Derived.Test.YtkepeihlggkadaaFlatM
import Derived.Deep.AppendLies
namespace Go.Proofs.Ytkepeihlggkadaa
open Go.RowKit
attribute [local go_sem ↓] Go.wp_at_zero Go.wp_at_succ run_eql_point run_neq_point run_max_ii run_min_ii

/-- A slice value that reads as the points ps. -/
def PtsV (w : World) (v : Value) (ps : List (Int × Int)) : Prop :=
  ∃ (A : Option Addr) (cap : Nat), v = .slice A ps.length cap ∧ (ps ≠ [] → ∃ g off, A = some ⟨g, off, none⟩ ∧ PtsAt w g off ps)

theorem PtsV.ext {w w' : World} {v : Value} {ps : List (Int × Int)} (h : PtsV w v ps) (e : Ext w w') : PtsV w' v ps := by
  obtain ⟨A, cap, hv, ha⟩ := h
  exact ⟨A, cap, hv, fun hn => by obtain ⟨g, off, hA, hp⟩ := ha hn; exact ⟨g, off, hA, hp.ext e⟩⟩

theorem ptCells_get (ps : List (Int × Int)) (i : Nat) (hi : i < ps.length) : (ptCells ps)[i * 2]? = some (.int .i64 (ps.getD i (0, 0)).1) ∧ (ptCells ps)[i * 2 + 1]? = some (.int .i64 (ps.getD i (0, 0)).2) := by
  induction ps generalizing i with
  | nil => simp at hi
  | cons x xs ih =>
    cases i with
    | zero => simp [ptCells]
    | succ i =>
      have := ih i (by simpa using hi)
      have e : ptCells (x :: xs) = Value.int .i64 x.1 :: Value.int .i64 x.2 :: ptCells xs := by simp [ptCells]
      rw [e, show (i + 1) * 2 = i * 2 + 1 + 1 by omega, show i * 2 + 1 + 1 + 1 = (i * 2 + 1) + 1 + 1 by omega]
      simpa using this

theorem add_off (g j : Nat) : (⟨g, 0, none⟩ : Addr).add j = ⟨g, j, none⟩ := by
  unfold Addr.add
  by_cases h : j = 0
  · simp [h]
  · simp [h]

theorem OwnsPts.read {w w' : World} {v : Value} {ps : List (Int × Int)} (h : OwnsPts w w' v ps) : PtsV w' v ps := by
  rcases h.1.2 with ⟨rfl, hx⟩ | ⟨g, cap, cur, rfl, hg, hh, hc⟩
  · have : ps = [] := by
      have := ptCells_length ps
      exact List.eq_nil_of_length_eq_zero (by first | omega | (rw [hx] at this; simp at this; omega))
    subst this
    exact ⟨none, 0, rfl, fun hn => absurd rfl hn⟩
  · refine ⟨_, cap, rfl, fun _ => ⟨g, 0, rfl, fun i hi => ?_⟩⟩
    have q := ptCells_get ps i hi
    have c := World.ownsRow.cells h.1 (g := g) rfl
    have c0 := c _ _ q.1
    have c1 := c _ _ q.2
    rw [add_off] at c0 c1
    exact ⟨by rw [Nat.zero_add]; exact c0, by rw [Nat.zero_add]; exact c1⟩

theorem take_eq_succ (ps qs : List (Int × Int)) (k : Nat) (h : k < ps.length) (h' : k < qs.length) (ht : ps.take k = qs.take k) (he : ps.getD k (0, 0) = qs.getD k (0, 0)) : ps.take (k + 1) = qs.take (k + 1) := by
  rw [List.take_succ_eq_append_getElem h, List.take_succ_eq_append_getElem h', ht]
  simp [List.getD, h, h'] at he
  rw [he]

theorem samePts_any (u v : Value) (ps qs : List (Int × Int)) (w : World) (hu : PtsV w u ps) (hv : PtsV w v qs) (h1 : ps.length ≤ 100000) (h2 : qs.length ≤ 100000) :
    Calls Try.prog 26 #[u, v] w fun e w' => e = .returned (.bool (decide (ps = qs))) ∧ Ext w w' := by
  obtain ⟨A, ca, rfl, hA⟩ := hu
  obtain ⟨B, cb, rfl, hB⟩ := hv
  by_cases hl : ps.length = qs.length
  · have hne : ((ps.length : Int) != (qs.length : Int)) = false := by simp [hl]
    have hne2 : ((ps.length : Int) == (qs.length : Int)) = true := by simp [hl]
    have HL := Lib.hid hl
    clear hl
    by_cases h0 : ps.length = 0
    · have e0 : ps = [] := List.eq_nil_of_length_eq_zero h0
      have e1 : qs = [] := List.eq_nil_of_length_eq_zero (by rw [← HL.out]; exact h0)
      subst e0 e1
      clear h0
      go_enter Try.func26, Try.ntmps26
      go_wp2_with fail
      refine wp_loop_rounds 1 ?_
      rw [rounds_succ]
      go_wp2_with fail
      go_ret
      exact ⟨ret_bool (by simp), Ext.refl _⟩
    · obtain ⟨g, o, rfl, hp⟩ := hA (by rintro rfl; exact h0 rfl)
      obtain ⟨g', o', rfl, hp'⟩ := hB (by rintro rfl; exact h0 HL.out)
      clear hA hB h0
      go_enter Try.func26, Try.ntmps26
      go_wp2_with fail
      go_loopw [5] (fun i wr => ∃ k : Nat, k ≤ ps.length ∧ i = .int .i64 k ∧ ps.take k = qs.take k ∧ Ext w wr) (fun i _ => ps.length - (intOf i).toNat)
      case atStart => exact ⟨0, Nat.zero_le _, rfl, rfl, Ext.refl _⟩
      case round =>
        obtain ⟨k, hk, rfl, ht, he⟩ := hrel
        have HT := Lib.hid ht
        clear ht
        by_cases hlt : k < ps.length
        · have hlt' : k < qs.length := by rw [← HL.out]; exact hlt
          obtain ⟨c0, c1⟩ := hp.ext he k hlt
          obtain ⟨d0, d1⟩ := hp'.ext he k hlt'
          have HE1 := Lib.hid (fun heq => take_eq_succ ps qs k hlt hlt' HT.out heq)
          have HE2 := Lib.hid (show ps.getD k (0, 0) ≠ qs.getD k (0, 0) → decide (ps = qs) = false by intro hne; simp; intro e; exact hne (by rw [e]))
          generalize ps.getD k (0, 0) = x at c0 c1 HE1 HE2
          generalize qs.getD k (0, 0) = y at d0 d1 HE1 HE2
          by_cases heq : x = y
          · subst heq
            go_wp2_with fail
            go_quiet (fail)
            go_wp2_with fail
            go_roundw
            case rel => exact ⟨k + 1, hlt, by go_num, HE1.out (by simp), he.drewN _⟩
            case measure => simp [intOf]; omega
          · by_cases hx1 : x.1 = y.1
            · have b1 : (x.1 == y.1) = true := by simpa using hx1
              have b2 : (x.2 == y.2) = false := by
                rw [← Bool.not_eq_true]; intro hh; exact heq (Prod.ext hx1 (by simpa using hh))
              have HE := Lib.hid (HE2.out heq)
              clear heq hx1
              go_wp2_with fail
              go_quiet (fail)
              go_wp2_with fail
              go_ret
              exact ⟨ret_bool HE.out.symm, he.drewN _⟩
            · have b1 : (x.1 == y.1) = false := by simpa using hx1
              have HE := Lib.hid (HE2.out heq)
              clear heq hx1
              go_wp2_with fail
              go_quiet (fail)
              go_wp2_with fail
              go_ret
              exact ⟨ret_bool HE.out.symm, he.drewN _⟩
        · have HE := Lib.hid (show decide (ps = qs) = true by
            have := HT.out
            rw [List.take_of_length_le (by omega), List.take_of_length_le (by rw [← HL.out]; omega)] at this
            simpa using this)
          go_wp2_with fail
          go_ret
          exact ⟨ret_bool HE.out.symm, he⟩
  · have hne : ((ps.length : Int) != (qs.length : Int)) = true := by simp; omega
    have hne2 : ((ps.length : Int) == (qs.length : Int)) = false := by simp; omega
    have HD := Lib.hid (show decide (ps = qs) = false by simp; intro e; exact hl (by rw [e]))
    clear hl
    go_enter Try.func26, Try.ntmps26
    go_wp2_with fail
    go_ret
    exact ⟨ret_bool HD.out.symm, Ext.refl _⟩
end Go.Proofs.Ytkepeihlggkadaa
