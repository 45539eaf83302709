/- The validity of a parameter; QuadAt and CubicAt. -/
import Derived.Test.YtkepeihlggkadaaFlatE
namespace Go.Proofs.Ytkepeihlggkadaa
open Go.RowKit
attribute [local go_sem ↓] Go.wp_at_zero Go.wp_at_succ run_eql_point run_neq_point run_max_ii run_min_ii

def parV (i n : Int) : Bool := decide (1 ≤ n) && (decide (n ≤ 64) && (decide (0 ≤ i) && decide (i ≤ n)))

theorem parV_iff (i n : Int) : parV i n = true ↔ 1 ≤ n ∧ n ≤ 64 ∧ 0 ≤ i ∧ i ≤ n := by simp [parV]

theorem par_any (i n : Int) (w : World) :
    Calls Try.prog 54 #[.int .i64 i, .int .i64 n] w fun e w' => e = .returned (.bool (parV i n)) ∧ w = w' := by
  by_cases h : 1 ≤ n ∧ n ≤ 64 ∧ 0 ≤ i ∧ i ≤ n
  · rw [show parV i n = true from (parV_iff i n).2 h]
    obtain ⟨h1, h2, h3, h4⟩ := h
    go_enter Try.func54, Try.ntmps54
    go_wp2_with fail
    go_ret
    exact ⟨ret_bool (by simp <;> omega), rfl⟩
  · rw [show parV i n = false by rw [← Bool.not_eq_true, parV_iff]; exact h]
    by_cases h1 : 1 ≤ n
    · by_cases h2 : n ≤ 64
      · by_cases h3 : 0 ≤ i
        · have h4 : ¬ i ≤ n := by omega
          clear h
          go_enter Try.func54, Try.ntmps54
          go_wp2_with fail
          go_ret
          exact ⟨ret_bool (by simp <;> omega), rfl⟩
        · clear h
          go_enter Try.func54, Try.ntmps54
          go_wp2_with fail
          go_ret
          exact ⟨ret_bool (by simp <;> omega), rfl⟩
      · clear h
        go_enter Try.func54, Try.ntmps54
        go_wp2_with fail
        go_ret
        exact ⟨ret_bool (by simp <;> omega), rfl⟩
    · clear h
      go_enter Try.func54, Try.ntmps54
      go_wp2_with fail
      go_ret
      exact ⟨ret_bool (by simp <;> omega), rfl⟩

def MayB (ps : List (Int × Int)) (i n : Int) : Bool := okAll ps && parV i n

theorem may_any (b off cap : Nat) (ps : List (Int × Int)) (i n : Int) (w : World) (hn : ps.length ≤ 4096) (hp : PtsAt w b off ps) :
    Calls Try.prog 51 #[.slice (some ⟨b, off, none⟩) ps.length cap, .int .i64 i, .int .i64 n] w fun e w' => e = .returned (.bool (MayB ps i n)) ∧ Ext w w' := by
  go_enter Try.func51, Try.ntmps51
  go_wp2_with fail
  go_loopw [11] (fun x wr => ∃ k : Nat, k ≤ ps.length ∧ x = .int .i64 k ∧ okAll (ps.take k) = true ∧ Ext w wr) (fun x _ => ps.length - (intOf x).toNat)
  case atStart => exact ⟨0, Nat.zero_le _, rfl, rfl, Ext.refl _⟩
  case round =>
    obtain ⟨k, hk, rfl, ho, he⟩ := hrel
    have HO := Lib.hid ho
    clear ho
    by_cases hlt : k < ps.length
    · obtain ⟨c0, c1⟩ := hp.ext he k hlt
      go_wp2_with (go_at_call 86; refine (valid_any _ _ _).mono ?_; rintro e w' ⟨rfl, hb⟩)
      · have hf : (!okPt ps[k].1 ps[k].2) = true := by assumption
        go_ret
        exact ⟨ret_bool (by unfold MayB; rw [okAll_stop ps k hlt (by simpa using hf)]; rfl), (he.alloc _).trans ‹_›⟩
      · have hf : (!okPt ps[k].1 ps[k].2) = false := by assumption
        go_roundw
        case rel => exact ⟨k + 1, hlt, by go_num, okAll_step ps k hlt HO.out (by simpa using hf), (he.alloc _).trans ‹_›⟩
        case measure => simp [intOf]; omega
    · have e : MayB ps i n = parV i n := by unfold MayB; rw [okAll_end ps k hk hlt HO.out]; rfl
      have E := Lib.hid e
      clear HO e
      by_cases h1 : 1 ≤ n
      · by_cases h2 : n ≤ 64
        · by_cases h3 : 0 ≤ i
          · go_wp2_with fail
            all_goals go_ret
            all_goals exact ⟨ret_bool (by rw [E.out]; simp [parV, h1, h2, h3]), he⟩
          · go_wp2_with fail
            all_goals go_ret
            all_goals exact ⟨ret_bool (by rw [E.out]; simp [parV] <;> omega), he⟩
        · go_wp2_with fail
          all_goals go_ret
          all_goals exact ⟨ret_bool (by rw [E.out]; simp [parV] <;> omega), he⟩
      · go_wp2_with fail
        all_goals go_ret
        all_goals exact ⟨ret_bool (by rw [E.out]; simp [parV] <;> omega), he⟩

def MaySays (ps : List (Int × Int)) (i n : Int) (w : World) (e : Ending) (w' : World) : Prop := e = .returned (.bool (MayB ps i n)) ∧ Ext w w'

theorem may_len (l b off cap : Nat) (ps : List (Int × Int)) (i n : Int) (w : World) (hl : ps.length = l) (hn : l ≤ 4096) (hp : PtsAt w b off ps) :
    Calls Try.prog 51 #[.slice (some ⟨b, off, none⟩) l cap, .int .i64 i, .int .i64 n] w (MaySays ps i n w) := by
  subst hl
  exact may_any b off cap ps i n w hn hp
end Go.Proofs.Ytkepeihlggkadaa
