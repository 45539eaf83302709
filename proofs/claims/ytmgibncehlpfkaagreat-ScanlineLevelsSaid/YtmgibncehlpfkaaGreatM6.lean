/- Contracts that the claim stands on: XSrtM3 to XMerge. -/
import Derived.Deep.DeepCutAuto
import Derived.Maps.Own
import Derived.Maps.OwnOps
import Derived.Test.YtmgibncehlpfkaaGreatM5
namespace Go.Proofs.YtmgibncehlpfkaaGreat.mrk
open Go.RowKit
attribute [local go_sem ↓] Go.wp_at_zero Go.wp_at_succ run_max_ii run_min_ii

set_option maxRecDepth 20000 in
set_option maxHeartbeats 4000000 in
theorem symC_any {α : Type} (enc : α → List Value) (hk : ∀ x, (enc x).length = 5) (h1 : ∀ x, ∀ v, v ∈ enc x → v.oneCell' = true) (lt : α → α → Bool) (W : Stb.Wk lt) (w0 w : World) (g cap a m b N : Nat) (T : TypeId) (rest : List Value) (P A B S : List α) (hc : (∀ wr, Own g w0 wr → ∀ x y : α, Calls Tryz.prog 36 #[.agg (enc x).toArray, .agg (enc y).toArray] wr fun e w' => ∃ z : Int, e = .returned (.int .i64 z) ∧ (z < 0 ↔ lt x y = true) ∧ Ext wr w')) (ih : (∀ (P' A' B' S' : List α) (a m b : Nat) (wr : World), A' ≠ [] → B' ≠ [] → A'.length + B'.length < A.length + B.length → Sw w0 wr g T enc rest (P' ++ (A' ++ (B' ++ S'))) → P'.length = a → a + A'.length = m → m + B'.length = b → Stb.Srt lt A' → Stb.Srt lt B' → (P' ++ (A' ++ (B' ++ S'))).length = N → Calls Tryz.prog 88 #[.slice (some ⟨g, 0, none⟩) N cap, .int .i64 a, .int .i64 m, .int .i64 b, .func (.func 36) #[] #[]] wr fun e w' => e = .returned (.tuple #[]) ∧ Sw w0 w' g T enc rest (P' ++ (Stb.mrg lt A' B' ++ S')))) (hst : Sw w0 w g T enc rest (P ++ (A ++ (B ++ S)))) (ha : P.length = a) (hm : a + A.length = m) (hb : m + B.length = b) (hA0 : A ≠ []) (hB0 : B ≠ []) (hA1 : A.length ≠ 1) (hB1 : B.length ≠ 1) (hA : Stb.Srt lt A) (hB : Stb.Srt lt B) (hN : (P ++ (A ++ (B ++ S))).length = N) (hsz : N ≤ 100000) :
  Calls Tryz.prog 88 #[.slice (some ⟨g, 0, none⟩) N cap, .int .i64 a, .int .i64 m, .int .i64 b, .func (.func 36) #[] #[]] w fun e w' => e = .returned (.tuple #[]) ∧ Sw w0 w' g T enc rest (P ++ (Stb.mrg lt A B ++ S)) := by
 have hlen : P.length + (A.length + (B.length + S.length)) = N := by rw [← hN]; simp
 have hAl : 2 ≤ A.length := by have : A.length ≠ 0 := fun h => hA0 (List.eq_nil_of_length_eq_zero h); omega
 have hBl : 2 ≤ B.length := by have : B.length ≠ 0 := fun h => hB0 (List.eq_nil_of_length_eq_zero h); omega
 have e0 : (m : Int) - (a : Int) = (A.length : Int) := by omega
 have e1 : (b : Int) - (m : Int) = (B.length : Int) := by omega
 have e0b : ((A.length : Int) == 1) = false := by simp; omega
 have e1b : ((B.length : Int) == 1) = false := by simp; omega
 have wA : IntKind.i64.wrap (A.length : Int) = (A.length : Int) := by rw [IntKind.wrap_i64]; omega
 have wB : IntKind.i64.wrap (B.length : Int) = (B.length : Int) := by rw [IntKind.wrap_i64]; omega
 have b1 : a ≤ 100000 := by omega
 have b2 : m ≤ 100000 := by omega
 have b3 : b ≤ 100000 := by omega
 obtain ⟨ss, hss⟩ : ∃ ss, ss = a + b := ⟨_, rfl⟩
 obtain ⟨mid, hmid⟩ : ∃ mid, mid = ss / 2 := ⟨_, rfl⟩
 obtain ⟨M, hM⟩ : ∃ M, a + M = mid := ⟨mid - a, by omega⟩
 obtain ⟨n, hn⟩ : ∃ n, n = mid + m := ⟨_, rfl⟩
 obtain ⟨p, hp⟩ : ∃ p, p + 1 = n := ⟨n - 1, by omega⟩
 have e3 : (a : Int) + (b : Int) = (ss : Int) := by omega
 have wu : IntKind.u64.wrap (ss : Int) = (ss : Int) := by rw [IntKind.wrap_u64]; omega
 have ws : IntKind.i64.wrap (ss : Int) = (ss : Int) := by rw [IntKind.wrap_i64]; omega
 have wh : IntKind.i64.wrap (mid : Int) = (mid : Int) := by rw [IntKind.wrap_i64]; omega
 have wuh : IntKind.u64.wrap (mid : Int) = (mid : Int) := by rw [IntKind.wrap_u64]; omega
 have e2 : (ss : Int) / 2 = (mid : Int) := by omega
 have e4 : (mid : Int) + (m : Int) = (n : Int) := by omega
 have wn : IntKind.i64.wrap (n : Int) = (n : Int) := by rw [IntKind.wrap_i64]; omega
 have e5 : (n : Int) - 1 = (p : Int) := by omega
 have wp : IntKind.i64.wrap (p : Int) = (p : Int) := by rw [IntKind.wrap_i64]; omega
 have HC := zH hc
 have HIH := zH ih
 have HST0 := zH hst
 have HF := zH (show SymF P.length A.length B.length S.length a m b N ss mid M n p from ⟨ha, hm, hb, hlen, hAl, hBl, hss, hmid, hM, hn, hp⟩)
 have HN := zH hN
 have HS := zH (And.intro hA hB)
 clear hst hc ih ha hm hb hN hlen hA hB hA0 hB0 hA1 hB1 hAl hBl hss hmid hM hn hp
 go_enter Tryz.func88, Tryz.ntmps88
 go_upto_if 140 with fail
 go_cut [20, 21] (fun u v wx => ∃ lo hi st r0 : Nat, st = a + lo ∧ r0 = a + hi ∧ u = .int .i64 st ∧ v = .int .i64 r0 ∧ lo ≤ hi ∧ hi ≤ A.length ∧ hi ≤ M ∧ M ≤ lo + B.length ∧ (lo = 0 ∨ lo + B.length ≤ M) ∧ (A.length ≤ hi ∨ M ≤ hi) ∧ wx = w)
 case first => as_aux_lemma =>
  by_cases hmm : mid < m
  ·have h2 : (mid : Int) < (m : Int) := by omega
   obtain ⟨st, lo, k0, k9, k⟩ := sym_ar0 hsz HF.out hmm
   have e6 : (n : Int) - (b : Int) = (st : Int) := by omega
   have wst : IntKind.i64.wrap (st : Int) = (st : Int) := by rw [IntKind.wrap_i64]; omega
   have HK := zH k
   clear k k0 hmm
   go_wp2_with fail
   go_meet
   obtain ⟨k1, k2, k3, k4, k5⟩ := HK.out
   exact ⟨lo, M, st, mid, k1, k3, rfl, rfl, k4, k5, Nat.le_refl _, Nat.le_of_eq k2.symm, Or.inr (Nat.le_of_eq k2), Or.inr (Nat.le_refl _), rfl⟩
  have h2 : ¬ (mid : Int) < (m : Int) := by omega
  have HK := zH (sym_ar1 HF.out hmm)
  clear hmm
  go_wp2_with fail
  go_meet
  obtain ⟨k1, k2, k3⟩ := HK.out
  exact ⟨0, A.length, a, m, rfl, k3, rfl, rfl, Nat.zero_le _, Nat.le_refl _, k1, by rw [Nat.zero_add]; exact k2, Or.inl rfl, Or.inl (Nat.le_refl _), rfl⟩
 case rest =>
  obtain ⟨lo, hi, st, r0, hst, hr0, rfl, rfl, g1, g2, g3, g4, g5, g6, rfl⟩ := hcut
  have HG := zH (show SymG A.length B.length a M lo hi st r0 from ⟨hst, hr0, g1, g2, g3, g4⟩)
  have HGO := zH (And.intro g5 g6)
  clear hst hr0 g1 g2 g3 g4 g5 g6
  go_wp2_with fail
  go_loopg [20, 21] (hi - lo) (fun c u v wr => ∃ s e i j : Nat, lo ≤ s ∧ s ≤ e ∧ e ≤ hi ∧ c = e - s ∧ i = a + s ∧ j = a + e ∧ u = .int .i64 i ∧ v = .int .i64 j ∧ (s = lo ∨ ∃ x y, A[s - 1]? = some x ∧ B[M - s]? = some y ∧ lt y x = false) ∧ (e = hi ∨ ∃ x y, A[e]? = some x ∧ B[M - e - 1]? = some y ∧ lt y x = true) ∧ Sw w0 wr g T enc rest (P ++ (A ++ (B ++ S))))
  case atStart => exact ⟨lo, hi, st, r0, Nat.le_refl _, HG.out.2.2.1, Nat.le_refl _, rfl, HG.out.1, HG.out.2.1, rfl, rfl, Or.inl rfl, Or.inl rfl, HST0.out⟩
  case round => as_aux_lemma =>
   clear HST0
   obtain ⟨s, e, i, j, hls, hse, heh, rfl, hi_, hj_, rfl, rfl, h1s, h2e, hst⟩ := hrel
   have HST := zH hst
   have HI := zH (And.intro hi_ (And.intro hj_ (And.intro hls heh)))
   have H1 := zH h1s
   have H2 := zH h2e
   clear hst h1s h2e
   by_cases hlt0 : s < e
   ·obtain ⟨sq, h, c, ph, ⟨k1, k2, k3, k4, k5, k6, k7, k8, k9⟩, hcc, q1, q2, q3, q4⟩ := sym_ar hsz HF.out HG.out hls heh hi_ hj_ hlt0
    have hij : (i : Int) < (j : Int) := by omega
    have f3 : (i : Int) + (j : Int) = (sq : Int) := by omega
    have fu : IntKind.u64.wrap (sq : Int) = (sq : Int) := by rw [IntKind.wrap_u64]; omega
    have fs : IntKind.i64.wrap (sq : Int) = (sq : Int) := by rw [IntKind.wrap_i64]; omega
    have fh : IntKind.i64.wrap (h : Int) = (h : Int) := by rw [IntKind.wrap_i64]; omega
    have fuh : IntKind.u64.wrap (h : Int) = (h : Int) := by rw [IntKind.wrap_u64]; omega
    have f2 : (sq : Int) / 2 = (h : Int) := by omega
    have f4 : (p : Int) - (h : Int) = (ph : Int) := by omega
    have fp : IntKind.i64.wrap (ph : Int) = (ph : Int) := by rw [IntKind.wrap_i64]; omega
    have bh : (h : Int) < (N : Int) := by omega
    have bp : (ph : Int) < (N : Int) := by omega
    have bi : i ≤ 100000 := k8
    obtain ⟨x0, hx0⟩ : ∃ z, A[c]? = some z := ⟨_, List.getElem?_eq_getElem q1⟩
    obtain ⟨y0, hy0⟩ : ∃ z, B[M - c - 1]? = some z := ⟨_, List.getElem?_eq_getElem q2⟩
    have Hx0 := zH (show (P ++ (A ++ (B ++ S)))[h]? = some x0 by
     have q := get_mid P A (B ++ S) c q1
     rw [q3, hx0] at q
     exact q)
    have Hy0 := zH (show (P ++ (A ++ (B ++ S)))[ph]? = some y0 by
     have q := get_mid (P ++ A) B S (M - c - 1) q2
     rw [List.length_append, q4, hy0] at q
     simpa using q)
    have HXA := zH hx0
    have HYB := zH hy0
    have HH := zH hcc
    clear hx0 hy0 hcc hi_ hj_ k1 k2 k3 k4 q1 q2 q3 q4
    generalize hrow : P ++ (A ++ (B ++ S)) = row at *
    clear hrow
    go_upto_region 35 with fail
    refine wp_region_held_drew (S := fun x => Ext wr x) (by kernel_rfl) (Ext.refl _).drew (fun _ => ?_)
    refine zv 0 (bs 14 1) (Ext.refl _).drew ?_
    refine zv 1 (bs 14 3) (Ext.refl _).drew ?_
    refine zv 2 (bs 14 7) (Ext.refl _).drew ?_
    refine zv 3 (bs 14 15) (Ext.refl _).drew ?_
    refine zv 4 (bs 14 31) (Ext.refl _).drew ?_
    refine zv 5 (bs 14 63) (Ext.refl _).drew ?_
    refine md_range (i := 6) (listed' := (bs 14 127)) (by rfl) (by kernel_rfl) (by kernel_rfl) (by kernel_rfl) _ _ (by rfl) g (ph * 5) (enc y0) _ (by intro _ _ _ h; exact h) (by rfl) (by rfl) (fun w1 hw1 => (HST.out.ext hw1).read Hy0.out hk) Tryz.underlying54 (by rfl) (by rw [hk]; kernel_rfl) (Ext.refl _).drew (by kernel_rfl) ?_
    try simp only [Act.put, zA, zB, zC]
    refine zv 7 (bs 14 255) (Ext.refl _).drew ?_
    refine zv 8 (bs 14 511) (Ext.refl _).drew ?_
    refine zv 9 (bs 14 1023) (Ext.refl _).drew ?_
    refine md_range (i := 10) (listed' := (bs 14 2047)) (by rfl) (by kernel_rfl) (by kernel_rfl) (by kernel_rfl) _ _ (by rfl) g (h * 5) (enc x0) _ (by intro _ _ _ h; exact h) (by rfl) (by rfl) (fun w1 hw1 => (HST.out.ext hw1).read Hx0.out hk) Tryz.underlying54 (by rfl) (by rw [hk]; kernel_rfl) (Ext.refl _).drew (by kernel_rfl) ?_
    try simp only [Act.put, zA, zB, zC]
    refine mC 11 (bs 14 4095) (HC.out _ ((HST.out.ext (Ext.refl _).drew).own) y0 x0) ?_
    rintro e w2 ⟨z, rfl, hz, hx2⟩
    have HX2 := zH (show Ext wr w2 from (Ext.refl _).drew.trans hx2)
    clear hx2
    refine ⟨_, rfl, HX2.out, ?_⟩
    try simp only [Act.put, zA, zB, zC]
    by_cases hlt : lt y0 x0 = true
    ·as_aux_lemma =>
     have HLT := zH hlt
     have hz2 : z < 0 := hz.2 hlt
     have hz3 : decide (z < 0) = true := by simpa using hz2
     clear hz
     refine zv 12 (bs 14 8191) HX2.out ?_
     refine zv 13 (bs 14 16383) HX2.out ?_
     refine wpAnyH_done (by kernel_rfl) ?_ _
     clear hlt hz2 hz3
     have HST := zH (HST.out.ext HX2.out)
     go_wp2_with fail
     go_roundg (c - s)
     case measure => have := HH.out; omega
     case rel => exact ⟨s, c, i, h, hls, by have := HH.out; omega, by have := HH.out; omega, rfl, HI.out.1, by have := HH.out; omega, rfl, rfl, H1.out, Or.inr ⟨x0, y0, HXA.out, HYB.out, HLT.out⟩, HST.out⟩
    as_aux_lemma =>
    have HLT := zH (eq_false_of_ne_true hlt)
    have hz2 : ¬ z < 0 := fun h => hlt (hz.1 h)
    have hz3 : decide (z < 0) = false := by simpa using hz2
    clear hz
    refine zv 12 (bs 14 8191) HX2.out ?_
    refine zv 13 (bs 14 16383) HX2.out ?_
    refine wpAnyH_done (by kernel_rfl) ?_ _
    clear hlt hz2 hz3
    have HST := zH (HST.out.ext HX2.out)
    go_wp2_with fail
    go_roundg (e - (c + 1))
    case measure => have := HH.out; omega
    case rel => exact ⟨c + 1, e, h + 1, j, by have := HH.out; omega, by have := HH.out; omega, heh, rfl, by have := HH.out; omega, HI.out.2.1, by go_num, rfl, Or.inr ⟨x0, y0, HXA.out, by rw [show M - (c + 1) = M - c - 1 by omega]; exact HYB.out, HLT.out⟩, H2.out, HST.out⟩
   as_aux_lemma =>
   obtain rfl : s = e := by omega
   have hij : ¬ (i : Int) < (j : Int) := by omega
   obtain ⟨r, en, ⟨k1, k2, k3, k4, k5⟩, klen, kiff, keq, klt1, klt2⟩ := sym_ar2 hsz HF.out HG.out hls heh hi_
   have HM := zH (Stb.sym_split (lt := lt) (s := s) (r := r) W HS.out.1 HS.out.2 (by
    rcases H1.out with h | ⟨x, y, q1, q2, q3⟩
    ·rcases HGO.out.1 with q | q
     ·exact Or.inl (by omega)
     exact Or.inr (Or.inl (by omega))
    ·exact Or.inr (Or.inr ⟨x, y, q1, by rw [show r = M - s by omega]; exact q2, q3⟩)) (by
    rcases H2.out with h | ⟨x, y, q1, q2, q3⟩
    ·rcases HGO.out.2 with q | q
     ·exact Or.inr (Or.inl (by omega))
     exact Or.inl (by omega)
    exact Or.inr (Or.inr ⟨x, y, q1, by rw [show r - 1 = M - s - 1 by omega]; exact q2, q3⟩)))
   have e6 : (n : Int) - (i : Int) = (en : Int) := by omega
   have wen : IntKind.i64.wrap (en : Int) = (en : Int) := by rw [IntKind.wrap_i64]; omega
   have hAs : A.take s ++ A.drop s = A := List.take_append_drop s A
   have hBs : B.take r ++ B.drop r = B := List.take_append_drop r B
   have la1 : (A.take s).length = s := by rw [List.length_take]; exact Nat.min_eq_left k4
   have la2 : (A.drop s).length = A.length - s := List.length_drop
   have lb1 : (B.take r).length = r := by rw [List.length_take]; exact Nat.min_eq_left k3
   have lb2 : (B.drop r).length = B.length - r := List.length_drop
   have HLL := zH (And.intro la1 (And.intro la2 (And.intro lb1 lb2)))
   have HKL := zH klen
   have HKI := zH kiff
   have HKE := zH keq
   have HLT := zH (And.intro klt1 klt2)
   have HST2 := zH (show Sw w0 wr g T enc rest ((P ++ A.take s) ++ (A.drop s ++ (B.take r ++ (B.drop r ++ S)))) by
    have h := HST.out
    rw [← hAs, ← hBs] at h
    simpa only [List.append_assoc] using h)
   have HN2 := zH (show ((P ++ A.take s) ++ (A.drop s ++ (B.take r ++ (B.drop r ++ S)))).length = N by simp only [List.length_append, la1, la2, lb1, lb2]; omega)
   have HSA := zH (And.intro (Stb.srt_take HS.out.1 s) (And.intro (Stb.srt_drop HS.out.1 s) (And.intro (Stb.srt_take HS.out.2 r) (Stb.srt_drop HS.out.2 r))))
   have HE1 := zH (Stb.mrg_take_nil (lt := lt) (A := A) (B := B) (s := s) (r := r))
   have HE2 := zH (Stb.mrg_drop_nil (lt := lt) (A := A) (B := B) (s := s) (r := r))
   clear HST hi_ hj_ hAs hBs la1 la2 lb1 lb2 H1 H2 klen kiff keq klt1 klt2 k1 k2 k3 k4 hls heh hse
   generalize A.take s = A1 at *
   generalize A.drop s = A2 at *
   generalize B.take r = B1 at *
   generalize B.drop r = B2 at *
   go_upto_region 39 with fail
   go_cut [185] (fun u wx => u = .bool (decide (s < A.length ∧ 0 < r)) ∧ wx = wr)
   case first => as_aux_lemma =>
    by_cases c : s < A.length
    ·have c2 : (i : Int) < (m : Int) := Int.ofNat_lt.2 (HKI.out.1.2 c)
     by_cases d : 0 < r
     ·have c3 : (m : Int) < (en : Int) := Int.ofNat_lt.2 (HKI.out.2.1.2 d)
      go_wp2_with fail
      go_meet
      exact ⟨by simp [c, d], rfl⟩
     have c3 : ¬ (m : Int) < (en : Int) := fun h => d (HKI.out.2.1.1 (Int.ofNat_lt.1 h))
     go_wp2_with fail
     go_meet
     exact ⟨by simp [d], rfl⟩
    have c2 : ¬ (i : Int) < (m : Int) := fun h => c (HKI.out.1.1 (Int.ofNat_lt.1 h))
    have c4 : decide ((i : Int) < (m : Int)) = false := decide_eq_false c2
    go_wp2_with fail
    go_meet
    exact ⟨by simp [c], rfl⟩
   case rest =>
    obtain ⟨rfl, rfl⟩ := hcut
    go_upto_if 185 with fail
    go_cut [] (fun wx => Sw w0 wx g T enc rest (P ++ (A1 ++ (B1 ++ (A2 ++ (B2 ++ S))))))
    case first => as_aux_lemma =>
     by_cases c1 : s < A.length ∧ 0 < r
     ·have cb : decide (s < A.length ∧ 0 < r) = true := decide_eq_true c1
      have HR := zH (rotate_any enc hk h1 w0 wc g cap i m en N T rest (P ++ A1) A2 B1 (B2 ++ S) (.func (.func 36) #[] #[]) HST2.out (by rw [List.length_append, HLL.out.1]; exact HKE.out.1) (by rw [HLL.out.2.1]; exact HKE.out.2.1) (by rw [HLL.out.2.2.1]; exact HKE.out.2.2.1) (ne_of_len (by rw [HLL.out.2.1]; omega)) (ne_of_len (by rw [HLL.out.2.2.1]; exact c1.2)) HN2.out hsz)
      generalize decide (s < A.length ∧ 0 < r) = bb at *
      subst cb
      go_wp2_with (go_at_call 105; refine HR.out.mono ?_; rintro e w2 ⟨rfl, hs2⟩)
      go_meet
      simpa only [List.append_assoc] using hs2
     have cb : decide (s < A.length ∧ 0 < r) = false := decide_eq_false c1
     have HE := zH (show (P ++ A1) ++ (A2 ++ (B1 ++ (B2 ++ S))) = P ++ (A1 ++ (B1 ++ (A2 ++ (B2 ++ S)))) by
      by_cases c : s < A.length
      ·have : B1 = [] := List.eq_nil_of_length_eq_zero (by rw [HLL.out.2.2.1]; omega)
       rw [this]; simp
      have : A2 = [] := List.eq_nil_of_length_eq_zero (by rw [HLL.out.2.1]; omega)
      rw [this]; simp)
     generalize decide (s < A.length ∧ 0 < r) = bb at *
     subst cb
     go_wp2_with fail
     go_meet
     rw [← HE.out]; exact HST2.out
    case rest =>
     have HST3 := zH hcut
     clear hcut HST2
     go_upto_region 41 with fail
     go_cut [199] (fun u wx => u = .bool (decide (0 < s ∧ 0 < r)) ∧ wx = wc)
     case first => as_aux_lemma =>
      by_cases c : 0 < s
      ·have c2 : (a : Int) < (i : Int) := Int.ofNat_lt.2 (HKI.out.2.2.1.2 c)
       by_cases d : 0 < r
       ·have c3 : (i : Int) < (mid : Int) := Int.ofNat_lt.2 (HKI.out.2.2.2.1.2 d)
        go_wp2_with fail
        go_meet
        exact ⟨by simp [c, d], rfl⟩
       have c3 : ¬ (i : Int) < (mid : Int) := fun h => d (HKI.out.2.2.2.1.1 (Int.ofNat_lt.1 h))
       go_wp2_with fail
       go_meet
       exact ⟨by simp [d], rfl⟩
      have c2 : ¬ (a : Int) < (i : Int) := fun h => c (HKI.out.2.2.1.1 (Int.ofNat_lt.1 h))
      have c4 : decide ((a : Int) < (i : Int)) = false := decide_eq_false c2
      go_wp2_with fail
      go_meet
      exact ⟨by simp [c], rfl⟩
     case rest =>
      obtain ⟨rfl, rfl⟩ := hcut
      go_upto_if 199 with fail
      go_cut [] (fun wx => Sw w0 wx g T enc rest (P ++ (Stb.mrg lt A1 B1 ++ (A2 ++ (B2 ++ S)))))
      case first => as_aux_lemma =>
       by_cases c1 : 0 < s ∧ 0 < r
       ·have cb : decide (0 < s ∧ 0 < r) = true := decide_eq_true c1
        have HR := zH (HIH.out P A1 B1 (A2 ++ (B2 ++ S)) a i mid wc (ne_of_len (by rw [HLL.out.1]; exact c1.1)) (ne_of_len (by rw [HLL.out.2.2.1]; exact c1.2)) (by rw [HLL.out.1, HLL.out.2.2.1]; exact HLT.out.1) HST3.out HKE.out.2.2.2.2.2.2.2.2 (by rw [HLL.out.1]; exact HKE.out.2.2.2.1) (by rw [HLL.out.2.2.1]; exact HKE.out.2.2.2.2.1) HSA.out.1 HSA.out.2.2.1 (by simp only [List.length_append, HLL.out.1, HLL.out.2.1, HLL.out.2.2.1, HLL.out.2.2.2]; exact HKL.out))
        generalize decide (0 < s ∧ 0 < r) = bb at *
        subst cb
        go_wp2_with (go_at_call 88; refine HR.out.mono ?_; rintro e w2 ⟨rfl, hs2⟩)
        go_meet
        exact hs2
       have cb : decide (0 < s ∧ 0 < r) = false := decide_eq_false c1
       have HE := zH (HE1.out c1)
       generalize decide (0 < s ∧ 0 < r) = bb at *
       subst cb
       go_wp2_with fail
       go_meet
       rw [HE.out]; have h := HST3.out; simpa only [List.append_assoc] using h
      case rest =>
       have HST4 := zH hcut
       clear hcut HST3
       have HLM := zH (Stb.mrg_len (lt := lt) A1 B1)
       have HR0 := zH (show P ++ (Stb.mrg lt A1 B1 ++ (Stb.mrg lt A2 B2 ++ S)) = P ++ (Stb.mrg lt A B ++ S) by rw [HM.out, List.append_assoc])
       go_upto_region 43 with fail
       go_cut [213] (fun u wx => u = .bool (decide (s < A.length ∧ r < B.length)) ∧ wx = wc)
       case first => as_aux_lemma =>
        by_cases c : s < A.length
        ·have c2 : (mid : Int) < (en : Int) := Int.ofNat_lt.2 (HKI.out.2.2.2.2.1.2 c)
         by_cases d : r < B.length
         ·have c3 : (en : Int) < (b : Int) := Int.ofNat_lt.2 (HKI.out.2.2.2.2.2.2 d)
          go_wp2_with fail
          go_meet
          exact ⟨by simp [c, d], rfl⟩
         have c3 : ¬ (en : Int) < (b : Int) := fun h => d (HKI.out.2.2.2.2.2.1 (Int.ofNat_lt.1 h))
         go_wp2_with fail
         go_meet
         exact ⟨by simp [d], rfl⟩
        have c2 : ¬ (mid : Int) < (en : Int) := fun h => c (HKI.out.2.2.2.2.1.1 (Int.ofNat_lt.1 h))
        have c4 : decide ((mid : Int) < (en : Int)) = false := decide_eq_false c2
        go_wp2_with fail
        go_meet
        exact ⟨by simp [c], rfl⟩
       case rest =>
        obtain ⟨rfl, rfl⟩ := hcut
        by_cases c1 : s < A.length ∧ r < B.length
        ·have cb : decide (s < A.length ∧ r < B.length) = true := decide_eq_true c1
         have HR := zH (HIH.out (P ++ Stb.mrg lt A1 B1) A2 B2 S mid en b wc (ne_of_len (by rw [HLL.out.2.1]; omega)) (ne_of_len (by rw [HLL.out.2.2.2]; omega)) (by rw [HLL.out.2.1, HLL.out.2.2.2]; exact HLT.out.2) (by rw [List.append_assoc]; exact HST4.out) (by rw [List.length_append, HLM.out, HLL.out.1, HLL.out.2.2.1]; exact HKE.out.2.2.2.2.2.2.2.1) (by rw [HLL.out.2.1]; exact HKE.out.2.2.2.2.2.1) (by rw [HLL.out.2.2.2]; exact HKE.out.2.2.2.2.2.2.1) HSA.out.2.1 HSA.out.2.2.2 (by have h := HKL.out; simp only [List.length_append, HLM.out, HLL.out.1, HLL.out.2.1, HLL.out.2.2.1, HLL.out.2.2.2]; omega))
         generalize decide (s < A.length ∧ r < B.length) = bb at *
         subst cb
         go_wp2_with (go_at_call 88; refine HR.out.mono ?_; rintro e w2 ⟨rfl, hs2⟩)
         go_end0
         exact ⟨rfl, by rw [← HR0.out, ← List.append_assoc P]; exact hs2⟩
        have cb : decide (s < A.length ∧ r < B.length) = false := decide_eq_false c1
        have HE := zH (HE2.out c1)
        generalize decide (s < A.length ∧ r < B.length) = bb at *
        subst cb
        go_wp2_with fail
        go_end0
        exact ⟨rfl, by rw [← HR0.out, HE.out, List.append_assoc]; exact HST4.out⟩

theorem symMerge_any {α : Type} (enc : α → List Value) (hk : ∀ x, (enc x).length = 5) (h1 : ∀ x, ∀ v, v ∈ enc x → v.oneCell' = true) (lt : α → α → Bool) (W : Stb.Wk lt) (w0 : World) (g cap N : Nat) (T : TypeId) (rest : List Value) (hc : (∀ wr, Own g w0 wr → ∀ x y : α, Calls Tryz.prog 36 #[.agg (enc x).toArray, .agg (enc y).toArray] wr fun e w' => ∃ z : Int, e = .returned (.int .i64 z) ∧ (z < 0 ↔ lt x y = true) ∧ Ext wr w')) (hsz : N ≤ 100000) :
  ∀ (n : Nat) (P A B S : List α) (a m b : Nat) (wr : World), A ≠ [] → B ≠ [] → A.length + B.length ≤ n → Sw w0 wr g T enc rest (P ++ (A ++ (B ++ S))) → P.length = a → a + A.length = m → m + B.length = b → Stb.Srt lt A → Stb.Srt lt B → (P ++ (A ++ (B ++ S))).length = N → Calls Tryz.prog 88 #[.slice (some ⟨g, 0, none⟩) N cap, .int .i64 a, .int .i64 m, .int .i64 b, .func (.func 36) #[] #[]] wr fun e w' => e = .returned (.tuple #[]) ∧ Sw w0 w' g T enc rest (P ++ (Stb.mrg lt A B ++ S)) := by
 intro n
 induction n with
 | zero => intro P A B S a m b wr hA hB hl; exact absurd (List.eq_nil_of_length_eq_zero (by omega)) hA
 | succ n ih =>
  intro P A B S a m b wr hA0 hB0 hl hst ha hm hb hA hB hN
  match A, hA0 with
  | [x], _ => exact symA_any enc hk h1 lt W w0 wr g cap a m b N T rest P B S x hc hst ha hm hb hB hN hsz
  | x :: x2 :: A, hA0 =>
   match B, hB0 with
   | [y], _ => exact symB_any enc hk h1 lt W w0 wr g cap a m b N T rest P (x :: x2 :: A) S y hc hst ha hm hb (by simp) hA hN hsz
   | y :: y2 :: B, hB0 =>
    exact symC_any enc hk h1 lt W w0 wr g cap a m b N T rest P (x :: x2 :: A) (y :: y2 :: B) S hc (fun P' A' B' S' a' m' b' w' q1 q2 q3 q4 q5 q6 q7 q8 q9 q10 => ih P' A' B' S' a' m' b' w' q1 q2 (by omega) q4 q5 q6 q7 q8 q9 q10) hst ha hm hb hA0 hB0 (by simp) (by simp) hA hB hN hsz

set_option maxRecDepth 20000 in
set_option maxHeartbeats 4000000 in
theorem stable_any {α : Type} (enc : α → List Value) (hk : ∀ x, (enc x).length = 5) (h1 : ∀ x, ∀ v, v ∈ enc x → v.oneCell' = true) (lt : α → α → Bool) (W : Stb.Wk lt) (w0 w : World) (g cap N : Nat) (T : TypeId) (rest : List Value) (xs : List α) (hc : (∀ wr, Own g w0 wr → ∀ x y : α, Calls Tryz.prog 36 #[.agg (enc x).toArray, .agg (enc y).toArray] wr fun e w' => ∃ z : Int, e = .returned (.int .i64 z) ∧ (z < 0 ↔ lt x y = true) ∧ Ext wr w')) (hst : Sw w0 w g T enc rest xs) (hN : xs.length = N) (hsz : N ≤ 20000) :
  Calls Tryz.prog 62 #[.slice (some ⟨g, 0, none⟩) N cap, .int .i64 N, .func (.func 36) #[] #[]] w fun e w' => e = .returned (.tuple #[]) ∧ Sw w0 w' g T enc rest (Stb.stab lt xs) := by
 have HC := zH hc
 have HST0 := zH hst
 have HN := zH hN
 clear hst hc hN
 go_enter Tryz.func62, Tryz.ntmps62
 go_wp2_with fail
 go_loopg [7, 8] (N + 20) (fun c u v wr => ∃ (a b : Nat) (row : List α), b = a + 20 ∧ a ≤ N ∧ c = N + 20 - a ∧ u = .int .i64 a ∧ v = .int .i64 b ∧ Stb.Fst lt 20 a xs row ∧ Sw w0 wr g T enc rest row)
 case atStart => exact ⟨0, 20, xs, rfl, Nat.zero_le _, rfl, rfl, rfl, Stb.Fst.start 20 xs, HST0.out⟩
 case round =>
  clear HST0
  obtain ⟨a, b, row, hb, haN, rfl, rfl, rfl, hf, hst⟩ := hrel
  have HST := zH hst
  have HF := zH hf
  clear hst hf
  by_cases hlt : b ≤ N
  ·have hlt2 : (b : Int) ≤ (N : Int) := by omega
   obtain ⟨P, X, S, rfl, hP, hX, hF2⟩ := HF.out.cut (by rw [HN.out]; omega)
   have hlen := HF.out.len
   have HB := zH (insertion_any enc hk h1 lt W w0 wr g cap a b N T rest P X S HC.out HST.out hP (by omega) (by rw [hlen, HN.out]) (by omega))
   have HF2 := zH hF2
   clear hP hX hF2 hlen HST
   obtain ⟨b2, hb2⟩ : ∃ b2, b2 = b + 20 := ⟨_, rfl⟩
   have e1 : (b : Int) + 20 = (b2 : Int) := by omega
   have wb : IntKind.i64.wrap (b2 : Int) = (b2 : Int) := by rw [IntKind.wrap_i64]; omega
   have HB2 := zH (And.intro hb hb2)
   clear hb hb2
   go_wp2_with (go_at_call 87; refine HB.out.mono ?_; rintro e w2 ⟨rfl, hs2⟩)
   go_roundg (N + 20 - b)
   case measure => have := HB2.out; omega
   case rel => exact ⟨b, b2, _, HB2.out.2, hlt, rfl, rfl, rfl, by rw [HB2.out.1]; exact HF2.out, hs2⟩
  have hlt2 : ¬ (b : Int) ≤ (N : Int) := by omega
  obtain ⟨P, X, rfl, hP, hX, hF2⟩ := HF.out.last (by rw [HN.out]; omega)
  have hlen := HF.out.len
  have HB := zH (insertion_any enc hk h1 lt W w0 wr g cap a N N T rest P X [] HC.out HST.out hP (by rw [hX, HN.out]) (by rw [hlen, HN.out]) (by omega))
  have HF2 := zH hF2
  clear hP hX hF2 hlen HST hb
  go_wp2_with (go_at_call 87; refine HB.out.mono ?_; rintro e w2 ⟨rfl, hs2⟩)
  have HS2 := zH hs2
  clear hs2 HB HF
  go_loopg [6] (2 * N) (fun c v wr => ∃ (s : Nat) (row : List α), 20 ≤ s ∧ s ≤ 2 * N + 20 ∧ c = 2 * N + 20 - s ∧ v = .int .i64 s ∧ Stb.Blks lt s xs row ∧ Sw w0 wr g T enc rest row)
  case atStart => exact ⟨20, _, Nat.le_refl _, by omega, by omega, rfl, HF2.out, HS2.out⟩
  case round =>
   clear HS2 HF2 hlt2 hlt
   obtain ⟨s, row, hs20, hs2N, rfl, rfl, hf, hst⟩ := hrel
   have HST := zH hst
   have HF := zH hf
   clear hst hf
   by_cases hlt : s < N
   ·have hlt2 : (s : Int) < (N : Int) := by omega
    obtain ⟨d, hd⟩ : ∃ d, d = 2 * s := ⟨_, rfl⟩
    have e1 : 2 * (s : Int) = (d : Int) := by omega
    have e1b : (s : Int) * 2 = (d : Int) := by omega
    have wd : IntKind.i64.wrap (d : Int) = (d : Int) := by rw [IntKind.wrap_i64]; omega
    have HD := zH hd
    clear hd
    go_wp2_with fail
    go_loopg [7, 8] (N + d) (fun c u v wr => ∃ (a b : Nat) (row : List α), b = a + d ∧ a ≤ N ∧ c = N + d - a ∧ u = .int .i64 a ∧ v = .int .i64 b ∧ Stb.Half lt s a xs row ∧ Sw w0 wr g T enc rest row)
    case atStart => exact ⟨0, d, row, by omega, Nat.zero_le _, rfl, rfl, rfl, HF.out.half, HST.out⟩
    case round =>
     clear HST HF
     obtain ⟨a, b, row2, hb, haN, rfl, rfl, rfl, hf, hst⟩ := hrel
     have HST := zH hst
     have HF := zH hf
     clear hst hf
     by_cases hlb : b ≤ N
     ·have hlb2 : (b : Int) ≤ (N : Int) := by omega
      obtain ⟨P, A, B, S, rfl, hP, hA, hB, hsA, hsB, hF2⟩ := HF.out.cut W (by omega) (by rw [HN.out]; have := HD.out; omega)
      have hlen := HF.out.len
      obtain ⟨m, hm⟩ : ∃ m, m = a + s := ⟨_, rfl⟩
      have e2 : (a : Int) + (s : Int) = (m : Int) := by omega
      have wm : IntKind.i64.wrap (m : Int) = (m : Int) := by rw [IntKind.wrap_i64]; omega
      have HB := zH (symMerge_any enc hk h1 lt W w0 g cap N T rest HC.out (by omega) _ P A B S a m b wr (ne_of_len (by omega)) (ne_of_len (by omega)) (Nat.le_refl _) HST.out hP (by rw [hA, hm]) (by have := HD.out; omega) hsA hsB (by rw [hlen, HN.out]))
      obtain ⟨b2, hb2⟩ : ∃ b2, b2 = b + d := ⟨_, rfl⟩
      have e3 : (b : Int) + (d : Int) = (b2 : Int) := by omega
      have wb : IntKind.i64.wrap (b2 : Int) = (b2 : Int) := by rw [IntKind.wrap_i64]; omega
      have HB2 := zH (And.intro hb hb2)
      have HF2 := zH hF2
      clear hP hA hB hsA hsB hF2 hlen HST hb hb2 hm
      go_wp2_with (go_at_call 88; refine HB.out.mono ?_; rintro e w2 ⟨rfl, hs2⟩)
      go_roundg (N + d - b)
      case measure => have := HB2.out; omega
      case rel => exact ⟨b, b2, _, HB2.out.2, hlb, rfl, rfl, rfl, by rw [HB2.out.1, HD.out]; exact HF2.out, hs2⟩
     have hlb2 : ¬ (b : Int) ≤ (N : Int) := by omega
     obtain ⟨m, hm⟩ : ∃ m, m = a + s := ⟨_, rfl⟩
     have e2 : (a : Int) + (s : Int) = (m : Int) := by omega
     have wm : IntKind.i64.wrap (m : Int) = (m : Int) := by rw [IntKind.wrap_i64]; omega
     by_cases hmN : m < N
     ·have hmN2 : (m : Int) < (N : Int) := by omega
      obtain ⟨P, A, B, rfl, hP, hA, hB, hsA, hsB, hF2⟩ := HF.out.last W (by rw [HN.out]; have := HD.out; omega) (by rw [HN.out]; omega)
      have hlen := HF.out.len
      rw [HN.out] at hB
      have HB := zH (symMerge_any enc hk h1 lt W w0 g cap N T rest HC.out (by omega) _ P A B [] a m N wr (ne_of_len (by omega)) (ne_of_len (by omega)) (Nat.le_refl _) HST.out hP (by rw [hA, hm]) (by omega) hsA hsB (by rw [hlen, HN.out]))
      have HF2 := zH hF2
      clear hP hA hB hsA hsB hF2 hlen HST hb hm
      go_wp2_with (go_at_call 88; refine HB.out.mono ?_; rintro e w2 ⟨rfl, hs2⟩)
      go_roundg (2 * N + 20 - d)
      case measure => have := HD.out; omega
      case rel => exact ⟨d, _, by have := HD.out; omega, by have := HD.out; omega, rfl, rfl, by rw [HD.out]; exact HF2.out, hs2⟩
     have hmN2 : ¬ (m : Int) < (N : Int) := by omega
     have HF2 := zH (HF.out.none (by rw [HN.out]; have := HD.out; omega) (by rw [HN.out]; omega))
     clear hb hm
     go_wp2_with fail
     go_roundg (2 * N + 20 - d)
     case measure => have := HD.out; omega
     case rel => exact ⟨d, _, by have := HD.out; omega, by have := HD.out; omega, rfl, rfl, by rw [HD.out]; exact HF2.out, HST.out⟩
   have hlt2 : ¬ (s : Int) < (N : Int) := by omega
   have HR := zH (HF.out.all (by rw [HN.out]; omega))
   go_wp2_with fail
   go_end0
   exact ⟨rfl, by rw [← HR.out]; exact HST.out⟩

theorem sortStable_any {α : Type} (enc : α → List Value) (hk : ∀ x, (enc x).length = 5) (h1 : ∀ x, ∀ v, v ∈ enc x → v.oneCell' = true) (lt : α → α → Bool) (W : Stb.Wk lt) (w0 w : World) (g cap N : Nat) (T : TypeId) (rest : List Value) (xs : List α) (hc : (∀ wr, Own g w0 wr → ∀ x y : α, Calls Tryz.prog 36 #[.agg (enc x).toArray, .agg (enc y).toArray] wr fun e w' => ∃ z : Int, e = .returned (.int .i64 z) ∧ (z < 0 ↔ lt x y = true) ∧ Ext wr w')) (hst : Sw w0 w g T enc rest xs) (hN : xs.length = N) (hsz : N ≤ 20000) :
  Calls Tryz.prog 35 #[.slice (some ⟨g, 0, none⟩) N cap, .func (.func 36) #[] #[]] w fun e w' => e = .returned (.tuple #[]) ∧ Sw w0 w' g T enc rest (Stb.stab lt xs) := by
 have HB := zH (stable_any enc hk h1 lt W w0 w g cap N T rest xs hc hst hN hsz)
 clear hc hst hN
 go_enter Tryz.func35, Tryz.ntmps35
 go_wp2_with (go_at_call 62; refine HB.out.mono ?_; rintro e w2 ⟨rfl, hs2⟩)
 go_end0
 exact ⟨rfl, hs2⟩

theorem insertion_none (v c : Value) (w : World) : Calls Tryz.prog 87 #[v, .int .i64 0, .int .i64 0, c] w fun e w' => e = .returned (.tuple #[]) ∧ w = w' := by
  go_enter Tryz.func87, Tryz.ntmps87
  go_wp2_with fail
  refine wp_loop_rounds 1 ?_
  rw [rounds_succ]
  go_wp2_with fail
  go_end0
  exact ⟨rfl, rfl⟩
theorem stable_none (v c : Value) (w : World) : Calls Tryz.prog 62 #[v, .int .i64 0, c] w fun e w' => e = .returned (.tuple #[]) ∧ w = w' := by
  go_enter Tryz.func62, Tryz.ntmps62
  go_wp2_with fail
  refine wp_loop_rounds 1 ?_
  rw [rounds_succ]
  go_wp2_with (go_at_call 87; refine (insertion_none _ _ _).mono ?_; rintro e w2 ⟨rfl, rfl⟩)
  refine wp_loop_rounds 1 ?_
  rw [rounds_succ]
  go_wp2_with fail
  go_end0
  exact ⟨rfl, rfl⟩
theorem sortStable_none (A : Option Addr) (cap : Nat) (c : Value) (w : World) : Calls Tryz.prog 35 #[.slice A 0 cap, c] w fun e w' => e = .returned (.tuple #[]) ∧ w = w' := by
  go_enter Tryz.func35, Tryz.ntmps35
  go_wp2_with (go_at_call 62; refine (stable_none _ _ _).mono ?_; rintro e w2 ⟨rfl, rfl⟩)
  go_end0
  exact ⟨rfl, rfl⟩
end Go.Proofs.YtmgibncehlpfkaaGreat.mrk

namespace Go.Proofs.YtmgibncehlpfkaaGreat
open Go.RowKit
attribute [local go_sem ↓] Go.wp_at_zero Go.wp_at_succ run_max_ii run_min_ii

theorem results_c1t1 {P : Program} {fn : Func} {i j : Tmp} {t : TypeId} (h : fn.results = #[.cell i t, .tmp j]) {tmps : Array Value} {w : World} {p : Addr} {v v2 : Value}
    (hi : tmps.getD i undef = .pointer (some p)) (h1 : (Go.loadVar t p).run P w = .ok v w) (hj : tmps.getD j undef = v2) : (results fn tmps).run P w = .ok (.tuple #[v, v2]) w := by
  simp only [Array.getD_eq_getD_getElem?] at hi hj
  simp [results, h, hi, hj, h1, asAddr]
theorem rcmp_neg (q r : Rat) : rcmp r q = - rcmp q r := by
  unfold rcmp
  rw [← Int.sign_neg]
  congr 1
  omega
theorem PtsV.two {w : World} {X : Nat} {t : TypeId} {ax ay bx bY : Int} (h : Blk w X t #[.int .i64 ax, .int .i64 ay, .int .i64 bx, .int .i64 bY]) : PtsV w (.slice (some ⟨X, 0, none⟩) 2 2) [(ax, ay), (bx, bY)] := by
  refine ⟨_, 2, rfl, fun _ => ⟨X, 0, rfl, fun i hi => ?_⟩⟩
  match i, hi with
  | 0, _ => exact ⟨by rw [h.cell]; rfl, by rw [h.cell]; rfl⟩
  | 1, _ => exact ⟨by rw [h.cell]; rfl, by rw [h.cell]; rfl⟩
theorem may_t (u : Value) (ps : List (Int × Int)) (w : World) (hu : PtsV w u ps) (hn : ps.length ≤ 100000) (hok : okAll ps = true) :
    Calls Tryz.prog 57 #[u] w fun e w' => e = .returned (.bool true) ∧ Ext w w' := by
  have h := may_any u ps w hu hn
  rw [hok] at h
  exact h
def xatV (ax ay bx bY : Int) (y : Rat) : Rat := (ax : Rat) + (y - (ay : Rat)) * (((1 : Int) : Rat) / ((bY - ay : Int) : Rat)) * ((bx - ax : Int) : Rat)
theorem zu {a' : Act} {P : Program} {l : List Oper} {Q : Exit → Act → World → Prop} {md : Region.Mode} {S : World → Prop} {oi : Oper} {fuel : Nat} {listed : Array Bool} {a : Act} {w : World} {v : Value} (i : Nat) (listed' : Array Bool) (hS : S w) (h : wpAnyH P md l.toArray Q S fuel listed' a' w) (hi : l[i]? = some oi := by rfl) (hs : Region.noSelect l.toArray = true := by kernel_rfl) (hf : Region.free md l.toArray listed i = true := by kernel_rfl) (hr : (Region.ready md l.toArray listed).contains i = true := by kernel_rfl) (hv : ∀ w, S w → (execOp a.eval oi).run P w = .ok (.value v) w) (hQ : ∀ c a w, Q (.panic c) (a.put oi.dst v) w → Q (.panic c) a w := by intro _ _ _ h; exact h) (hw : Region.wanted oi (yielded l.toArray a.tmps) = true := by rfl) (hl : listed.setIfInBounds i true = listed' := by kernel_rfl) (ha : a.put oi.dst v = a' := by simp only [Act.put, zA, zB, zC] <;> rfl) : wpAnyH P md l.toArray Q S (fuel + 1) listed a w := by subst ha; exact md_val hi hs hf hr hQ hw hv hS hl h
set_option maxRecDepth 20000 in
set_option maxHeartbeats 8000000 in
theorem xat_any (L : Nat) (ax ay bx bY : Int) (cy : Array Value) (y : Rat) (w : World) (hy : NIn L w cy y) (h1L : 1 ≤ L) (hL : L ≤ 2000) (ha : okPt ax ay = true) (hb : okPt bx bY = true) (hne : ay ≠ bY) (hlo : ((min ay bY : Int) : Rat) ≤ y) (hhi : y ≤ ((max ay bY : Int) : Rat)) :
  Calls Tryz.prog 34 #[.agg #[.int .i64 ax, .int .i64 ay], .agg #[.int .i64 bx, .int .i64 bY], .agg cy] w fun e w' => ∃ c, e = .returned (.tuple #[.agg c, .bool true]) ∧ NIs w' c (xatV ax ay bx bY y) ∧ Ext w w' := by
 have ha2 : (-1048576 ≤ ax ∧ ax ≤ 1048576) ∧ (-1048576 ≤ ay ∧ ay ≤ 1048576) := by simpa [okPt] using ha
 have hb2 : (-1048576 ≤ bx ∧ bx ≤ 1048576) ∧ (-1048576 ≤ bY ∧ bY ≤ 1048576) := by simpa [okPt] using hb
 have HOK := zH (show okAll [(ax, ay), (bx, bY)] = true by simp [okAll, ha, hb])
 have ZY := hy.size
 have ry := hy.rl h1L
 have k1 : ¬ rcmp y ((min ay bY : Int) : Rat) < 0 := fun h => Rat.not_lt.2 hlo (rcmp_lt.1 h)
 have k2 : ¬ rcmp ((max ay bY : Int) : Rat) y < 0 := fun h => Rat.not_lt.2 hhi (rcmp_lt.1 h)
 have HK1 := zH k1
 have HK2 := zH k2
 have hm1 : -1048576 ≤ min ay bY ∧ min ay bY ≤ 1048576 := by omega
 have hm2 : -1048576 ≤ max ay bY ∧ max ay bY ≤ 1048576 := by omega
 clear ha hb hlo hhi k1 k2
 have Fy := zH hy
 clear hy
 go_enter Tryz.func34, Tryz.ntmps34
 go_upto_region 1 with fail
 have hbx0 : Blk ((((w.alloc (.cells #[.int .i64 ax, .int .i64 ay] 45)).alloc (.cells #[.int .i64 bx, .int .i64 bY] 45)).alloc (.cells cy 27)).alloc (.cells z4 27)) (w.heap.size) 45 #[.int .i64 ax, .int .i64 ay] := Blk.ext (Blk.new_at w _ (by simp) _ _) ((((Ext.refl _).alloc _).alloc _).alloc _)
 have hbx1 : Blk ((((w.alloc (.cells #[.int .i64 ax, .int .i64 ay] 45)).alloc (.cells #[.int .i64 bx, .int .i64 bY] 45)).alloc (.cells cy 27)).alloc (.cells z4 27)) (w.heap.size + 1) 45 #[.int .i64 bx, .int .i64 bY] := Blk.ext (Blk.new_at (w.alloc (.cells #[.int .i64 ax, .int .i64 ay] 45)) _ (by simp) _ _) (((Ext.refl _).alloc _).alloc _)
 have hbx2 : Blk ((((w.alloc (.cells #[.int .i64 ax, .int .i64 ay] 45)).alloc (.cells #[.int .i64 bx, .int .i64 bY] 45)).alloc (.cells cy 27)).alloc (.cells z4 27)) (w.heap.size + 1 + 1) 27 cy := Blk.ext (Blk.new_at ((w.alloc (.cells #[.int .i64 ax, .int .i64 ay] 45)).alloc (.cells #[.int .i64 bx, .int .i64 bY] 45)) _ (by simp) _ _) ((Ext.refl _).alloc _)
 have hR0 : Blk ((((w.alloc (.cells #[.int .i64 ax, .int .i64 ay] 45)).alloc (.cells #[.int .i64 bx, .int .i64 bY] 45)).alloc (.cells cy 27)).alloc (.cells z4 27)) (w.heap.size + 1 + 1 + 1) 27 z4 := Blk.ext (Blk.new_at (((w.alloc (.cells #[.int .i64 ax, .int .i64 ay] 45)).alloc (.cells #[.int .i64 bx, .int .i64 bY] 45)).alloc (.cells cy 27)) _ (by simp) _ _) (Ext.refl _)
 have hE : Ext w ((((w.alloc (.cells #[.int .i64 ax, .int .i64 ay] 45)).alloc (.cells #[.int .i64 bx, .int .i64 bY] 45)).alloc (.cells cy 27)).alloc (.cells z4 27)) := (((((Ext.refl _).alloc _).alloc _).alloc _).alloc _)
 have gR0 : w.heap.size ≤ w.heap.size + 1 + 1 + 1 := by omega
 have nbx0_R0 : w.heap.size ≠ w.heap.size + 1 + 1 + 1 := by omega
 have nbx1_R0 : w.heap.size + 1 ≠ w.heap.size + 1 + 1 + 1 := by omega
 have nbx2_R0 : w.heap.size + 1 + 1 ≠ w.heap.size + 1 + 1 + 1 := by omega
 generalize ((((w.alloc (.cells #[.int .i64 ax, .int .i64 ay] 45)).alloc (.cells #[.int .i64 bx, .int .i64 bY] 45)).alloc (.cells cy 27)).alloc (.cells z4 27)) = wa at *
 generalize w.heap.size + 1 + 1 + 1 = R0 at *
 generalize w.heap.size + 1 + 1 = bx2 at *
 generalize w.heap.size + 1 = bx1 at *
 have E1 : Hid (Ext w wa) := hE
 have Fbx0 := zH hbx0
 have Fbx1 := zH hbx1
 have Fbx2 := zH hbx2
 have FR0 := zH hR0
 clear hE hbx0 hbx1 hbx2 hR0
 refine wp_region_held_drew (S := fun x => Ext wa x) (by kernel_rfl) (Ext.refl _).drew (fun _ => ?_)
 have E2 := zH (show Ext wa wa.drew from (Ext.refl _).drew)
 refine zv 0 (bs 16 1) E2.out ?_
 refine zu 1 (bs 16 3) (v := .int .i64 ay) E2.out ?_ (hv := by intro w hSw; (try dsimp only at hSw); have hq_ := (Fbx0.out.ext hSw).cell 1; simp only [List.getElem?_toArray, List.getElem?_cons_zero, List.getElem?_cons_succ] at hq_; go_simp <;> with_reducible rfl)
 refine zv 2 (bs 16 7) E2.out ?_
 refine zu 3 (bs 16 15) (v := .int .i64 bY) E2.out ?_ (hv := by intro w hSw; (try dsimp only at hSw); have hq_ := (Fbx1.out.ext hSw).cell 1; simp only [List.getElem?_toArray, List.getElem?_cons_zero, List.getElem?_cons_succ] at hq_; go_simp <;> with_reducible rfl)
 refine zv 4 (bs 16 31) E2.out ?_
 refine zv 6 (bs 16 95) E2.out ?_
 refine zu 7 (bs 16 223) (v := .int .i64 ay) E2.out ?_ (hv := by intro w hSw; (try dsimp only at hSw); have hq_ := (Fbx0.out.ext hSw).cell 1; simp only [List.getElem?_toArray, List.getElem?_cons_zero, List.getElem?_cons_succ] at hq_; go_simp <;> with_reducible rfl)
 refine zv 8 (bs 16 479) E2.out ?_
 refine zu 9 (bs 16 991) (v := .int .i64 bY) E2.out ?_ (hv := by intro w hSw; (try dsimp only at hSw); have hq_ := (Fbx1.out.ext hSw).cell 1; simp only [List.getElem?_toArray, List.getElem?_cons_zero, List.getElem?_cons_succ] at hq_; go_simp <;> with_reducible rfl)
 refine zv 10 (bs 16 2015) E2.out ?_
 refine tuple2 (f := 2) 5 11 12 13 16 22 8 9 27 z4 (fun v w => ∃ c, v = .agg c ∧ NIs w c ((min ay bY : Int) : Rat)) (fun v w => ∃ c, v = .agg c ∧ NIs w c ((max ay bY : Int) : Rat)) rfl rfl rfl rfl (by decide) (by decide) (by kernel_rfl) (fun _ hx => E2.out.trans hx) (fun _ _ _ h e => by obtain ⟨c, h1, h2⟩ := h; exact ⟨c, h1, h2.ext e⟩) (fun _ _ _ h e => by obtain ⟨c, h1, h2⟩ := h; exact ⟨c, h1, h2.ext e⟩) ?hm11c1 ?hm11c2 ?hm11c3 ?hm11c4 ?hm11e undef undef undef undef (by kernel_rfl) rfl
 case hm11c1 =>
  intro v1 v2 v3 v4 w1 K hx hSw hK
  try simp only [Act.put, zA, zB, zC]
  rw [if_pos (by rfl)]
  refine wp_call_op (by go_simp) (pFrom (min ay bY) _ (by omega) (by omega)) ?_
  rintro e w' ⟨c, rfl, hc, he⟩
  refine ⟨_, rfl, ?_⟩
  have hk := hK.out _ _ ⟨_, rfl, hc⟩ he
  try simp only [Act.put, zA, zB, zC]
  simp only [Act.put, zA, zB, zC] at hk
  exact hk
 case hm11c2 =>
  intro v1 v2 v3 v4 w1 K hx hSw hK
  try simp only [Act.put, zA, zB, zC]
  rw [if_pos (by rfl)]
  refine wp_call_op (by go_simp) (pFrom (max ay bY) _ (by omega) (by omega)) ?_
  rintro e w' ⟨c, rfl, hc, he⟩
  refine ⟨_, rfl, ?_⟩
  have hk := hK.out _ _ ⟨_, rfl, hc⟩ he
  try simp only [Act.put, zA, zB, zC]
  simp only [Act.put, zA, zB, zC] at hk
  exact hk
 case hm11c3 =>
  intro v1 v2 v3 v4 w1 K hx hSw hK
  try simp only [Act.put, zA, zB, zC]
  go_simp
  have hk := hK.out
  simp only [Act.put, zA, zB, zC] at hk
  exact hk
 case hm11c4 =>
  intro v1 v2 v3 v4 w1 K hx hSw hK
  try simp only [Act.put, zA, zB, zC]
  go_simp
  have hk := hK.out
  simp only [Act.put, zA, zB, zC] at hk
  exact hk
 case hm11e =>
  intro v1 v2 Xm111 Xm112 wqm11 hx hSw xp1 xp2 xb1 xb2 xz1 xz2 n12
  obtain ⟨_, rfl, lo, rfl, ilo⟩ := xp1
  obtain ⟨_, rfl, hi, rfl, ihi⟩ := xp2
  (try simp only [zA, zB, zC])
  have hy : Ext wa wqm11 := hSw
  obtain ⟨xk2, xex, xr1, xr2, xe1, xfm⟩ := stored_two (zs := z4) (c1 := #[.bool lo.n, .slice lo.p lo.l lo.c, .bool lo.m, .slice lo.p2 lo.l2 lo.c2]) (c2 := #[.bool hi.n, .slice hi.p hi.l hi.c, .bool hi.m, .slice hi.p2 hi.l2 hi.c2]) (noU_of _ (by simp)) hy xb1 xb2 xz1 xz2 n12 rfl rfl
  refine mO 14 (bs 16 32767) #[.bool lo.n, .slice lo.p lo.l lo.c, .bool lo.m, .slice lo.p2 lo.l2 lo.c2] xb1 rfl (by kernel_rfl) (all_oneCell_toArray (by simp [Value.oneCell'])) xe1 ?_
  (try simp only [Act.put])
  refine mO 15 (bs 16 65535) #[.bool hi.n, .slice hi.p hi.l hi.c, .bool hi.m, .slice hi.p2 hi.l2 hi.c2] xk2 rfl (by kernel_rfl) (all_oneCell_toArray (by simp [Value.oneCell'])) xex ?_
  (try simp only [Act.put])
  refine wpAnyH_done (by kernel_rfl) ?_ _
  have jlo := xfm _ _ ilo
  have nV8_R0 : Xm111 ≠ R0 := by have h9 := Blk.lt FR0.out; have h8 : wa.heap.size ≤ Xm111 := xz1; omega
  have jhi := xfm _ _ ihi
  have nV9_R0 : Xm112 ≠ R0 := by have h9 := Blk.lt FR0.out; have h8 : wa.heap.size ≤ Xm112 := xz2; omega
  clear xb1 xb2 xfm hx hy hSw xk2 xe1 ilo ihi
  generalize ((wqm11.setCells Xm111 0 (#[.bool lo.n, .slice lo.p lo.l lo.c, .bool lo.m, .slice lo.p2 lo.l2 lo.c2] : Array Value).toList).setCells Xm112 0 (#[.bool hi.n, .slice hi.p hi.l hi.c, .bool hi.m, .slice hi.p2 hi.l2 hi.c2] : Array Value).toList) = wsm11 at *
  have E2 : Hid (Ext wa wsm11) := xex
  have FV8 := zH xr1
  have Flo := zH jlo
  have FV9 := zH xr2
  have Fhi := zH jhi
  clear xex xr1 jlo xr2 jhi
  obtain ⟨z1, hz1⟩ : ∃ z, z = rcmp y ((min ay bY : Int) : Rat) := ⟨_, rfl⟩
  obtain ⟨z2, hz2⟩ : ∃ z, z = rcmp y ((max ay bY : Int) : Rat) := ⟨_, rfl⟩
  have hz1n : ¬ z1 < 0 := by rw [hz1]; exact HK1.out
  have hz2n : ¬ 0 < z2 := by rw [hz2, rcmp_neg ((max ay bY : Int) : Rat) y]; have := HK2.out; omega
  have HZ1 := zH hz1
  have HZ2 := zH hz2
  clear hz1 hz2
  have hneb : (ay == bY) = false := by simpa using hne
  have rl1 := rlI (min ay bY) (by omega)
  have rl2 := rlI (max ay bY) (by omega)
  have rl3 := rlI ay (by omega)
  have rl4 := rlI 1 (by decide)
  have rl5 := rlI (bY - ay) (by omega)
  go_upto_region 2 with fail
  refine wp_region_lit ?_
  refine pL (Fbx0.out.ext E2.out) Tryz.underlying45 (by rw [show (#[.int .i64 ax, .int .i64 ay] : Array Value).size = 2 from rfl]; kernel_rfl) ?_
  try simp only [Act.put, zA, zB, zC]
  refine pL (Fbx1.out.ext E2.out) Tryz.underlying45 (by rw [show (#[.int .i64 bx, .int .i64 bY] : Array Value).size = 2 from rfl]; kernel_rfl) ?_
  try simp only [Act.put, zA, zB, zC]
  refine zp (w' := (wsm11.alloc (.cells #[.int .i64 ax, .int .i64 ay, .int .i64 bx, .int .i64 bY] 45))) (.slice (some ⟨wsm11.heap.size, 0, none⟩) 2 2) (by go_simp) ?_
  have hbS := Blk.new wsm11 45 #[.int .i64 ax, .int .i64 ay, .int .i64 bx, .int .i64 bY]
  have hxS : Ext wsm11 (wsm11.alloc (.cells #[.int .i64 ax, .int .i64 ay, .int .i64 bx, .int .i64 bY] 45)) := (Ext.refl _).alloc _
  generalize (wsm11.alloc (.cells #[.int .i64 ax, .int .i64 ay, .int .i64 bx, .int .i64 bY] 45)) = wS at *
  generalize wsm11.heap.size = XS at *
  have E3 : Hid (Ext wsm11 wS) := hxS
  refine mv_call (by rfl) (by go_simp) (may_t _ [(ax, ay), (bx, bY)] _ (PtsV.two hbS) (by simp) HOK.out) ?_
  rintro e w4 ⟨rfl, hx⟩
  have E4 : Hid (Ext wS w4) := hx
  clear hx
  refine ⟨_, rfl, ?_⟩
  try simp only [Act.put, zA, zB, zC]
  clear hbS
  refine pV (w' := w4) ?_
  try simp only [Act.put, zA, zB, zC]
  refine pV (w' := w4) ?_
  try simp only [Act.put, zA, zB, zC]
  refine pV (w' := w4) ?_
  try simp only [Act.put, zA, zB, zC]
  have hq_ := ((Fbx0.out.ext (tr E2 (tr E3 E4)).out)).cell 1
  simp only [List.getElem?_toArray, List.getElem?_cons_zero, List.getElem?_cons_succ] at hq_
  refine zq (.int .i64 ay) ?_
  clear hq_
  refine pV (w' := w4) ?_
  try simp only [Act.put, zA, zB, zC]
  have hq_ := ((Fbx1.out.ext (tr E2 (tr E3 E4)).out)).cell 1
  simp only [List.getElem?_toArray, List.getElem?_cons_zero, List.getElem?_cons_succ] at hq_
  refine zq (.int .i64 bY) ?_
  clear hq_
  refine pV (w' := w4) ?_
  try simp only [Act.put, zA, zB, zC]
  refine pV (w' := w4) ?_
  try simp only [Act.put, zA, zB, zC]
  refine pV (w' := w4) ?_
  try simp only [Act.put, zA, zB, zC]
  refine pL (Fbx2.out.ext (tr E2 (tr E3 E4)).out) Tryz.underlying27 (by rw [show (cy : Array Value).size = 4 from ZY]; kernel_rfl) ?_
  try simp only [Act.put, zA, zB, zC]
  refine pL (FV8.out.ext (tr E3 E4).out) Tryz.underlying27 (by rw [show (#[.bool lo.n, .slice lo.p lo.l lo.c, .bool lo.m, .slice lo.p2 lo.l2 lo.c2] : Array Value).size = 4 from rfl]; kernel_rfl) ?_
  try simp only [Act.put, zA, zB, zC]
  refine mv_call (by rfl) (by go_simp) (pCmpS (L := L) HZ1.out (Fy.out.ext (tr E1 (tr E2 (tr E3 E4))).out) (NIs.isIn ⟨lo, rfl, (Flo.out.ext (tr E3 E4).out)⟩ (by omega)) (by omega)) ?_
  rintro e w5 ⟨rfl, hx⟩
  have E5 : Hid (Ext w4 w5) := hx
  clear hx
  refine ⟨_, rfl, ?_⟩
  try simp only [Act.put, zA, zB, zC]
  refine pV (w' := w5) ?_
  try simp only [Act.put, zA, zB, zC]
  refine pV (w' := w5) ?_
  try simp only [Act.put, zA, zB, zC]
  refine pV (w' := w5) ?_
  try simp only [Act.put, zA, zB, zC]
  refine pL (Fbx2.out.ext (tr E2 (tr E3 (tr E4 E5))).out) Tryz.underlying27 (by rw [show (cy : Array Value).size = 4 from ZY]; kernel_rfl) ?_
  try simp only [Act.put, zA, zB, zC]
  refine pL (FV9.out.ext (tr E3 (tr E4 E5)).out) Tryz.underlying27 (by rw [show (#[.bool hi.n, .slice hi.p hi.l hi.c, .bool hi.m, .slice hi.p2 hi.l2 hi.c2] : Array Value).size = 4 from rfl]; kernel_rfl) ?_
  try simp only [Act.put, zA, zB, zC]
  refine mv_call (by rfl) (by go_simp) (pCmpS (L := L) HZ2.out (Fy.out.ext (tr E1 (tr E2 (tr E3 (tr E4 E5)))).out) (NIs.isIn ⟨hi, rfl, (Fhi.out.ext (tr E3 (tr E4 E5)).out)⟩ (by omega)) (by omega)) ?_
  rintro e w6 ⟨rfl, hx⟩
  have E6 : Hid (Ext w5 w6) := hx
  clear hx
  refine ⟨_, rfl, ?_⟩
  try simp only [Act.put, zA, zB, zC]
  refine pV (w' := w6) ?_
  try simp only [Act.put, zA, zB, zC]
  refine pV (w' := w6) ?_
  try simp only [Act.put, zA, zB, zC]
  clear hz1n hz2n HZ1 HZ2 HK1 HK2
  go_upto_region 4 with fail
  have wd : IntKind.i64.wrap (bY - ay) = bY - ay := by rw [IntKind.wrap_i64]; omega
  have q1 := Nm.rl_sub y (ay : Rat)
  have q2 := Nm.rl_div ((1 : Int) : Rat) ((bY - ay : Int) : Rat)
  have q3 := Nm.rl_mul (y - (ay : Rat)) (((1 : Int) : Rat) / ((bY - ay : Int) : Rat))
  go_cut [10] (fun s wx => ∃ (X8 : Nat) (c8 : Array Value), s = .pointer (some ⟨X8, 0, none⟩) ∧ NIs wx c8 ((y - (ay : Rat)) * (((1 : Int) : Rat) / ((bY - ay : Int) : Rat))) ∧ Blk wx X8 27 c8 ∧ Ext w6 wx)
  case first =>
   refine wp_region_held_drew (S := fun x => Ext w6 x) (by kernel_rfl) (Ext.refl _).drew (fun _ => ?_)
   have E7 := zH (show Ext w6 w6.drew from (Ext.refl _).drew)
   refine zl 0 (bs 14 1) (fun x hx => ((Fbx2.out.ext (tr E2 (tr E3 (tr E4 (tr E5 E6)))).out)).ext hx) Tryz.underlying27 (by rw [show (cy : Array Value).size = 4 from ZY]; kernel_rfl) E7.out ?_
   refine zv 1 (bs 14 3) E7.out ?_
   refine zu 2 (bs 14 7) (v := .int .i64 ay) E7.out ?_ (hv := by intro w hSw; (try dsimp only at hSw); have hq_ := ((Fbx0.out.ext (tr E2 (tr E3 (tr E4 (tr E5 E6)))).out).ext hSw).cell 1; simp only [List.getElem?_toArray, List.getElem?_cons_zero, List.getElem?_cons_succ] at hq_; go_simp <;> with_reducible rfl)
   refine zv 5 (bs 14 39) E7.out ?_
   refine zu 6 (bs 14 103) (v := .int .i64 bY) E7.out ?_ (hv := by intro w hSw; (try dsimp only at hSw); have hq_ := ((Fbx1.out.ext (tr E2 (tr E3 (tr E4 (tr E5 E6)))).out).ext hSw).cell 1; simp only [List.getElem?_toArray, List.getElem?_cons_zero, List.getElem?_cons_succ] at hq_; go_simp <;> with_reducible rfl)
   refine zv 7 (bs 14 231) E7.out ?_
   refine zu 8 (bs 14 487) (v := .int .i64 ay) E7.out ?_ (hv := by intro w hSw; (try dsimp only at hSw); have hq_ := ((Fbx0.out.ext (tr E2 (tr E3 (tr E4 (tr E5 E6)))).out).ext hSw).cell 1; simp only [List.getElem?_toArray, List.getElem?_cons_zero, List.getElem?_cons_succ] at hq_; go_simp <;> with_reducible rfl)
   refine zv 9 (bs 14 999) E7.out ?_
   refine mB 3 12 (bs 14 1007) (bs 14 5095) (u := .pointer (some ⟨w6.drew.heap.size, 0, none⟩)) (wj := (w6.drew.alloc (.cells z4 27))) (pFrom ay _ (by omega) (by omega)) (E7.out.alloc _) ?_ ?_
   ·rintro e w8 ⟨c1, rfl, hc, hx⟩
    have E8 : Hid (Ext w6.drew w8) := hx
    have FA1 := zH hc
    clear hc
    clear hx
    refine ⟨_, rfl, (tr E7 E8).out, ?_⟩
    try simp only [Act.put, zA, zB, zC]
    refine mB 4 12 (bs 14 1023) (bs 14 5103) (u := .pointer (some ⟨w8.heap.size, 0, none⟩)) (wj := (w8.alloc (.cells z4 27))) (pSub (L := L + 1) ((Fy.out.ext (tr E1 (tr E2 (tr E3 (tr E4 (tr E5 (tr E6 (tr E7 E8))))))).out).mono (by omega)) (FA1.out.isIn (by omega)) (by omega)) ((tr E7 E8).out.alloc _) ?_ ?_
    ·rintro e w9 ⟨c2, rfl, hc, hx⟩
     have E9 : Hid (Ext w8 w9) := hx
     have FA2 := zH hc
     clear hc
     clear hx
     refine ⟨_, rfl, (tr E7 (tr E8 E9)).out, ?_⟩
     try simp only [Act.put, zA, zB, zC]
     refine mB 10 12 (bs 14 2047) (bs 14 5119) (u := .pointer (some ⟨w9.heap.size, 0, none⟩)) (wj := (w9.alloc (.cells z4 27))) (by_any 1 (bY - ay) _ (by omega) (by omega) (by omega) (by omega) (by omega)) ((tr E7 (tr E8 E9)).out.alloc _) ?_ ?_
     ·rintro e w10 ⟨c3, rfl, hc, hx⟩
      have E10 : Hid (Ext w9 w10) := hx
      have FA3 := zH hc
      clear hc
      clear hx
      refine ⟨_, rfl, (tr E7 (tr E8 (tr E9 E10))).out, ?_⟩
      try simp only [Act.put, zA, zB, zC]
      refine mB 11 12 (bs 14 4095) (bs 14 6143) (u := .pointer (some ⟨w10.heap.size, 0, none⟩)) (wj := (w10.alloc (.cells z4 27))) (pMul (L := L + 4) ((FA2.out.ext E10.out).isIn (by omega)) (FA3.out.isIn (by omega)) (by omega)) ((tr E7 (tr E8 (tr E9 E10))).out.alloc _) ?_ ?_
      ·rintro e w11 ⟨c4, rfl, hc, hx⟩
       have E11 : Hid (Ext w10 w11) := hx
       have FA4 := zH hc
       have Z4 := hc.size
       have O4 := hc.one
       clear hc
       clear hx
       refine ⟨_, rfl, (tr E7 (tr E8 (tr E9 (tr E10 E11)))).out, ?_⟩
       try simp only [Act.put, zA, zB, zC]
       refine mU 12 (bs 14 8191) (v := .pointer (some ⟨w11.heap.size, 0, none⟩)) (w' := (w11.alloc (.cells z4 27))) ((tr E7 (tr E8 (tr E9 (tr E10 E11)))).out.alloc _) ?_
       try simp only [Act.put, zA, zB, zC]
       have E12 := zH (show Ext w11 (w11.alloc (.cells z4 27)) from (Ext.refl _).alloc _)
       have Fnb12 := zH (Blk.new w11 27 z4)
       have hbx := Fnb12.out
       have ob := Own.setCells (w11.alloc (.cells z4 27)) w11.heap.size c4
       have hgb : w6.heap.size ≤ w11.heap.size := (tr E7 (tr E8 (tr E9 (tr E10 E11)))).out.size
       have hS8 : Ext w6 ((w11.alloc (.cells z4 27)).setCells w11.heap.size 0 (c4 : Array Value).toList) := ob.ext (tr E7 (tr E8 (tr E9 (tr E10 (tr E11 E12))))).out hgb
       refine mO 13 (bs 14 16383) c4 hbx (Eq.trans Z4 rfl) (by rw [show (c4 : Array Value).size = 4 from Z4]; kernel_rfl) O4 hS8 ?_
       (try simp only [Act.put])
       refine wpAnyH_done (by kernel_rfl) ?_ _
       go_wp2_with fail
       go_meet
       exact ⟨_, _, rfl, ((FA4.out.ext E12.out)).own hbx noUn ob, hbx.setCells c4 (Eq.trans Z4 rfl), hS8⟩
      (try simp only [Act.put, zA, zB, zC])
      have E11 := zH (show Ext w10 (w10.alloc (.cells z4 27)) from (Ext.refl _).alloc _)
      have Fnb12 := zH (Blk.new w10 27 z4)
      refine mC 11 (bs 14 8191) (pMul (L := L + 4) ((FA2.out.ext (tr E10 E11).out).isIn (by omega)) ((FA3.out.ext E11.out).isIn (by omega)) (by omega)) ?_
      rintro e w12 ⟨c4, rfl, hc, hx⟩
      have E12 := zH (show Ext (w10.alloc (.cells z4 27)) w12 from hx)
      have FA4 := zH hc
      have Z4 := hc.size
      have O4 := hc.one
      clear hc
      clear hx
      refine ⟨_, rfl, (tr E7 (tr E8 (tr E9 (tr E10 (tr E11 E12))))).out, ?_⟩
      try simp only [Act.put, zA, zB, zC]
      have hbx := (Fnb12.out.ext E12.out)
      have ob := Own.setCells w12 w10.heap.size c4
      have hgb : w6.heap.size ≤ w10.heap.size := (tr E7 (tr E8 (tr E9 E10))).out.size
      have hS8 : Ext w6 (w12.setCells w10.heap.size 0 (c4 : Array Value).toList) := ob.ext (tr E7 (tr E8 (tr E9 (tr E10 (tr E11 E12))))).out hgb
      refine mO 13 (bs 14 16383) c4 hbx (Eq.trans Z4 rfl) (by rw [show (c4 : Array Value).size = 4 from Z4]; kernel_rfl) O4 hS8 ?_
      (try simp only [Act.put])
      refine wpAnyH_done (by kernel_rfl) ?_ _
      go_wp2_with fail
      go_meet
      exact ⟨_, _, rfl, (FA4.out).own hbx noUn ob, hbx.setCells c4 (Eq.trans Z4 rfl), hS8⟩
     (try simp only [Act.put, zA, zB, zC])
     have E10 := zH (show Ext w9 (w9.alloc (.cells z4 27)) from (Ext.refl _).alloc _)
     have Fnb12 := zH (Blk.new w9 27 z4)
     refine mC 10 (bs 14 6143) (by_any 1 (bY - ay) _ (by omega) (by omega) (by omega) (by omega) (by omega)) ?_
     rintro e w11 ⟨c3, rfl, hc, hx⟩
     have E11 := zH (show Ext (w9.alloc (.cells z4 27)) w11 from hx)
     have FA3 := zH hc
     clear hc
     clear hx
     refine ⟨_, rfl, (tr E7 (tr E8 (tr E9 (tr E10 E11)))).out, ?_⟩
     try simp only [Act.put, zA, zB, zC]
     refine mC 11 (bs 14 8191) (pMul (L := L + 4) ((FA2.out.ext (tr E10 E11).out).isIn (by omega)) (FA3.out.isIn (by omega)) (by omega)) ?_
     rintro e w12 ⟨c4, rfl, hc, hx⟩
     have E12 : Hid (Ext w11 w12) := hx
     have FA4 := zH hc
     have Z4 := hc.size
     have O4 := hc.one
     clear hc
     clear hx
     refine ⟨_, rfl, (tr E7 (tr E8 (tr E9 (tr E10 (tr E11 E12))))).out, ?_⟩
     try simp only [Act.put, zA, zB, zC]
     have hbx := (Fnb12.out.ext (tr E11 E12).out)
     have ob := Own.setCells w12 w9.heap.size c4
     have hgb : w6.heap.size ≤ w9.heap.size := (tr E7 (tr E8 E9)).out.size
     have hS8 : Ext w6 (w12.setCells w9.heap.size 0 (c4 : Array Value).toList) := ob.ext (tr E7 (tr E8 (tr E9 (tr E10 (tr E11 E12))))).out hgb
     refine mO 13 (bs 14 16383) c4 hbx (Eq.trans Z4 rfl) (by rw [show (c4 : Array Value).size = 4 from Z4]; kernel_rfl) O4 hS8 ?_
     (try simp only [Act.put])
     refine wpAnyH_done (by kernel_rfl) ?_ _
     go_wp2_with fail
     go_meet
     exact ⟨_, _, rfl, (FA4.out).own hbx noUn ob, hbx.setCells c4 (Eq.trans Z4 rfl), hS8⟩
    (try simp only [Act.put, zA, zB, zC])
    have E9 := zH (show Ext w8 (w8.alloc (.cells z4 27)) from (Ext.refl _).alloc _)
    have Fnb12 := zH (Blk.new w8 27 z4)
    refine mC 4 (bs 14 5119) (pSub (L := L + 1) ((Fy.out.ext (tr E1 (tr E2 (tr E3 (tr E4 (tr E5 (tr E6 (tr E7 (tr E8 E9)))))))).out).mono (by omega)) ((FA1.out.ext E9.out).isIn (by omega)) (by omega)) ?_
    rintro e w10 ⟨c2, rfl, hc, hx⟩
    have E10 := zH (show Ext (w8.alloc (.cells z4 27)) w10 from hx)
    have FA2 := zH hc
    clear hc
    clear hx
    refine ⟨_, rfl, (tr E7 (tr E8 (tr E9 E10))).out, ?_⟩
    try simp only [Act.put, zA, zB, zC]
    refine mC 10 (bs 14 6143) (by_any 1 (bY - ay) _ (by omega) (by omega) (by omega) (by omega) (by omega)) ?_
    rintro e w11 ⟨c3, rfl, hc, hx⟩
    have E11 : Hid (Ext w10 w11) := hx
    have FA3 := zH hc
    clear hc
    clear hx
    refine ⟨_, rfl, (tr E7 (tr E8 (tr E9 (tr E10 E11)))).out, ?_⟩
    try simp only [Act.put, zA, zB, zC]
    refine mC 11 (bs 14 8191) (pMul (L := L + 4) ((FA2.out.ext E11.out).isIn (by omega)) (FA3.out.isIn (by omega)) (by omega)) ?_
    rintro e w12 ⟨c4, rfl, hc, hx⟩
    have E12 : Hid (Ext w11 w12) := hx
    have FA4 := zH hc
    have Z4 := hc.size
    have O4 := hc.one
    clear hc
    clear hx
    refine ⟨_, rfl, (tr E7 (tr E8 (tr E9 (tr E10 (tr E11 E12))))).out, ?_⟩
    try simp only [Act.put, zA, zB, zC]
    have hbx := (Fnb12.out.ext (tr E10 (tr E11 E12)).out)
    have ob := Own.setCells w12 w8.heap.size c4
    have hgb : w6.heap.size ≤ w8.heap.size := (tr E7 E8).out.size
    have hS8 : Ext w6 (w12.setCells w8.heap.size 0 (c4 : Array Value).toList) := ob.ext (tr E7 (tr E8 (tr E9 (tr E10 (tr E11 E12))))).out hgb
    refine mO 13 (bs 14 16383) c4 hbx (Eq.trans Z4 rfl) (by rw [show (c4 : Array Value).size = 4 from Z4]; kernel_rfl) O4 hS8 ?_
    (try simp only [Act.put])
    refine wpAnyH_done (by kernel_rfl) ?_ _
    go_wp2_with fail
    go_meet
    exact ⟨_, _, rfl, (FA4.out).own hbx noUn ob, hbx.setCells c4 (Eq.trans Z4 rfl), hS8⟩
   (try simp only [Act.put, zA, zB, zC])
   have E8 := zH (show Ext w6.drew (w6.drew.alloc (.cells z4 27)) from (Ext.refl _).alloc _)
   have Fnb12 := zH (Blk.new w6.drew 27 z4)
   refine mC 3 (bs 14 5103) (pFrom ay _ (by omega) (by omega)) ?_
   rintro e w9 ⟨c1, rfl, hc, hx⟩
   have E9 := zH (show Ext (w6.drew.alloc (.cells z4 27)) w9 from hx)
   have FA1 := zH hc
   clear hc
   clear hx
   refine ⟨_, rfl, (tr E7 (tr E8 E9)).out, ?_⟩
   try simp only [Act.put, zA, zB, zC]
   refine mC 4 (bs 14 5119) (pSub (L := L + 1) ((Fy.out.ext (tr E1 (tr E2 (tr E3 (tr E4 (tr E5 (tr E6 (tr E7 (tr E8 E9)))))))).out).mono (by omega)) (FA1.out.isIn (by omega)) (by omega)) ?_
   rintro e w10 ⟨c2, rfl, hc, hx⟩
   have E10 : Hid (Ext w9 w10) := hx
   have FA2 := zH hc
   clear hc
   clear hx
   refine ⟨_, rfl, (tr E7 (tr E8 (tr E9 E10))).out, ?_⟩
   try simp only [Act.put, zA, zB, zC]
   refine mC 10 (bs 14 6143) (by_any 1 (bY - ay) _ (by omega) (by omega) (by omega) (by omega) (by omega)) ?_
   rintro e w11 ⟨c3, rfl, hc, hx⟩
   have E11 : Hid (Ext w10 w11) := hx
   have FA3 := zH hc
   clear hc
   clear hx
   refine ⟨_, rfl, (tr E7 (tr E8 (tr E9 (tr E10 E11)))).out, ?_⟩
   try simp only [Act.put, zA, zB, zC]
   refine mC 11 (bs 14 8191) (pMul (L := L + 4) ((FA2.out.ext E11.out).isIn (by omega)) (FA3.out.isIn (by omega)) (by omega)) ?_
   rintro e w12 ⟨c4, rfl, hc, hx⟩
   have E12 : Hid (Ext w11 w12) := hx
   have FA4 := zH hc
   have Z4 := hc.size
   have O4 := hc.one
   clear hc
   clear hx
   refine ⟨_, rfl, (tr E7 (tr E8 (tr E9 (tr E10 (tr E11 E12))))).out, ?_⟩
   try simp only [Act.put, zA, zB, zC]
   have hbx := (Fnb12.out.ext (tr E9 (tr E10 (tr E11 E12))).out)
   have ob := Own.setCells w12 w6.drew.heap.size c4
   have hgb : w6.heap.size ≤ w6.drew.heap.size := E7.out.size
   have hS8 : Ext w6 (w12.setCells w6.drew.heap.size 0 (c4 : Array Value).toList) := ob.ext (tr E7 (tr E8 (tr E9 (tr E10 (tr E11 E12))))).out hgb
   refine mO 13 (bs 14 16383) c4 hbx (Eq.trans Z4 rfl) (by rw [show (c4 : Array Value).size = 4 from Z4]; kernel_rfl) O4 hS8 ?_
   (try simp only [Act.put])
   refine wpAnyH_done (by kernel_rfl) ?_ _
   go_wp2_with fail
   go_meet
   exact ⟨_, _, rfl, (FA4.out).own hbx noUn ob, hbx.setCells c4 (Eq.trans Z4 rfl), hS8⟩
  case rest =>
   obtain ⟨X10, c10, rfl, hfa, hb10, hx⟩ := hcut
   generalize wc = wv at *
   have E7 : Hid (Ext w6 wv) := hx
   have Z10 := hfa.size
   have O10 := hfa.one
   have FT10 := zH hfa
   have Fb10 := zH hb10
   clear hfa hb10 hx
   go_upto_region 5 with fail
   refine wp_region_lit ?_
   refine pV (w' := wv) ?_
   try simp only [Act.put, zA, zB, zC]
   have hq_ := ((Fbx0.out.ext (tr E2 (tr E3 (tr E4 (tr E5 (tr E6 E7))))).out)).cell 0
   simp only [List.getElem?_toArray, List.getElem?_cons_zero] at hq_
   refine zq (.int .i64 ax) ?_
   clear hq_
   refine pV (w' := wv) ?_
   try simp only [Act.put, zA, zB, zC]
   have hq_ := ((Fbx1.out.ext (tr E2 (tr E3 (tr E4 (tr E5 (tr E6 E7))))).out)).cell 0
   simp only [List.getElem?_toArray, List.getElem?_cons_zero] at hq_
   refine zq (.int .i64 bx) ?_
   clear hq_
   refine pL Fb10.out Tryz.underlying27 (by rw [show (c10 : Array Value).size = 4 from Z10]; kernel_rfl) ?_
   try simp only [Act.put, zA, zB, zC]
   refine mv_call (by rfl) (by go_simp) (along_any (2 * L + 10) ax bx _ _ _ (FT10.out.isIn (by omega)) (by omega) (by omega) (by omega) (by omega)) ?_
   rintro e w8 ⟨cr, rfl, hc, hx⟩
   have E8 : Hid (Ext wv w8) := hx
   have Fr := zH hc
   have ZR := hc.size
   have OR := hc.one
   clear hc
   clear hx
   refine ⟨_, rfl, ?_⟩
   try simp only [Act.put, zA, zB, zC]
   have o1 := Own.setCells w8 R0 cr
   have kb1 := (FR0.out.ext (tr E2 (tr E3 (tr E4 (tr E5 (tr E6 (tr E7 E8)))))).out)
   refine pO cr kb1 (Eq.trans ZR rfl) (by rw [show (cr : Array Value).size = 4 from ZR]; kernel_rfl) OR ?_
   (try simp only [Act.put])
   have kc1 := kb1.setCells cr (Eq.trans ZR rfl)
   refine mv_val (v := .bool true) (w' := (w8.setCells R0 0 (cr : Array Value).toList)) (by rfl) (by go_simp <;> with_reducible rfl) ?_
   (try simp only [Act.put])
   go_wp2_with fail
   refine bodyPost_ret (v := .tuple #[.agg cr, .bool true]) ?_ rfl ⟨_, rfl, Fr.out.own kb1 noUn o1, o1.ext (tr E1 (tr E2 (tr E3 (tr E4 (tr E5 (tr E6 (tr E7 E8))))))).out gR0⟩
   exact results_c1t1 rfl rfl (kc1.loadVar rfl rfl (by rw [ZR]; rfl)) rfl
end Go.Proofs.YtmgibncehlpfkaaGreat

namespace Go.Proofs.YtmgibncehlpfkaaGreat
open Go.RowKit

structure MkE where
  a : RV
  q : Rat
  up : Int
def MkE.cells (e : MkE) : List Value := [.bool e.a.n, .slice e.a.p e.a.l e.a.c, .bool e.a.m, .slice e.a.p2 e.a.l2 e.a.c2, .int .i64 e.up]
theorem MkE.len (e : MkE) : e.cells.length = 5 := rfl
theorem MkE.one (e : MkE) : ∀ v, v ∈ e.cells → v.oneCell' = true := by simp [MkE.cells, Value.oneCell']
theorem MkE.noU (e : MkE) : NoUL e.cells := by simp [NoUL, MkE.cells]
def MkE.vl (e : MkE) : QI := (e.q, e.up)
def MkE.Ok (L : Nat) (w : World) (e : MkE) : Prop := e.a.Is w e.q ∧ Nm.rl e.q ≤ L ∧ -1 ≤ e.up ∧ e.up ≤ 1
theorem MkE.Ok.dig {L : Nat} {w w' : World} {e : MkE} (h : e.Ok L w) (d : Dig w w') : e.Ok L w' := ⟨h.1.dig d, h.2⟩
theorem noUL_mk (es : List MkE) : NoUL (es.flatMap MkE.cells) := by
  intro x hx
  obtain ⟨e, _, he⟩ := List.mem_flatMap.1 hx
  exact MkE.noU e x he
theorem wkQ' {α : Type} (f : α → QI) : Stb.Wk (fun x y : α => ltM (f x) (f y)) := ⟨fun _ _ h => wkM.1 _ _ h, fun _ _ _ h1 h2 => wkM.2 _ _ _ h1 h2⟩
def ltK (e f : MkE) : Bool := ltM e.vl f.vl
theorem Dig.kept {w w' : World} {r : Option Nat} (hg : w.grownBy w' r) (hr : ∀ k, r = some k → ∃ o : Obj, w.heap[k]? = some o ∧ o.isCells = false) : Dig w w' := by
 intro v xs h
 obtain ⟨p, cap, rfl, hc, hd, hp⟩ := h
 refine ⟨p, cap, rfl, hc, hd, fun h0 => ?_⟩
 obtain ⟨b, o, rfl, hb⟩ := hp h0
 refine ⟨b, o, rfl, fun i hi => ?_⟩
 have h1 := hb i hi
 have hne : ¬ (some b = r) := fun e => by
  obtain ⟨ob, h2, h3⟩ := hr b e.symm
  cases ob with
  | cells cs t fz => cases h3
  | _ => simp [World.cell?, h2] at h1
 rw [World.cell?_of_block (hg.block b (World.block_lt_of_cell? w ⟨b, o + i, none⟩ h1) hne)]
 exact h1
theorem Hp.kept {w0 w w' : World} {m : List Ent} {r : Option Nat} (h : Hp w0 w m) (hg : w.grownBy w' r) (hr : ∀ k, r = some k → w0.heap.size ≤ k ∧ ∃ o : Obj, w.heap[k]? = some o ∧ o.isCells = false) : Hp w0 w' m := by
 refine ⟨h.ext.grown hg (fun k hk => (hr k hk).1), fun i e he => (h.all i e he).kept hg (fun k hk hrk => ?_), h.apart⟩
 obtain ⟨o, h2, h3⟩ := (hr k hrk).2
 cases e with
 | blk g t cs =>
  injection hk with hk
  subst hk
  have := h.blk he
  unfold Blk at this
  rw [h2] at this
  injection this with this
  rw [this] at h3
  cases h3
 | row t size v n xs =>
  obtain ⟨h4, ⟨rfl, _⟩ | ⟨g, cap, rest, rfl, a, hb, c⟩⟩ := h.row he
  ·simp [Ent.own, Value.ownBlock] at hk
  have hk : g = k := by simpa [Ent.own, Value.ownBlock] using hk
  subst hk
  unfold Blk at hb
  rw [h2] at hb
  injection hb with hb
  rw [hb] at h3
  cases h3
def crossV (y : Rat) (e : (Int × Int) × (Int × Int)) : Option QI :=
  if (e.1.2 : Rat) < y ∧ y < (e.2.2 : Rat) then some (xatV e.1.1 e.1.2 e.2.1 e.2.2 y, 1)
  else if (e.2.2 : Rat) < y ∧ y < (e.1.2 : Rat) then some (xatV e.1.1 e.1.2 e.2.1 e.2.2 y, -1) else none
def crossesV (y : Rat) (rs : List Ring) : List QI := (edgesV rs).filterMap (crossV y)
def marksV (y : Rat) (rs : List Ring) : List QI := Stb.stab ltM (crossesV y (if okR rs = true then rs else []))
theorem rl_xat {ax ay bx bY : Int} {y : Rat} {L : Nat} (ha : okPt ax ay = true) (hb : okPt bx bY = true) (hy : Nm.rl y ≤ L) : Nm.rl (xatV ax ay bx bY y) ≤ L + 8 := by
 unfold okPt at ha hb
 simp only [Bool.and_eq_true, decide_eq_true_eq] at ha hb
 unfold xatV
 have q1 := Nm.rl_sub y (ay : Rat)
 have q2 := Nm.rl_div ((1 : Int) : Rat) ((bY - ay : Int) : Rat)
 have q3 := Nm.rl_mul (y - (ay : Rat)) (((1 : Int) : Rat) / ((bY - ay : Int) : Rat))
 have q4 := Nm.rl_mul ((y - (ay : Rat)) * (((1 : Int) : Rat) / ((bY - ay : Int) : Rat))) ((bx - ax : Int) : Rat)
 have q5 := Nm.rl_add (ax : Rat) ((y - (ay : Rat)) * (((1 : Int) : Rat) / ((bY - ay : Int) : Rat)) * ((bx - ax : Int) : Rat))
 have e1 := rlI ax (by omega)
 have e2 := rlI ay (by omega)
 have e3 := rlI (bY - ay) (by omega)
 have e4 := rlI (bx - ax) (by omega)
 have e5 := rlI 1 (by omega)
 omega
theorem sortMk_any (L : Nat) (v : Value) (es : List MkE) (base : Nat) (w : World) (h : RowN w base 54 5 v es.length (es.flatMap MkE.cells)) (hok : ∀ e, e ∈ es → e.Ok L w)
  (hcmp : ∀ (w : World) (e f : MkE), e.Ok L w → f.Ok L w → Calls Tryz.prog 36 #[.agg e.cells.toArray, .agg f.cells.toArray] w fun x w' => ∃ z : Int, x = .returned (.int .i64 z) ∧ (z < 0 ↔ ltK e f = true) ∧ Ext w w')
  (hn : es.length ≤ 20000) :
  Calls Tryz.prog 35 #[v, .func (.func 36) #[] #[]] w fun e w' =>
   e = .returned (.tuple #[]) ∧ RowN w' base 54 5 v es.length ((Stb.stab ltK es).flatMap MkE.cells) ∧ w.grownBy w' v.ownBlock := by
 rcases h.2 with ⟨rfl, h0⟩ | ⟨g, cap, rest, rfl, hb, hg, hc1, hc2, hc3, hc4⟩
 ·have : es = [] := List.eq_nil_of_length_eq_zero h0
  subst this
  refine (mrk.sortStable_none none 0 _ w).mono ?_
  rintro e w' ⟨rfl, rfl⟩
  exact ⟨rfl, h, World.grownBy.refl _ _⟩
 have hxs : ∃ xs : List {e : MkE // e.Ok L w}, xs.map Subtype.val = es := by
  clear h hg hc1 hc3 hn hc4
  induction es with
  | nil => exact ⟨[], rfl⟩
  | cons e es ih =>
   obtain ⟨xs, hx⟩ := ih (fun f hf => hok f (by simp [hf]))
   exact ⟨⟨e, hok e (by simp)⟩ :: xs, by rw [List.map_cons, hx]⟩
 obtain ⟨xs, rfl⟩ := hxs
 have hfm : xs.flatMap (fun x => x.1.cells) = (xs.map Subtype.val).flatMap MkE.cells := by rw [List.flatMap_map]
 have hlen : xs.length = (xs.map Subtype.val).length := by rw [List.length_map]
 refine (mrk.sortStable_any (fun x : {e : MkE // e.Ok L w} => x.1.cells) (fun _ => rfl) (fun x => x.1.one) (fun x y => ltK x.1 y.1) (wkQ' (fun x : {e : MkE // e.Ok L w} => x.1.vl)) w w g cap _ 54 rest xs (fun wr o x y => ?_) ⟨by rw [hfm]; exact hg, Own.refl _ _⟩ hlen hn).mono ?_
 ·have d : Dig w wr := Dig.of_own hg hc4.arr o
  exact hcmp wr x.1 y.1 (x.2.dig d) (y.2.dig d)
 rintro e w' ⟨rfl, hs2⟩
 have hm : (Stb.stab (fun x y : {e : MkE // e.Ok L w} => ltK x.1 y.1) xs).map Subtype.val = Stb.stab ltK (xs.map Subtype.val) := stab_map Subtype.val (lt' := ltK) (fun _ _ => rfl) xs
 have hl2 : (Stb.stab ltK (xs.map Subtype.val)).length = (xs.map Subtype.val).length := Stb.stab_len _
 have hfl : ∀ es : List MkE, (es.flatMap MkE.cells).length = es.length * 5 := fun es => flat_length MkE.len es
 refine ⟨rfl, ⟨by rw [hfl, hl2], Or.inr ⟨g, cap, rest, rfl, hb, ?_, hc1, hc2, ?_, ?_⟩⟩, ?_⟩
 ·have h3 := hs2.blk
  rw [show (Stb.stab (fun x y : {e : MkE // e.Ok L w} => ltK x.1 y.1) xs).flatMap (fun x => x.1.cells) = (Stb.stab ltK (xs.map Subtype.val)).flatMap MkE.cells by rw [← hm, List.flatMap_map]] at h3
  exact h3
 ·rw [hfl, hl2, ← hfl]; exact hc3
 ·exact (noUL_mk _).app hc4.right
 have := hs2.own
 simpa [Value.ownBlock, Own] using this
end Go.Proofs.YtmgibncehlpfkaaGreat

namespace Go.Proofs.YtmgibncehlpfkaaGreat
open Go.RowKit Go.Shelf
attribute [local go_sem] Oper.semAt_some

abbrev Edge := (Int × Int) × (Int × Int)
def okE (e : Edge) : Prop := okPt e.1.1 e.1.2 = true ∧ okPt e.2.1 e.2.2 = true
abbrev OkE := { e : Edge // okE e }
def encE (x : OkE) : Array Value := #[ptVal2 x.1.1, ptVal2 x.1.2]
theorem edges_ok {rs : List Ring} (h : okR rs = true) : ∀ e, e ∈ edgesV rs → okE e := by
 intro e he
 obtain ⟨r, hr, h2⟩ := List.mem_flatMap.1 he
 obtain ⟨i, _, h3⟩ := List.mem_filterMap.1 h2
 unfold okR at h
 rw [Bool.and_eq_true] at h
 have h4 := List.all_eq_true.1 h.2 r hr
 unfold okAll at h4
 have hp : ∀ (j : Nat) (p : Int × Int), r[j]? = some p → okPt p.1 p.2 = true := fun j p hj => List.all_eq_true.1 h4 p (List.mem_of_getElem? hj)
 unfold edgeAt at h3
 split at h3
 ·rename_i a b ha hb
  split at h3
  ·cases h3
  injection h3 with h3
  subst h3
  exact ⟨hp _ _ ha, hp _ _ hb⟩
 cases h3
theorem Fr.putObj {G : Nat → Prop} (W : World) (l : Nat) (o' : Obj) (h : G l ∨ W.heap.size ≤ l) : Fr G W (W.putObj l o') :=
  Fr.trans_new (Fr.of_ext (Ext.refl W)) (grownBy_putObj' W l o') (fun j hj => by injection hj with hj; subst hj; exact h)
theorem edges_loop {n p0 p1 : Nat} {g : Operand} {assign body : Code} {Q : Exit → Act → World → Prop} {a : Act} {W1 : World} (hn : 2 ≤ n) (G : Nat → Prop) (Bx : Nat) (u : Value) (rs : List Ring)
  (hg : a.eval g = .func (.func 55) #[] #[.pointer (some ⟨Bx, 0, none⟩)]) (hcb : W1.cell? ⟨Bx, 0, none⟩ = some u) (hGb : ¬ G Bx) (hR : RingsO (fun k => ¬ G k) W1 u rs) (hrs : rs.length ≤ 100000) (hok : okR rs = true)
  (hG : ∀ k, W1.heap.size ≤ k → G k)
  (I : List OkE → World → Prop) (hI : OwnFrom W1.heap.size I) (h0 : I [] W1) (Ax : OkE → Act → World → Prop) (hAx : ∀ x a', OwnFrom W1.heap.size (fun (_ : Unit) W => Ax x a' W))
  (hassign : ∀ (l : Nat) (pre : List OkE) (x : OkE) (W : World) (K : Act → World → Prop), I pre W → (∀ a' W', KeepsFrom W1.heap.size W W' → Fr G W W' → I pre W' → Ax x a' W' → K a' W') →
   assign.wpIn (Fence.wide.inRound l) (n - 1 - 1) Tryz.prog (Exit.then K (fun _ _ _ => False)) { tmps := (a.tmps.setIfInBounds p0 (ptVal2 x.1.1)).setIfInBounds p1 (ptVal2 x.1.2), defers := [] } W)
  (hbody : ∀ (l : Nat) (pre : List OkE) (x : OkE) (a' : Act) (W : World), I pre W → Ax x a' W → pre.length < 4096 →
   body.wpIn (Fence.wide.inRound l) (n - 1 - 1) Tryz.prog (ownPostG W1.heap.size (Fr G) I (fun _ _ _ => False) (pre ++ [x]) W) a' W)
  (hdone : ∀ (D : Nat) (xs : List OkE) (W : World), W1.heap.size ≤ D → xs.map Subtype.val = edgesV rs → I xs W → W.heap[D]? = some (.deferred (some [])) → Q .normal { a with defers := { target := .collected D, args := #[] } :: a.defers } W) :
  (Code.rangeFunc g #[p0, p1] assign body).wpIn Fence.wide n Tryz.prog Q a W1 := by
 have hseq : SeqStopsK Fence.wide (n - 1) Tryz.prog 55 #[.pointer (some ⟨Bx, 0, none⟩)] encE (Fr G) (fun xs => xs.map Subtype.val = edgesV rs) (fun pre => pre.map Subtype.val <+: edgesV rs) 4096 W1 := by
  intro l J Jx W hW hJa hJxa hY hJ0
  have hx : Ext W1 W := hW
  have hRW := hR.ext hx
  have hrl : ∀ r, r ∈ rs → r.length ≤ 4096 := fun r hr => by
   obtain ⟨k, hk⟩ := List.mem_iff_getElem?.1 hr
   have h1 := tot_succ hk
   have h2 := tot_take rs (k + 1)
   have h3 := okR_tot hok
   omega
  have hN : (edgesV rs).length ≤ 4096 := Nat.le_trans (edgesV_len rs) (okR_tot hok)
  have hEx : ∀ (s : List OkE) (A B : World), J s A → Ext A B → J s B := fun s A B h x => hJa s A B none h (grown_of_ext _ x) (fun r e => by cases e)
  refine (edges1_in (n - 1) (by omega) l Bx 4096 G u rs (fun s W => ∃ xs : List OkE, xs.map Subtype.val = s ∧ J xs W) (fun s W => ∃ xs : List OkE, xs.map Subtype.val = s ∧ Jx xs W) W (hx.get hcb) hGb hRW hrl hrs
   (fun s A B h x => by obtain ⟨xs, h1, h2⟩ := h; exact ⟨xs, h1, hEx _ _ _ h2 x⟩) ?_ hN ⟨[], rfl, hJ0⟩).mono ?_
  ·rintro pre x W2 ⟨xs, rfl, h2⟩ hlen hmem
   refine (hY xs ⟨x, edges_ok hok x hmem⟩ W2 h2 (by simpa using hlen)).mono ?_
   rintro e W3 (⟨rfl, h3, h4⟩ | ⟨rfl, h3⟩)
   ·exact .inl ⟨rfl, ⟨_, by simp, h3⟩, h4⟩
   exact .inr ⟨rfl, ⟨_, by simp, h3⟩⟩
  rintro e W2 ⟨h1, ⟨ys, rfl, xs, h2, h3⟩ | ⟨pre, h2, xs, h3, h4⟩⟩
  ·exact ⟨h1, .inl ⟨xs, h2, h3⟩⟩
  exact ⟨h1, .inr ⟨xs, by show xs.map Subtype.val <+: edgesV rs; rw [h3]; exact h2, h4⟩⟩
 refine wpIn_rangeFunc_ownH rfl (by omega) (gf := 55) (lb := #[.pointer (some ⟨Bx, 0, none⟩)]) hg trivial (enters_of Tryz.func55 (by kernel_rfl) rfl)
  hseq (fun h k => Fr.trans h k) (fun W l o o' hl _ _ _ => Fr.putObj W l o' (.inl (hG l hl))) (Below.refl _ _) (fun _ => rfl) I (fun _ _ _ => False) hI (fun _ _ _ _ _ hs _ _ => hs) h0 Ax hAx ?assign ?body ?done ?stop
 case assign =>
  intro l pre x W K hi hK
  have e : ((#[p0, p1] : Array Tmp).zip (encE x)).foldl (fun t (p, v) => t.setIfInBounds p v) a.tmps = (a.tmps.setIfInBounds p0 (ptVal2 x.1.1)).setIfInBounds p1 (ptVal2 x.1.2) := by simp [encE]
  rw [e]
  exact hassign l pre x W K hi hK
 case body => exact fun l pre x a' W _ _ hi ha hlt => hbody l pre x a' W hi ha hlt
 case done => exact fun D xs W hD hs hi hK => hdone D xs W hD hs hi hK
 case stop => exact fun D c pre W _ _ h _ => h.elim
theorem KeepsFrom.of_fr {B : Nat} {G : Nat → Prop} {W W' : World} (h : Fr G W W') (hG : ∀ k, G k → ∀ o : Obj, W.heap[k]? = some o → o.isCells = true) : KeepsFrom B W W' :=
  ⟨h.size, fun k o _ hk ho => by
    have hlt : k < W.heap.size := (Array.getElem?_eq_some_iff.1 hk).1
    rw [h.block k hlt (fun g => by rw [hG k g o hk] at ho; cases ho)]
    exact hk⟩
theorem Fr.imp {G G' : Nat → Prop} {W W' : World} (h : Fr G W W') (hG : ∀ k, G k → G' k) : Fr G' W W' := ⟨h.os, h.tape, h.output, h.size, fun k hk hn => h.block k hk (fun g => hn (hG k g))⟩
theorem Hp.cells {w0 w : World} {m : List Ent} {i k : Nat} {e : Ent} (h : Hp w0 w m) (hi : m[i]? = some e) (hk : e.own = some k) : ∀ o : Obj, w.heap[k]? = some o → o.isCells = true := by
 intro o ho
 cases e with
 | blk g t cs =>
  injection hk with hk
  subst hk
  have := h.blk hi
  unfold Blk at this
  rw [this] at ho
  injection ho with ho
  rw [← ho]
  rfl
 | row t size v n xs =>
  obtain ⟨h4, ⟨rfl, _⟩ | ⟨g, cap, rest, rfl, a, hb, c⟩⟩ := h.row hi
  ·simp [Ent.own, Value.ownBlock] at hk
  have hk : g = k := by simpa [Ent.own, Value.ownBlock] using hk
  subst hk
  unfold Blk at hb
  rw [hb] at ho
  injection ho with ho
  rw [← ho]
  rfl
def Ent.typ : Ent → TypeId
  | .blk _ t _ => t
  | .row t _ _ _ _ => t
theorem Hp.typ {w0 w : World} {m : List Ent} {i g : Nat} {e : Ent} {T : TypeId} {cs : Array Value} (h : Hp w0 w m) (hi : m[i]? = some e) (hb : Blk w g T cs) (hk : e.own = some g) : e.typ = T := by
 unfold Blk at hb
 cases e with
 | blk g' t cs' =>
  injection hk with hk
  subst hk
  have := h.blk hi
  unfold Blk at this
  rw [this] at hb
  injection hb with hb
  injection hb with _ hb _
 | row t size v n xs =>
  obtain ⟨h4, ⟨rfl, _⟩ | ⟨g', cap, rest, rfl, a, hb2, c⟩⟩ := h.row hi
  ·simp [Ent.own, Value.ownBlock] at hk
  have hk : g' = g := by simpa [Ent.own, Value.ownBlock] using hk
  subst hk
  unfold Blk at hb2
  rw [hb2] at hb
  injection hb with hb
  injection hb with _ hb _
theorem Hp.addTyp2 {w0 w : World} {m : List Ent} {X Y : Nat} {T : TypeId} {zs us : List Value} (h : Hp w0 w m) (B1 : Blk w X T zs.toArray) (B2 : Blk w Y T us.toArray) (hne : X ≠ Y) (z1 : w0.heap.size ≤ X) (z2 : w0.heap.size ≤ Y) (n1 : NoUL zs) (n2 : NoUL us)
  (ht : ∀ e, e ∈ m → e.typ ≠ T) : Hp w0 w (m ++ [.blk X T zs] ++ [.blk Y T us]) := by
 have h1 : Hp w0 w (m ++ [.blk X T zs]) := h.add ⟨z1, B1, n1⟩ (fun i f hf k hk e => by
  injection e with e
  subst e
  exact ht f (List.mem_of_getElem? hf) (h.typ hf B1 hk))
 refine h1.add ⟨z2, B2, n2⟩ (fun i f hf k hk e => ?_)
 injection e with e
 subst e
 rcases List.mem_append.1 (List.mem_of_getElem? hf) with hm | hm
 ·obtain ⟨j, hj⟩ := List.mem_iff_getElem?.1 hm
  exact ht f hm (h.typ hj B2 hk)
 simp at hm
 subst hm
 injection hk with hk
 exact hne hk
theorem Blk.kept {w w' : World} {g : Nat} {t : TypeId} {cs : Array Value} {r : Option Nat} (h : Blk w g t cs) (hg : w.grownBy w' r) (hr : ∀ k, r = some k → ∃ o : Obj, w.heap[k]? = some o ∧ o.isCells = false) : Blk w' g t cs :=
  h.grown hg (fun e => by
    obtain ⟨o, h2, h3⟩ := hr g e
    unfold Blk at h
    rw [h] at h2
    injection h2 with h2
    rw [← h2] at h3
    cases h3)
end Go.Proofs.YtmgibncehlpfkaaGreat

namespace Go.Proofs.YtmgibncehlpfkaaGreat
open Go.RowKit
attribute [local go_sem ↓] Go.wp_at_zero Go.wp_at_succ run_max_ii run_min_ii
set_option maxRecDepth 20000 in
set_option maxHeartbeats 4000000 in
theorem marksCmp_any (L : Nat) (hL : L ≤ 60000) (w : World) (e f : MkE) (he : e.Ok L w) (hf : f.Ok L w) :
  Calls Tryz.prog 36 #[.agg e.cells.toArray, .agg f.cells.toArray] w fun x w' => ∃ z : Int, x = .returned (.int .i64 z) ∧ (z < 0 ↔ ltK e f = true) ∧ Ext w w' := by
 have RA := zH he.1
 have RB := zH hf.1
 have BA := zH he.2.1
 have BB := zH hf.2.1
 clear he hf
 unfold MkE.cells
 go_enter Tryz.func36, Tryz.ntmps36
 have H0 := zH (Hp.start w)
 go_upto_region 0 with fail
 refine wp_region_lit ?_
 refine mv_alloc (T := 54) (zs := [.bool e.a.n, .slice e.a.p e.a.l e.a.c, .bool e.a.m, .slice e.a.p2 e.a.l2 e.a.c2, .int .i64 e.up]) (by rfl) (by go_simp) H0.out (by simp [NoUL]) ?_
 intro X1 w2 hh hx hge
 have H3 := zH (show Hp w w2 [.blk X1 54 [.bool e.a.n, .slice e.a.p e.a.l e.a.c, .bool e.a.m, .slice e.a.p2 e.a.l2 e.a.c2, .int .i64 e.up]] from hh)
 clear hh hx hge
 try simp only [Act.put, zA, zB, zC]
 refine mv_alloc (T := 54) (zs := [.bool f.a.n, .slice f.a.p f.a.l f.a.c, .bool f.a.m, .slice f.a.p2 f.a.l2 f.a.c2, .int .i64 f.up]) (by rfl) (by go_simp) H3.out (by simp [NoUL]) ?_
 intro X6 w7 hh hx hge
 have H8 := zH (show Hp w w7 [.blk X1 54 [.bool e.a.n, .slice e.a.p e.a.l e.a.c, .bool e.a.m, .slice e.a.p2 e.a.l2 e.a.c2, .int .i64 e.up], .blk X6 54 [.bool f.a.n, .slice f.a.p f.a.l f.a.c, .bool f.a.m, .slice f.a.p2 f.a.l2 f.a.c2, .int .i64 f.up]] from hh)
 clear hh hx hge
 try simp only [Act.put, zA, zB, zC]
 refine zq (.int .i64 0) ?_
 go_upto_region 1 with fail
 refine zy ?_
 have H12 := zH (H8.out.step (Ext.refl w7).drew)
 refine mX 0 (bs 13 1) (.pointer (some ⟨X1, 0, none⟩)) zb ?_
 refine zg 1 (bs 13 3) X1 (0) (rc e.a) (H8.out.range (i := 0) (by rfl) 0 4) Tryz.underlying27 zb ?_
 refine mX 2 (bs 13 7) (.pointer (some ⟨X6, 0, none⟩)) zb ?_
 refine zg 3 (bs 13 15) X6 (0) (rc f.a) (H8.out.range (i := 1) (by rfl) 0 4) Tryz.underlying27 zb ?_
 refine zx 5 (bs 13 47) (.pointer (some ⟨X6, 4, none⟩)) zb ?_
 refine zf 6 (bs 13 111) X6 4 (.int .i64 f.up) (H8.out.range (i := 1) (by rfl) 4 1) zb ?_
 refine zx 7 (bs 13 239) (.pointer (some ⟨X1, 4, none⟩)) zb ?_
 refine zf 8 (bs 13 495) X1 4 (.int .i64 e.up) (H8.out.range (i := 0) (by rfl) 4 1) zb ?_
 refine mC 4 (bs 13 511) (pCmp (L := 60000) (RV.Is.nin (RA.out.dig H12.out.dig0) (Nat.le_trans BA.out (by omega))) (RV.Is.nin (RB.out.dig H12.out.dig0) (Nat.le_trans BB.out (by omega))) (by omega)) ?_
 rintro e w18 ⟨rfl, hx⟩
 have H19 := zH (H12.out.step hx)
 have S21 := zH (show Ext w7 w18 from zb.trans hx)
 clear hx
 refine zm S21.out ?_
 refine mC 9 (bs 13 1023) (compare_any f.up e.up _) ?_
 rintro e w22 ⟨rfl, hx⟩
 have H23 := zH (H19.out.step hx)
 have S25 := zH (S21.out.trans hx)
 clear hx
 refine zm S25.out ?_
 refine md_lit (T := 3) (zs := [.int .i64 (rcmp e.q f.q), .int .i64 (cmpI f.up e.up)]) (n := 2) (i := 10) (listed' := (bs 13 2047)) (by rfl) (by kernel_rfl) (by rfl) (by go_simp) (by kernel_rfl) H23.out (by simp [NoUL]) ?_
 intro X26 w27 hh hx hge
 have H28 := zH (show Hp w w27 [.blk X1 54 [.bool e.a.n, .slice e.a.p e.a.l e.a.c, .bool e.a.m, .slice e.a.p2 e.a.l2 e.a.c2, .int .i64 e.up], .blk X6 54 [.bool f.a.n, .slice f.a.p f.a.l f.a.c, .bool f.a.m, .slice f.a.p2 f.a.l2 f.a.c2, .int .i64 f.up], .blk X26 3 [.int .i64 (rcmp e.q f.q), .int .i64 (cmpI f.up e.up)]] from hh)
 have S30 := zH (S25.out.trans hx)
 clear hh hx hge
 refine ⟨S30.out, ?_⟩
 try simp only [Act.put, zA, zB, zC]
 refine mC 11 (bs 13 4095) (or_any X26 0 2 (rcmp e.q f.q) (cmpI f.up e.up) _ (H28.out.cell (i := 2) (by rfl) 0 (by rfl)) (H28.out.cell (i := 2) (by rfl) 1 (by rfl))) ?_
 rintro e w32 ⟨rfl, hx⟩
 have H33 := zH (H28.out.step hx)
 have S35 := zH (S30.out.trans hx)
 clear hx
 refine zm S35.out ?_
 refine zx 12 (bs 13 8191) (.int .i64 (orI (rcmp e.q f.q) (cmpI f.up e.up))) S35.out ?_
 refine wpAnyH_done (by kernel_rfl) ?_ _
 go_wp2_with fail
 go_ret
 exact ⟨_, rfl, by show _ ↔ beforeV e.q e.up f.q f.up = true; rw [← ord_lt, decide_eq_true_iff], H33.out.ext⟩
end Go.Proofs.YtmgibncehlpfkaaGreat

namespace Go.Proofs.YtmgibncehlpfkaaGreat

theorem cross_up {y : Rat} {a b : Int × Int} (h : (a.2 : Rat) < y ∧ y < (b.2 : Rat)) : crossV y (a, b) = some (xatV a.1 a.2 b.1 b.2 y, 1) := if_pos h
theorem cross_down {y : Rat} {a b : Int × Int} (h : (b.2 : Rat) < y ∧ y < (a.2 : Rat)) : crossV y (a, b) = some (xatV a.1 a.2 b.1 b.2 y, -1) := by
  unfold crossV
  rw [if_neg (fun k => by have h1 := h.1; have h2 := h.2; have k1 := k.1; have k2 := k.2; grind), if_pos h]
theorem cross_no {y : Rat} {a b : Int × Int} (h1 : ¬ ((a.2 : Rat) < y ∧ y < (b.2 : Rat))) (h2 : ¬ ((b.2 : Rat) < y ∧ y < (a.2 : Rat))) : crossV y (a, b) = none := by
  unfold crossV
  rw [if_neg h1, if_neg h2]
theorem rat_tri (a b : Rat) : a < b ∨ a = b ∨ b < a := by grind
theorem rcmp_m1 {p q : Rat} (h : p < q) : rcmp p q = -1 := by
  have h1 := rcmp_lt.2 h
  unfold rcmp at h1 ⊢
  have := Int.sign_trichotomy (p.num * q.den - q.num * p.den)
  omega
theorem rcmp_p1 {p q : Rat} (h : q < p) : rcmp p q = 1 := by
  have h1 := rcmp_gt.2 h
  unfold rcmp at h1 ⊢
  have := Int.sign_trichotomy (p.num * q.den - q.num * p.den)
  omega
theorem cross_prod {p q y : Rat} (h1 : ¬ (p < y ∧ y < q)) (h2 : ¬ (q < y ∧ y < p)) : 0 ≤ rcmp p y * rcmp q y ∧ rcmp p y * rcmp q y ≤ 1 := by
  rcases rat_tri p y with a | a | a
  · rw [rcmp_m1 a]
    rcases rat_tri q y with b | b | b
    · rw [rcmp_m1 b]; decide
    · rw [rcmp_eq.2 b]; decide
    exact absurd ⟨a, b⟩ h1
  · rw [rcmp_eq.2 a]; simp
  rw [rcmp_p1 a]
  rcases rat_tri q y with b | b | b
  · exact absurd ⟨b, a⟩ h2
  · rw [rcmp_eq.2 b]; decide
  rw [rcmp_p1 b]; decide
theorem xat_pre {y : Rat} {a b : Int} (h : ((a : Rat) < y ∧ y < (b : Rat)) ∨ ((b : Rat) < y ∧ y < (a : Rat))) : a ≠ b ∧ ((min a b : Int) : Rat) ≤ y ∧ y ≤ ((max a b : Int) : Rat) := by
  rcases h with ⟨h1, h2⟩ | ⟨h1, h2⟩
  · have hab : a < b := by have h3 : (a : Rat) < (b : Rat) := by grind
                           exact_mod_cast h3
    rw [Int.min_eq_left (by omega), Int.max_eq_right (by omega)]
    exact ⟨by omega, by grind, by grind⟩
  have hab : b < a := by have h3 : (b : Rat) < (a : Rat) := by grind
                         exact_mod_cast h3
  rw [Int.min_eq_right (by omega), Int.max_eq_left (by omega)]
  exact ⟨by omega, by grind, by grind⟩
end Go.Proofs.YtmgibncehlpfkaaGreat

namespace Go.Proofs.YtmgibncehlpfkaaGreat
open Go.RowKit Go.Shelf
attribute [local go_sem] Oper.semAt_some
attribute [local go_sem ↓] Go.wp_at_zero Go.wp_at_succ run_eql_point run_neq_point run_max_ii run_min_ii

def MkI (L X3 Bo : Nat) (ry : RV) (y : Rat) (w W1 : World) (pre : List OkE) (W : World) : Prop :=
  ∃ (A : Option Addr) (n c : Nat) (es : List MkE), Hp w W [.blk X3 27 [.bool ry.n, .slice ry.p ry.l ry.c, .bool ry.m, .slice ry.p2 ry.l2 ry.c2], .blk Bo 51 [.slice A n c], .row 54 5 (.slice A n c) n (List.flatMap MkE.cells es)] ∧ Dig W1 W ∧ (∀ k, Value.ownBlock (.slice A n c) = some k → W1.heap.size ≤ k) ∧ (∀ e, e ∈ es → e.Ok (L + 8) W) ∧ es.map MkE.vl = (pre.map Subtype.val).filterMap (crossV y) ∧ n = es.length ∧ n ≤ pre.length ∧ W1.heap.size ≤ W.heap.size
def MkA (u : Value) (X3 Bo Bx : Nat) (ry : RV) (W1 : World) (x : OkE) (a' : Act) (W : World) : Prop :=
  ∃ Xa Xb, Blk W Xa 45 ([.int .i64 x.1.1.1, .int .i64 x.1.1.2] : List Value).toArray ∧ Blk W Xb 45 ([.int .i64 x.1.2.1, .int .i64 x.1.2.2] : List Value).toArray ∧ Xa ≠ Xb ∧ W1.heap.size ≤ Xa ∧ W1.heap.size ≤ Xb ∧
    a' = { tmps := #[u, .agg #[.bool ry.n, .slice ry.p ry.l ry.c, .bool ry.m, .slice ry.p2 ry.l2 ry.c2], undef, .pointer (some ⟨X3, 0, none⟩), .slice none 0 0, .pointer (some ⟨Bo, 0, none⟩), .pointer (some ⟨Xa, 0, none⟩), .pointer (some ⟨Xb, 0, none⟩), undef, undef, undef, undef, u, .func (.func 55) #[] #[.pointer (some ⟨Bx, 0, none⟩)], .agg #[.int .i64 x.1.1.1, .int .i64 x.1.1.2], .agg #[.int .i64 x.1.2.1, .int .i64 x.1.2.2], undef, undef, undef, undef, undef, undef, undef, undef, undef, undef, undef, undef, undef, undef, undef, undef, undef, undef, undef, undef, undef, undef, undef, undef, undef, undef, undef, undef, undef, undef, undef], defers := [] }
theorem mkI_own (L X3 Bo : Nat) (ry : RV) (y : Rat) (w W1 : World) (hw : w.heap.size ≤ W1.heap.size) : OwnFrom W1.heap.size (MkI L X3 Bo ry y w W1) := by
  rintro s W W' row ⟨A, n, c, es, h1, h2, h3, h4, h5, h6, h7, h8⟩ hg hr
  have d : Dig W W' := Dig.kept hg (fun k hk => (hr k hk).2)
  exact ⟨A, n, c, es, h1.kept hg (fun k hk => ⟨Nat.le_trans hw (hr k hk).1, (hr k hk).2⟩), h2.trans d, h3, fun e he => (h4 e he).dig d, h5, h6, h7, Nat.le_trans h8 hg.size⟩
theorem mkA_own (u : Value) (X3 Bo Bx : Nat) (ry : RV) (W1 : World) (x : OkE) (a' : Act) : OwnFrom W1.heap.size (fun (_ : Unit) W => MkA u X3 Bo Bx ry W1 x a' W) := by
  rintro _ W W' row ⟨Xa, Xb, h1, h2, h3⟩ hg hr
  exact ⟨Xa, Xb, h1.kept hg (fun k hk => (hr k hk).2), h2.kept hg (fun k hk => (hr k hk).2), h3⟩
theorem hy_dig {L : Nat} {w w' : World} {a : RV} {q : Rat} (h : a.In L w q) (x : Ext w w') : a.In L w' q := h.ext x
set_option maxRecDepth 100000 in
set_option maxHeartbeats 4000000 in
theorem marks_any (L : Nat) (u : Value) (rs : List Ring) (ry : RV) (y : Rat) (w : World) (hu : RingsV w u rs) (hy : ry.In L w y) (h1L : 1 ≤ L) (hL : L ≤ 2000) (hn : rs.length ≤ 100000) (hr : ∀ r, r ∈ rs → r.length ≤ 100000) :
  Calls Tryz.prog 18 #[u, .agg #[.bool ry.n, .slice ry.p ry.l ry.c, .bool ry.m, .slice ry.p2 ry.l2 ry.c2]] w fun e w' => ∃ A n c es, e = .returned (.slice A n c) ∧ n = List.length es ∧ RowN w' w.heap.size 54 5 (.slice A n c) n (List.flatMap MkE.cells es) ∧
   (∀ e, e ∈ es → e.Ok (L + 8) w') ∧ es.map MkE.vl = marksV y rs ∧ Ext w w' := by
 obtain ⟨qs, hqs⟩ : ∃ qs, qs = if okR rs = true then rs else [] := ⟨_, rfl⟩
 have hq1 : okR qs = true := by
  rw [hqs]
  split
  ·assumption
  rfl
 have hq2 : qs.length ≤ 100000 := by
  rw [hqs]
  split
  ·exact hn
  simp
 have HMV := zH (show marksV y rs = Stb.stab ltM (crossesV y qs) by rw [hqs]; rfl)
 have hp0 := (((Hp.start w).alloc 27 [.bool ry.n, .slice ry.p ry.l ry.c, .bool ry.m, .slice ry.p2 ry.l2 ry.c2] (by simp [NoUL])).alloc 51 [.slice none 0 0] (by simp [NoUL])).addNil 54 5
 have hE0 : Ext w ((w.alloc (.cells #[.bool ry.n, .slice ry.p ry.l ry.c, .bool ry.m, .slice ry.p2 ry.l2 ry.c2] 27)).alloc (.cells #[.slice none 0 0] 51)) := ((Ext.refl w).alloc _).alloc _
 have HC := zH (edges_any u rs _ (hu.ext hE0) hn hr)
 have HY := zH (hy.ext hE0)
 clear hu hy
 have HP0 := zH hp0
 clear hp0
 have HE0 := zH hE0
 clear hE0
 refine (callsIn_wide (n := 4)).1 ?_
 refine callsIn_of_wp_marks Tryz.func18 rfl trivial ?_ rfl
 simp only [Tryz.ntmps18, List.size_toArray, List.length_cons, List.length_nil, Nat.reduceAdd, Nat.reduceSub, Array.replicate_succ, Array.replicate_zero, List.push_toArray, List.append_toArray, List.nil_append, List.cons_append]
 gi_wp2_with (refine ⟨trivial, ?_⟩; gi_at_call 32; refine (callsIn_wide.2 HC.out).mono ?_; rintro e W1 ⟨Bx, v, rfl, hB1, hB2, hcell, hR, hx⟩)
 rw [← hqs] at hR
 have HP1 := zH (HP0.out.step hx)
 have HR := zH hR
 have HY1 := zH (hy_dig HY.out hx)
 have hb1 : w.heap.size + 1 < Bx := by simp at hB1; omega
 obtain ⟨X3, hX3⟩ : ∃ X3, X3 = w.heap.size := ⟨_, rfl⟩
 obtain ⟨Bo, hBo⟩ : ∃ Bo, Bo = w.heap.size + 1 := ⟨_, rfl⟩
 have HP2 := zH (show Hp w W1 [.blk X3 27 [.bool ry.n, .slice ry.p ry.l ry.c, .bool ry.m, .slice ry.p2 ry.l2 ry.c2], .blk Bo 51 [.slice none 0 0], .row 54 5 (.slice none 0 0) 0 (List.flatMap MkE.cells [])] from by rw [hX3, hBo]; have h := HP1.out; simpa using h)
 have hX3B : X3 < W1.heap.size := HP2.out.lt (i := 0) (by rfl) rfl
 have hBoB : Bo < W1.heap.size := HP2.out.lt (i := 1) (by rfl) rfl
 have HRF := zH (show RingsO (fun k => ¬ (k = Bo ∨ W1.heap.size ≤ k)) W1 v qs from HR.out.imp (fun k h => by have h1 := h.1; simp at h1; omega))
 rw [← hBo, ← hX3]
 clear HP1 HR HP0 HY hqs hx hR hB1
 have hbne : Bx ≠ Bo := by omega
 clear hX3 hBo hb1
 have HWS := zH (show w.heap.size ≤ W1.heap.size from by have := HP2.out.ext.size; exact this)
 have HYL := zH (show Nm.rl y ≤ L from by have h := HY1.out.rl; omega)
 refine edges_loop (by omega) (fun k => k = Bo ∨ W1.heap.size ≤ k) Bx v qs (by rfl) hcell (fun hk => hk.elim hbne (fun h => by omega)) HRF.out hq2 hq1 (fun k h => .inr h) (MkI L X3 Bo ry y w W1) (mkI_own L X3 Bo ry y w W1 HWS.out) ⟨none, 0, 0, [], HP2.out, Dig.refl _, by simp [Value.ownBlock], by simp, rfl, rfl, Nat.le_refl _, Nat.le_refl _⟩ (MkA u X3 Bo Bx ry W1) (mkA_own u X3 Bo Bx ry W1) ?assign ?body ?done
 case assign =>
  intro l pre x W K hi hK
  obtain ⟨A, n, c, es, hh, hd, hfar, hok, hvl, hnl, hnp, hsz⟩ := hi
  have HSZ := zH hsz
  clear hsz
  have H0 := zH hh
  have HK := zH hK
  have HF := zH (And.intro hfar (And.intro hvl (And.intro hnl hnp)))
  have HOKS := zH hok
  have HD := zH hd
  clear hh hK hfar hok hvl hnl hnp hd
  unfold ptVal2
  simp only [zA, zB, zC]
  refine wpIn_seq ?_
  refine wpIn_region_plain (by kernel_rfl) (fun ⟨_, _, h⟩ => h) ?_
  refine mv_alloc (T := 45) (zs := [.int .i64 0, .int .i64 0]) (by rfl) (by go_simp) H0.out (by simp [NoUL]) ?_
  intro X37 w38 hh hx hge
  have Q39 := zH (show W.heap.size ≤ X37 from Nat.le_trans (Fr.of_ext (G := fun kz => False) (Ext.refl W)).size hge)
  have H40 := zH (show Hp w w38 [.blk X3 27 (rc ry), .blk Bo 51 [.slice A n c], ro 54 5 A n c MkE.cells es, .blk X37 45 [.int .i64 0, .int .i64 0]] from hh)
  have D40 := zH (Dig.of_ext hx)
  have K42 := zH (show Fr (fun kz => False) W w38 from (Fr.of_ext (G := fun kz => False) (Ext.refl W)).trans (Fr.of_ext hx))
  clear hh hx hge
  try simp only [Act.put, zA, zB, zC]
  refine mv_st (by rfl) _ _ _ (by rfl) H40.out (ix := 3) (by rfl) 0 [.int .i64 x.1.1.1, .int .i64 x.1.1.2] (by rfl) (by rfl) (by simp) (by kernel_rfl) (by simp [Value.oneCell']) (by simp [NoUL]) ?_
  intro w44 hh hd ho
  have H45 := zH (show Hp w w44 [.blk X3 27 (rc ry), .blk Bo 51 [.slice A n c], ro 54 5 A n c MkE.cells es, .blk X37 45 [.int .i64 x.1.1.1, .int .i64 x.1.1.2]] from hh)
  have D45 := zH (hd)
  have K47 := zH (show Fr (fun kz => False) W w44 from K42.out.trans_new ho (fun j hj => .inr (by injection hj with hj; rw [← hj]; exact Q39.out)))
  clear hh hd ho
  (try simp only [Act.put])
  refine wpIn_region_plain (by kernel_rfl) (fun ⟨_, _, h⟩ => h) ?_
  refine mv_alloc (T := 45) (zs := [.int .i64 0, .int .i64 0]) (by rfl) (by go_simp) H45.out (by simp [NoUL]) ?_
  intro X48 w49 hh hx hge
  have Q50 := zH (show W.heap.size ≤ X48 from Nat.le_trans K47.out.size hge)
  have H51 := zH (show Hp w w49 [.blk X3 27 (rc ry), .blk Bo 51 [.slice A n c], ro 54 5 A n c MkE.cells es, .blk X37 45 [.int .i64 x.1.1.1, .int .i64 x.1.1.2], .blk X48 45 [.int .i64 0, .int .i64 0]] from hh)
  have D51 := zH (Dig.of_ext hx)
  have K53 := zH (show Fr (fun kz => False) W w49 from K47.out.trans (Fr.of_ext hx))
  clear hh hx hge
  try simp only [Act.put, zA, zB, zC]
  refine mv_st (by rfl) _ _ _ (by rfl) H51.out (ix := 4) (by rfl) 0 [.int .i64 x.1.2.1, .int .i64 x.1.2.2] (by rfl) (by rfl) (by simp) (by kernel_rfl) (by simp [Value.oneCell']) (by simp [NoUL]) ?_
  intro w55 hh hd ho
  have H56 := zH (show Hp w w55 [.blk X3 27 (rc ry), .blk Bo 51 [.slice A n c], ro 54 5 A n c MkE.cells es, .blk X37 45 [.int .i64 x.1.1.1, .int .i64 x.1.1.2], .blk X48 45 [.int .i64 x.1.2.1, .int .i64 x.1.2.2]] from hh)
  have D56 := zH (hd)
  have K58 := zH (show Fr (fun kz => False) W w55 from K53.out.trans_new ho (fun j hj => .inr (by injection hj with hj; rw [← hj]; exact Q50.out)))
  clear hh hd ho
  (try simp only [Act.put])
  have DD59 := zH ((((D40.out.trans D45.out).trans D51.out).trans D56.out))
  refine HK.out _ _ (KeepsFrom.of_fr K58.out (fun _ h => h.elim)) (K58.out.imp (fun _ h => h.elim)) ⟨A, n, c, es, H56.out.take 3, HD.out.trans DD59.out, HF.out.1, fun e he => (HOKS.out e he).dig DD59.out, HF.out.2.1, HF.out.2.2.1, HF.out.2.2.2, Nat.le_trans HSZ.out K58.out.size⟩ ⟨X37, X48, H56.out.blk (i := 3) (by rfl), H56.out.blk (i := 4) (by rfl), ?_, Nat.le_trans HSZ.out Q39.out, Nat.le_trans HSZ.out Q50.out, rfl⟩
  exact fun e => H56.out.apart 3 4 _ _ (by rfl) (by rfl) (by decide) X37 (by rfl) (by rw [e]; rfl)
 case body =>
  intro l pre x a' W hi hax hlen
  obtain ⟨A, n, c, es, hh, hd, hfar, hok, hvl, hnl, hnp, hsz⟩ := hi
  have HSZ := zH hsz
  clear hsz
  obtain ⟨Xa, Xb, hba, hbb, hne, hga, hgb, rfl⟩ := hax
  obtain ⟨⟨⟨ax, ay⟩, ⟨bx, bY⟩⟩, hoke⟩ := x
  dsimp only at hba hbb ⊢
  have HOKE := zH hoke
  have HD := zH hd
  have HFAR := zH hfar
  have HOKS := zH hok
  have HVL := zH hvl
  have HNL := zH hnl
  have hnp4 : n < 4096 := by omega
  have HNP := zH hnp
  have H0 := zH (show Hp w W [.blk X3 27 (rc ry), .blk Bo 51 [.slice A n c], ro 54 5 A n c MkE.cells es, .blk Xa 45 [.int .i64 ax, .int .i64 ay], .blk Xb 45 [.int .i64 bx, .int .i64 bY]] from hh.addTyp2 hba hbb hne (Nat.le_trans HWS.out hga) (Nat.le_trans HWS.out hgb) (by simp [NoUL]) (by simp [NoUL]) (by simp [Ent.typ]))
  have HYW := zH (HY1.out.dig hd)
  have hok4 : -1048576 ≤ ay ∧ ay ≤ 1048576 ∧ -1048576 ≤ bY ∧ bY ≤ 1048576 := by have h1 := hoke.1; have h2 := hoke.2; simp only [okPt, Bool.and_eq_true, decide_eq_true_eq] at h1 h2; omega
  have HB4 := zH hok4
  clear hh hd hfar hok hvl hnl hba hbb hne hok4 hnp hga hgb
  refine wpIn_block ?_
  refine wpIn_seq ?_
  refine wpIn_region_held_drew (S := fun x => Ext W x) (by kernel_rfl) (by kernel_rfl) (fun ⟨_, _, h⟩ => h) zb (fun _ => ?_)
  have H60 := zH (H0.out.step (Ext.refl W).drew)
  have D60 := zH (Dig.of_ext (w := W) zb)
  have K62 := zH (show Fr (fun kz => kz = Bo ∨ Value.ownBlock (.slice A n c) = some kz) W W.drew from (Fr.of_ext (G := fun kz => kz = Bo ∨ Value.ownBlock (.slice A n c) = some kz) (Ext.refl W)).trans (Fr.of_ext (Ext.refl W).drew))
  refine zx 0 (bs 12 1) (.pointer (some ⟨Xa, 1, none⟩)) zb ?_
  refine md_ld1 (g := Xa) (o := 1) (v := .int .i64 ay) (i := 1) (listed' := (bs 12 3)) (by rfl) (by kernel_rfl) (by kernel_rfl) (by kernel_rfl) (by intro _ _ _ h; exact h) (by rfl) (fun x hx => Ext.get hx (show World.cell? W ⟨Xa, 1, none⟩ = some (.int .i64 ay) from cell_of_range (H0.out.range (i := 3) (by rfl) 1 1))) (by intro x hq; go_simp <;> with_reducible rfl) zb (by kernel_rfl) ?_
  refine zg 3 (bs 12 11) X3 (0) (rc ry) (H0.out.range (i := 0) (by rfl) 0 4) Tryz.underlying27 zb ?_
  refine zx 5 (bs 12 43) (.pointer (some ⟨Xb, 1, none⟩)) zb ?_
  refine md_ld1 (g := Xb) (o := 1) (v := .int .i64 bY) (i := 6) (listed' := (bs 12 107)) (by rfl) (by kernel_rfl) (by kernel_rfl) (by kernel_rfl) (by intro _ _ _ h; exact h) (by rfl) (fun x hx => Ext.get hx (show World.cell? W ⟨Xb, 1, none⟩ = some (.int .i64 bY) from cell_of_range (H0.out.range (i := 4) (by rfl) 1 1))) (by intro x hq; go_simp <;> with_reducible rfl) zb (by kernel_rfl) ?_
  refine zg 8 (bs 12 363) X3 (0) (rc ry) (H0.out.range (i := 0) (by rfl) 0 4) Tryz.underlying27 zb ?_
  refine mC 2 (bs 12 367) (pFrom ay _ (by have ob0 := HB4.out.1; have ob1 := HB4.out.2.1; have ob2 := HB4.out.2.2.1; have ob3 := HB4.out.2.2.2; omega) (by have ob0 := HB4.out.1; have ob1 := HB4.out.2.1; have ob2 := HB4.out.2.2.1; have ob3 := HB4.out.2.2.2; omega)) ?_
  rintro e w65 ⟨c_, rfl, hc_, hx⟩
  have H67 := zH (H60.out.step hx)
  have D67 := zH (show Dig W.drew w65 from Dig.of_ext hx)
  have K69 := zH (show Fr (fun kz => kz = Bo ∨ Value.ownBlock (.slice A n c) = some kz) W w65 from K62.out.trans (Fr.of_ext hx))
  have S70 := zH (show Ext W w65 from zb.trans hx)
  obtain ⟨r66, rfl, hr_⟩ := hc_
  have R66 := zH hr_
  have B66 := zH (rl_i64 ay (by have ob0 := HB4.out.1; have ob1 := HB4.out.2.1; have ob2 := HB4.out.2.2.1; have ob3 := HB4.out.2.2.2; omega) (by have ob0 := HB4.out.1; have ob1 := HB4.out.2.1; have ob2 := HB4.out.2.2.1; have ob3 := HB4.out.2.2.2; omega))
  clear hr_
  clear hx
  refine zm S70.out ?_
  have DD72 := zH ((D60.out.trans D67.out))
  refine mC 4 (bs 12 383) (pCmp (L := 60000) (RV.Is.nin R66.out (Nat.le_trans B66.out (by omega))) (RV.In.nin (RV.In.mono (HYW.out.dig DD72.out) (by omega))) (by omega)) ?_
  rintro e w71 ⟨rfl, hx⟩
  have H73 := zH (H67.out.step hx)
  have D73 := zH (Dig.of_ext hx)
  have K75 := zH (show Fr (fun kz => kz = Bo ∨ Value.ownBlock (.slice A n c) = some kz) W w71 from K69.out.trans (Fr.of_ext hx))
  have S76 := zH (S70.out.trans hx)
  clear hx
  refine zm S76.out ?_
  refine mC 7 (bs 12 511) (pFrom bY _ (by have ob0 := HB4.out.1; have ob1 := HB4.out.2.1; have ob2 := HB4.out.2.2.1; have ob3 := HB4.out.2.2.2; omega) (by have ob0 := HB4.out.1; have ob1 := HB4.out.2.1; have ob2 := HB4.out.2.2.1; have ob3 := HB4.out.2.2.2; omega)) ?_
  rintro e w77 ⟨c_, rfl, hc_, hx⟩
  have H79 := zH (H73.out.step hx)
  have D79 := zH (Dig.of_ext hx)
  have K81 := zH (show Fr (fun kz => kz = Bo ∨ Value.ownBlock (.slice A n c) = some kz) W w77 from K75.out.trans (Fr.of_ext hx))
  have S82 := zH (S76.out.trans hx)
  obtain ⟨r78, rfl, hr_⟩ := hc_
  have R78 := zH hr_
  have B78 := zH (rl_i64 bY (by have ob0 := HB4.out.1; have ob1 := HB4.out.2.1; have ob2 := HB4.out.2.2.1; have ob3 := HB4.out.2.2.2; omega) (by have ob0 := HB4.out.1; have ob1 := HB4.out.2.1; have ob2 := HB4.out.2.2.1; have ob3 := HB4.out.2.2.2; omega))
  clear hr_
  clear hx
  refine zm S82.out ?_
  have DD84 := zH ((((D60.out.trans D67.out).trans D73.out).trans D79.out))
  refine mC 9 (bs 12 1023) (pCmp (L := 60000) (RV.Is.nin R78.out (Nat.le_trans B78.out (by omega))) (RV.In.nin (RV.In.mono (HYW.out.dig DD84.out) (by omega))) (by omega)) ?_
  rintro e w83 ⟨rfl, hx⟩
  have H85 := zH (H79.out.step hx)
  have D85 := zH (Dig.of_ext hx)
  have K87 := zH (show Fr (fun kz => kz = Bo ∨ Value.ownBlock (.slice A n c) = some kz) W w83 from K81.out.trans (Fr.of_ext hx))
  have S88 := zH (S82.out.trans hx)
  clear hx
  refine zm S88.out ?_
  refine zx 10 (bs 12 2047) (.int .i64 (rcmp (((ay) : Int) : Rat) y)) S88.out ?_
  refine zx 11 (bs 12 4095) (.int .i64 (rcmp (((bY) : Int) : Rat) y)) S88.out ?_
  refine wpAnyH_done (by kernel_rfl) ?_ _
  by_cases c91 : (((ay) : Int) : Rat) < y ∧ y < (((bY) : Int) : Rat)
  ·have CU := zH c91
   clear c91
   have HCR := zH (cross_up (a := (ax, ay)) (b := (bx, bY)) CU.out)
   have HPRE := zH (xat_pre (a := ay) (b := bY) (.inl CU.out))
   have hz1 : rcmp (((ay) : Int) : Rat) y = -1 := rcmp_m1 CU.out.1
   have hz2 : rcmp (((bY) : Int) : Rat) y = 1 := rcmp_p1 CU.out.2
   rw [hz1, hz2]
   clear hz1 hz2
   change Code.wpIn _ _ _ _ _ _ _
   refine wpIn_seq ?_
   refine wpIn_seq ?_
   refine wpIn_region_plain (by kernel_rfl) (fun ⟨_, _, h⟩ => h) ?_
   refine qV (.int .i64 (-1)) ?_
   refine zq (.int .i64 1) ?_
   refine zp (w' := w83) (.int .i64 (-1)) (by exact ez3 (by have ob0 := HB4.out.1; have ob1 := HB4.out.2.1; have ob2 := HB4.out.2.2.1; have ob3 := HB4.out.2.2.2; omega)) ?_
   refine zp (w' := w83) (.bool false) (by exact ezo (e := (dec_f (by have ob0 := HB4.out.1; have ob1 := HB4.out.2.1; have ob2 := HB4.out.2.2.1; have ob3 := HB4.out.2.2.2; omega)))) ?_
   change Code.wpIn _ _ _ _ _ _ _
   refine wpIn_cond_false (by rfl) ?_
   refine wpIn_skip ?_
   change Code.wpIn _ _ _ _ _ _ _
   refine wpIn_seq ?_
   refine wpIn_region_plain (by kernel_rfl) (fun ⟨_, _, h⟩ => h) ?_
   refine zd Xa (0) [.int .i64 ax, .int .i64 ay] (H85.out.range (i := 3) (by rfl) 0 2) Tryz.underlying45 ?_
   refine zd Xb (0) [.int .i64 bx, .int .i64 bY] (H85.out.range (i := 4) (by rfl) 0 2) Tryz.underlying45 ?_
   refine zd X3 (0) (rc ry) (H85.out.range (i := 0) (by rfl) 0 4) Tryz.underlying27 ?_
   have DD98 := zH (((((D60.out.trans D67.out).trans D73.out).trans D79.out).trans D85.out))
   refine zc (xat_any L ax ay bx bY _ y _ (RV.In.nin (HYW.out.dig DD98.out)) h1L (by omega) HOKE.out.1 HOKE.out.2 HPRE.out.1 HPRE.out.2.1 HPRE.out.2.2) ?_
   rintro e w96 ⟨c_, rfl, hc_, hx⟩
   have H99 := zH (H85.out.step hx)
   have D99 := zH (Dig.of_ext hx)
   have K101 := zH (show Fr (fun kz => kz = Bo ∨ Value.ownBlock (.slice A n c) = some kz) W w96 from K87.out.trans (Fr.of_ext hx))
   obtain ⟨r97, rfl, hr_⟩ := hc_
   have R97 := zH hr_
   have B97 := zH (rl_xat HOKE.out.1 HOKE.out.2 HYL.out)
   clear hr_
   clear hx
   refine zn ?_
   refine qV (.tuple #[.agg #[.bool r97.n, .slice r97.p r97.l r97.c, .bool r97.m, .slice r97.p2 r97.l2 r97.c2], .bool true]) ?_
   refine zq (.agg #[.bool r97.n, .slice r97.p r97.l r97.c, .bool r97.m, .slice r97.p2 r97.l2 r97.c2]) ?_
   refine zq (.bool true) ?_
   refine mv_alloc (T := 27) (zs := [.bool false, .slice none 0 0, .bool false, .slice none 0 0]) (by rfl) (by go_simp) H99.out (by simp [NoUL]) ?_
   intro X105 w106 hh hx hge
   have Q107 := zH (show W.heap.size ≤ X105 from Nat.le_trans K101.out.size hge)
   have H108 := zH (show Hp w w106 [.blk X3 27 (rc ry), .blk Bo 51 [.slice A n c], ro 54 5 A n c MkE.cells es, .blk Xa 45 [.int .i64 ax, .int .i64 ay], .blk Xb 45 [.int .i64 bx, .int .i64 bY], .blk X105 27 rz] from hh)
   have D108 := zH (Dig.of_ext hx)
   have K110 := zH (show Fr (fun kz => kz = Bo ∨ Value.ownBlock (.slice A n c) = some kz) W w106 from K101.out.trans (Fr.of_ext hx))
   clear hh hx hge
   try simp only [Act.put, zA, zB, zC]
   refine mv_st (by rfl) _ _ _ (by rfl) H108.out (ix := 5) (by rfl) 0 [.bool r97.n, .slice r97.p r97.l r97.c, .bool r97.m, .slice r97.p2 r97.l2 r97.c2] (by rfl) (by rfl) (by simp) (by kernel_rfl) (by simp [Value.oneCell']) (by simp [NoUL]) ?_
   intro w112 hh hd ho
   have H113 := zH (show Hp w w112 [.blk X3 27 (rc ry), .blk Bo 51 [.slice A n c], ro 54 5 A n c MkE.cells es, .blk Xa 45 [.int .i64 ax, .int .i64 ay], .blk Xb 45 [.int .i64 bx, .int .i64 bY], .blk X105 27 (rc r97)] from hh)
   have D113 := zH (hd)
   have K115 := zH (show Fr (fun kz => kz = Bo ∨ Value.ownBlock (.slice A n c) = some kz) W w112 from K110.out.trans_new ho (fun j hj => .inr (by injection hj with hj; rw [← hj]; exact Q107.out)))
   clear hh hd ho
   (try simp only [Act.put])
   refine zq (.bool true) ?_
   change Code.wpIn _ _ _ _ _ _ _
   refine wpIn_seq ?_
   refine wpIn_region_plain (by kernel_rfl) (fun ⟨_, _, h⟩ => h) ?_
   refine zq (.bool true) ?_
   change Code.wpIn _ _ _ _ _ _ _
   refine wpIn_cond_true (by rfl) ?_
   have HNB := zH hnp4
   refine wpIn_region_plain (by kernel_rfl) (fun ⟨_, _, h⟩ => h) ?_
   refine ze Bo 0 (.slice A n c) (H113.out.range (i := 1) (by rfl) 0 1) ?_
   refine zd X105 (0) (rc r97) (H113.out.range (i := 5) (by rfl) 0 4) Tryz.underlying27 ?_
   refine qV (.int .i64 1) ?_
   refine zq (.agg #[.bool r97.n, .slice r97.p r97.l r97.c, .bool r97.m, .slice r97.p2 r97.l2 r97.c2, .int .i64 1]) ?_
   refine zp (w' := (w112.alloc (.cells ([.bool r97.n, .slice r97.p r97.l r97.c, .bool r97.m, .slice r97.p2 r97.l2 r97.c2, .int .i64 1] : List Value).toArray 54))) (.slice (some ⟨w112.heap.size, 0, none⟩) 1 1) (by go_simp) ?_
   refine mv_app (by rfl) _ _ _ (by rfl) elMark (by rfl) H113.out (ix := 2) (by rfl) 1 1 [.bool r97.n, .slice r97.p r97.l r97.c, .bool r97.m, .slice r97.p2 r97.l2 r97.c2, .int .i64 1] (by rfl) rfl (by simp [Value.oneCell']) (by simp [NoUL]) (by decide) (by unfold maxLen; exact (by have ob0 := HB4.out.1; have ob1 := HB4.out.2.1; have ob2 := HB4.out.2.2.1; have ob3 := HB4.out.2.2.2; have ob4 := HNB.out; omega)) (by have ob0 := HB4.out.1; have ob1 := HB4.out.2.1; have ob2 := HB4.out.2.2.1; have ob3 := HB4.out.2.2.2; have ob4 := HNB.out; omega) ?_
   intro g121 cp122 w120 hf hh hd hg
   have Fg121 := zH hf
   clear hf
   rw [show List.flatMap MkE.cells es ++ [.bool r97.n, .slice r97.p r97.l r97.c, .bool r97.m, .slice r97.p2 r97.l2 r97.c2, .int .i64 1] = _ from flat_snoc MkE.cells _ (⟨r97, (xatV ax ay bx bY y), 1⟩ : MkE)] at hh
   have H123 := zH (show Hp w w120 [.blk X3 27 (rc ry), .blk Bo 51 [.slice A n c], ro 54 5 (some ⟨g121, 0, none⟩) (n + 1) cp122 MkE.cells (es ++ [(⟨r97, (xatV ax ay bx bY y), 1⟩ : MkE)]), .blk Xa 45 [.int .i64 ax, .int .i64 ay], .blk Xb 45 [.int .i64 bx, .int .i64 bY], .blk X105 27 (rc r97)] from hh)
   have D123 := zH (hd)
   have K125 := zH (show Fr (fun kz => kz = Bo ∨ Value.ownBlock (.slice A n c) = some kz) W w120 from (K115.out.trans (Fr.of_ext ((Ext.refl _).alloc _))).trans_new hg (fun j hj => .inl (.inr hj)))
   clear hh hd hg
   try simp only [Act.put, zA, zB, zC]
   refine mv_st1 (by rfl) _ _ _ (by rfl) H123.out (ix := 1) (by rfl) 0 (.slice (some ⟨g121, 0, none⟩) (n + 1) cp122) (by rfl) (by rfl) (by simp) (by kernel_rfl) (by simp [Value.cells]) (by simp [Value.oneCell']) (by simp [NoUL]) ?_
   intro w126 hh hd ho
   have H127 := zH (show Hp w w126 [.blk X3 27 (rc ry), .blk Bo 51 [.slice (some ⟨g121, 0, none⟩) (n + 1) cp122], ro 54 5 (some ⟨g121, 0, none⟩) (n + 1) cp122 MkE.cells (es ++ [(⟨r97, (xatV ax ay bx bY y), 1⟩ : MkE)]), .blk Xa 45 [.int .i64 ax, .int .i64 ay], .blk Xb 45 [.int .i64 bx, .int .i64 bY], .blk X105 27 (rc r97)] from hh)
   have D127 := zH (hd)
   have K129 := zH (show Fr (fun kz => kz = Bo ∨ Value.ownBlock (.slice A n c) = some kz) W w126 from K125.out.trans_new ho (fun j hj => .inl (.inl (by injection hj with hj; exact hj.symm))))
   clear hh hd ho
   (try simp only [Act.put])
   have DD130 := zH ((((D108.out.trans D113.out).trans D123.out).trans D127.out))
   have HNEW := zH (show MkE.Ok (L + 8) w126 (⟨r97, (xatV ax ay bx bY y), 1⟩ : MkE) from ⟨(R97.out.dig DD130.out), B97.out, (show (-1 : Int) ≤ 1 by decide), (show (1 : Int) ≤ 1 by decide)⟩)
   exact ⟨(KeepsFrom.of_fr K129.out (fun k hk o ho => hk.elim (fun e => H0.out.cells (i := 1) (by rfl) (by rw [e]; rfl) o ho) (fun e => H0.out.cells (i := 2) (by rfl) (by exact e) o ho))), (K129.out.imp (fun k hk => hk.imp id (fun e => HFAR.out k e))), _, _, _, _, H127.out.take 3, HD.out.trans (((((((((D60.out.trans D67.out).trans D73.out).trans D79.out).trans D85.out).trans D99.out).trans D108.out).trans D113.out).trans D123.out).trans D127.out), (fun k hk => by (have hk2 : g121 = k := by simpa [Value.ownBlock] using hk); (subst hk2); exact Fg121.out.elim (fun q => HFAR.out _ q) (fun q => Nat.le_trans HSZ.out (Nat.le_trans K115.out.size q))), (fun e he => (List.mem_append.1 he).elim (fun he => (HOKS.out e he).dig (((((((((D60.out.trans D67.out).trans D73.out).trans D79.out).trans D85.out).trans D99.out).trans D108.out).trans D113.out).trans D123.out).trans D127.out)) (fun he => by rw [List.mem_singleton.1 he]; exact HNEW.out)), (by rw [List.map_append, HVL.out, List.map_append, List.filterMap_append]; simp [HCR.out, MkE.vl]), (by rw [List.length_append, ← HNL.out]; rfl), (by have h := HNP.out; simp; omega), Nat.le_trans HSZ.out K129.out.size⟩
  have CU := zH c91
  clear c91
  by_cases c131 : (((bY) : Int) : Rat) < y ∧ y < (((ay) : Int) : Rat)
  ·have CD := zH c131
   clear c131
   have HCR := zH (cross_down (a := (ax, ay)) (b := (bx, bY)) CD.out)
   have HPRE := zH (xat_pre (a := ay) (b := bY) (.inr CD.out))
   have hz1 : rcmp (((ay) : Int) : Rat) y = 1 := rcmp_p1 CD.out.2
   have hz2 : rcmp (((bY) : Int) : Rat) y = -1 := rcmp_m1 CD.out.1
   rw [hz1, hz2]
   clear hz1 hz2
   change Code.wpIn _ _ _ _ _ _ _
   refine wpIn_seq ?_
   refine wpIn_seq ?_
   refine wpIn_region_plain (by kernel_rfl) (fun ⟨_, _, h⟩ => h) ?_
   refine qV (.int .i64 1) ?_
   refine zq (.int .i64 (-1)) ?_
   refine zp (w' := w83) (.int .i64 (-1)) (by exact ez3 (by have ob0 := HB4.out.1; have ob1 := HB4.out.2.1; have ob2 := HB4.out.2.2.1; have ob3 := HB4.out.2.2.2; omega)) ?_
   refine zp (w' := w83) (.bool false) (by exact ezo (e := (dec_f (by have ob0 := HB4.out.1; have ob1 := HB4.out.2.1; have ob2 := HB4.out.2.2.1; have ob3 := HB4.out.2.2.2; omega)))) ?_
   change Code.wpIn _ _ _ _ _ _ _
   refine wpIn_cond_false (by rfl) ?_
   refine wpIn_skip ?_
   change Code.wpIn _ _ _ _ _ _ _
   refine wpIn_seq ?_
   refine wpIn_region_plain (by kernel_rfl) (fun ⟨_, _, h⟩ => h) ?_
   refine zd Xa (0) [.int .i64 ax, .int .i64 ay] (H85.out.range (i := 3) (by rfl) 0 2) Tryz.underlying45 ?_
   refine zd Xb (0) [.int .i64 bx, .int .i64 bY] (H85.out.range (i := 4) (by rfl) 0 2) Tryz.underlying45 ?_
   refine zd X3 (0) (rc ry) (H85.out.range (i := 0) (by rfl) 0 4) Tryz.underlying27 ?_
   have DD138 := zH (((((D60.out.trans D67.out).trans D73.out).trans D79.out).trans D85.out))
   refine zc (xat_any L ax ay bx bY _ y _ (RV.In.nin (HYW.out.dig DD138.out)) h1L (by omega) HOKE.out.1 HOKE.out.2 HPRE.out.1 HPRE.out.2.1 HPRE.out.2.2) ?_
   rintro e w136 ⟨c_, rfl, hc_, hx⟩
   have H139 := zH (H85.out.step hx)
   have D139 := zH (Dig.of_ext hx)
   have K141 := zH (show Fr (fun kz => kz = Bo ∨ Value.ownBlock (.slice A n c) = some kz) W w136 from K87.out.trans (Fr.of_ext hx))
   obtain ⟨r137, rfl, hr_⟩ := hc_
   have R137 := zH hr_
   have B137 := zH (rl_xat HOKE.out.1 HOKE.out.2 HYL.out)
   clear hr_
   clear hx
   refine zn ?_
   refine qV (.tuple #[.agg #[.bool r137.n, .slice r137.p r137.l r137.c, .bool r137.m, .slice r137.p2 r137.l2 r137.c2], .bool true]) ?_
   refine zq (.agg #[.bool r137.n, .slice r137.p r137.l r137.c, .bool r137.m, .slice r137.p2 r137.l2 r137.c2]) ?_
   refine zq (.bool true) ?_
   refine mv_alloc (T := 27) (zs := [.bool false, .slice none 0 0, .bool false, .slice none 0 0]) (by rfl) (by go_simp) H139.out (by simp [NoUL]) ?_
   intro X145 w146 hh hx hge
   have Q147 := zH (show W.heap.size ≤ X145 from Nat.le_trans K141.out.size hge)
   have H148 := zH (show Hp w w146 [.blk X3 27 (rc ry), .blk Bo 51 [.slice A n c], ro 54 5 A n c MkE.cells es, .blk Xa 45 [.int .i64 ax, .int .i64 ay], .blk Xb 45 [.int .i64 bx, .int .i64 bY], .blk X145 27 rz] from hh)
   have D148 := zH (Dig.of_ext hx)
   have K150 := zH (show Fr (fun kz => kz = Bo ∨ Value.ownBlock (.slice A n c) = some kz) W w146 from K141.out.trans (Fr.of_ext hx))
   clear hh hx hge
   try simp only [Act.put, zA, zB, zC]
   refine mv_st (by rfl) _ _ _ (by rfl) H148.out (ix := 5) (by rfl) 0 [.bool r137.n, .slice r137.p r137.l r137.c, .bool r137.m, .slice r137.p2 r137.l2 r137.c2] (by rfl) (by rfl) (by simp) (by kernel_rfl) (by simp [Value.oneCell']) (by simp [NoUL]) ?_
   intro w152 hh hd ho
   have H153 := zH (show Hp w w152 [.blk X3 27 (rc ry), .blk Bo 51 [.slice A n c], ro 54 5 A n c MkE.cells es, .blk Xa 45 [.int .i64 ax, .int .i64 ay], .blk Xb 45 [.int .i64 bx, .int .i64 bY], .blk X145 27 (rc r137)] from hh)
   have D153 := zH (hd)
   have K155 := zH (show Fr (fun kz => kz = Bo ∨ Value.ownBlock (.slice A n c) = some kz) W w152 from K150.out.trans_new ho (fun j hj => .inr (by injection hj with hj; rw [← hj]; exact Q147.out)))
   clear hh hd ho
   (try simp only [Act.put])
   refine zq (.bool true) ?_
   change Code.wpIn _ _ _ _ _ _ _
   refine wpIn_seq ?_
   refine wpIn_region_plain (by kernel_rfl) (fun ⟨_, _, h⟩ => h) ?_
   refine zq (.bool true) ?_
   change Code.wpIn _ _ _ _ _ _ _
   refine wpIn_cond_true (by rfl) ?_
   have HNB := zH hnp4
   refine wpIn_region_plain (by kernel_rfl) (fun ⟨_, _, h⟩ => h) ?_
   refine ze Bo 0 (.slice A n c) (H153.out.range (i := 1) (by rfl) 0 1) ?_
   refine zd X145 (0) (rc r137) (H153.out.range (i := 5) (by rfl) 0 4) Tryz.underlying27 ?_
   refine qV (.int .i64 (-1)) ?_
   refine zq (.agg #[.bool r137.n, .slice r137.p r137.l r137.c, .bool r137.m, .slice r137.p2 r137.l2 r137.c2, .int .i64 (-1)]) ?_
   refine zp (w' := (w152.alloc (.cells ([.bool r137.n, .slice r137.p r137.l r137.c, .bool r137.m, .slice r137.p2 r137.l2 r137.c2, .int .i64 (-1)] : List Value).toArray 54))) (.slice (some ⟨w152.heap.size, 0, none⟩) 1 1) (by go_simp) ?_
   refine mv_app (by rfl) _ _ _ (by rfl) elMark (by rfl) H153.out (ix := 2) (by rfl) 1 1 [.bool r137.n, .slice r137.p r137.l r137.c, .bool r137.m, .slice r137.p2 r137.l2 r137.c2, .int .i64 (-1)] (by rfl) rfl (by simp [Value.oneCell']) (by simp [NoUL]) (by decide) (by unfold maxLen; exact (by have ob0 := HB4.out.1; have ob1 := HB4.out.2.1; have ob2 := HB4.out.2.2.1; have ob3 := HB4.out.2.2.2; have ob4 := HNB.out; omega)) (by have ob0 := HB4.out.1; have ob1 := HB4.out.2.1; have ob2 := HB4.out.2.2.1; have ob3 := HB4.out.2.2.2; have ob4 := HNB.out; omega) ?_
   intro g161 cp162 w160 hf hh hd hg
   have Fg161 := zH hf
   clear hf
   rw [show List.flatMap MkE.cells es ++ [.bool r137.n, .slice r137.p r137.l r137.c, .bool r137.m, .slice r137.p2 r137.l2 r137.c2, .int .i64 (-1)] = _ from flat_snoc MkE.cells _ (⟨r137, (xatV ax ay bx bY y), -1⟩ : MkE)] at hh
   have H163 := zH (show Hp w w160 [.blk X3 27 (rc ry), .blk Bo 51 [.slice A n c], ro 54 5 (some ⟨g161, 0, none⟩) (n + 1) cp162 MkE.cells (es ++ [(⟨r137, (xatV ax ay bx bY y), -1⟩ : MkE)]), .blk Xa 45 [.int .i64 ax, .int .i64 ay], .blk Xb 45 [.int .i64 bx, .int .i64 bY], .blk X145 27 (rc r137)] from hh)
   have D163 := zH (hd)
   have K165 := zH (show Fr (fun kz => kz = Bo ∨ Value.ownBlock (.slice A n c) = some kz) W w160 from (K155.out.trans (Fr.of_ext ((Ext.refl _).alloc _))).trans_new hg (fun j hj => .inl (.inr hj)))
   clear hh hd hg
   try simp only [Act.put, zA, zB, zC]
   refine mv_st1 (by rfl) _ _ _ (by rfl) H163.out (ix := 1) (by rfl) 0 (.slice (some ⟨g161, 0, none⟩) (n + 1) cp162) (by rfl) (by rfl) (by simp) (by kernel_rfl) (by simp [Value.cells]) (by simp [Value.oneCell']) (by simp [NoUL]) ?_
   intro w166 hh hd ho
   have H167 := zH (show Hp w w166 [.blk X3 27 (rc ry), .blk Bo 51 [.slice (some ⟨g161, 0, none⟩) (n + 1) cp162], ro 54 5 (some ⟨g161, 0, none⟩) (n + 1) cp162 MkE.cells (es ++ [(⟨r137, (xatV ax ay bx bY y), -1⟩ : MkE)]), .blk Xa 45 [.int .i64 ax, .int .i64 ay], .blk Xb 45 [.int .i64 bx, .int .i64 bY], .blk X145 27 (rc r137)] from hh)
   have D167 := zH (hd)
   have K169 := zH (show Fr (fun kz => kz = Bo ∨ Value.ownBlock (.slice A n c) = some kz) W w166 from K165.out.trans_new ho (fun j hj => .inl (.inl (by injection hj with hj; exact hj.symm))))
   clear hh hd ho
   (try simp only [Act.put])
   have DD170 := zH ((((D148.out.trans D153.out).trans D163.out).trans D167.out))
   have HNEW := zH (show MkE.Ok (L + 8) w166 (⟨r137, (xatV ax ay bx bY y), -1⟩ : MkE) from ⟨(R137.out.dig DD170.out), B137.out, (show (-1 : Int) ≤ -1 by decide), (show (-1 : Int) ≤ 1 by decide)⟩)
   exact ⟨(KeepsFrom.of_fr K169.out (fun k hk o ho => hk.elim (fun e => H0.out.cells (i := 1) (by rfl) (by rw [e]; rfl) o ho) (fun e => H0.out.cells (i := 2) (by rfl) (by exact e) o ho))), (K169.out.imp (fun k hk => hk.imp id (fun e => HFAR.out k e))), _, _, _, _, H167.out.take 3, HD.out.trans (((((((((D60.out.trans D67.out).trans D73.out).trans D79.out).trans D85.out).trans D139.out).trans D148.out).trans D153.out).trans D163.out).trans D167.out), (fun k hk => by (have hk2 : g161 = k := by simpa [Value.ownBlock] using hk); (subst hk2); exact Fg161.out.elim (fun q => HFAR.out _ q) (fun q => Nat.le_trans HSZ.out (Nat.le_trans K155.out.size q))), (fun e he => (List.mem_append.1 he).elim (fun he => (HOKS.out e he).dig (((((((((D60.out.trans D67.out).trans D73.out).trans D79.out).trans D85.out).trans D139.out).trans D148.out).trans D153.out).trans D163.out).trans D167.out)) (fun he => by rw [List.mem_singleton.1 he]; exact HNEW.out)), (by rw [List.map_append, HVL.out, List.map_append, List.filterMap_append]; simp [HCR.out, MkE.vl]), (by rw [List.length_append, ← HNL.out]; rfl), (by have h := HNP.out; simp; omega), Nat.le_trans HSZ.out K169.out.size⟩
  have CD := zH c131
  clear c131
  have HCR := zH (cross_no (a := (ax, ay)) (b := (bx, bY)) CU.out CD.out)
  have HPR := zH (cross_prod CU.out CD.out)
  change Code.wpIn _ _ _ _ _ _ _
  refine wpIn_seq ?_
  refine wpIn_seq ?_
  refine wpIn_region_plain (by kernel_rfl) (fun ⟨_, _, h⟩ => h) ?_
  refine qV (.int .i64 (rcmp (((ay) : Int) : Rat) y)) ?_
  refine zq (.int .i64 (rcmp (((bY) : Int) : Rat) y)) ?_
  refine zp (w' := w83) (.int .i64 (rcmp (((ay) : Int) : Rat) y * rcmp (((bY) : Int) : Rat) y)) (by exact ev_mul (by rfl) (by rfl) (by rfl) rfl (by have := HPR.out.1; omega) (by have := HPR.out.2; omega)) ?_
  refine zp (w' := w83) (.bool true) (by exact ezo (e := (dec_t HPR.out.1))) ?_
  change Code.wpIn _ _ _ _ _ _ _
  refine wpIn_cond_true (by rfl) ?_
  refine wpIn_exit ?_
  exact ⟨(KeepsFrom.of_fr K87.out (fun k hk o ho => hk.elim (fun e => H0.out.cells (i := 1) (by rfl) (by rw [e]; rfl) o ho) (fun e => H0.out.cells (i := 2) (by rfl) (by exact e) o ho))), (K87.out.imp (fun k hk => hk.imp id (fun e => HFAR.out k e))), A, n, c, es, H85.out.take 3, HD.out.trans ((((D60.out.trans D67.out).trans D73.out).trans D79.out).trans D85.out), HFAR.out, (fun e he => (HOKS.out e he).dig ((((D60.out.trans D67.out).trans D73.out).trans D79.out).trans D85.out)), (by rw [HVL.out, List.map_append, List.filterMap_append]; simp [HCR.out]), HNL.out, (by have h := HNP.out; simp; omega), Nat.le_trans HSZ.out K87.out.size⟩
 case done =>
  rintro D xs W hD hxs ⟨A, n, c, es, hh, hd, hfar, hok, hvl, hnl, hnp, hsz⟩ hK
  have cB : W.cell? ⟨Bo, 0, none⟩ = some (.slice A n c) := hh.cell (i := 1) (by rfl) 0 (by rfl)
  have hrow := hh.row (i := 2) (by rfl)
  have hn4 : es.length ≤ 20000 := by
   have h1 : xs.length = (edgesV qs).length := by rw [← hxs, List.length_map]
   have h2 := edgesV_len qs
   have h3 := okR_tot hq1
   omega
  have HSO := zH (sortMk_any (L + 8) (.slice A n c) es w.heap.size W (by rw [← hnl]; exact hrow) hok (fun w e f he hf => marksCmp_any (L + 8) (by omega) w e f he hf) hn4)
  have HH := zH hh
  have HVL := zH hvl
  have HNL := zH hnl
  have HOK := zH hok
  have HXS := zH hxs
  have HD := zH hK
  clear hrow hh hvl hnl hok hxs hK hfar hnp hd
  gi_wp2
  refine ⟨trivial, ?_⟩
  gi_at_call 35
  refine (callsIn_wide.2 HSO.out).mono ?_
  rintro e Ws ⟨rfl, hrs, hgr⟩
  have HS := zH (HH.out.turn (i := 2) (e := .row 54 5 (.slice A n c) n (List.flatMap MkE.cells es)) (e' := .row 54 5 (.slice A n c) n (List.flatMap MkE.cells (Stb.stab ltK es))) (by rfl) (fun k h => h) hgr (by rw [← HNL.out] at hrs; exact hrs) (fun k hk => .inl hk))
  have cB2 : Ws.cell? ⟨Bo, 0, none⟩ = some (.slice A n c) := HS.out.cell (i := 1) (by rfl) 0 (by rfl)
  gi_wp2
  have hKs : Ws.heap[D]? = some (.deferred (some [])) := (hgr.block D (Array.getElem?_eq_some_iff.1 HD.out).1 (fun e => by
   have h1 := HH.out.cells (i := 2) (by rfl) (by exact e.symm) _ HD.out
   cases h1)).trans HD.out
  refine ⟨by simp, .inl ⟨_, _, rfl, run_takeDeferred hKs, ?_⟩⟩
  have hfin := HS.out.kept (grownBy_putObj' Ws D (.deferred none)) (fun k hk => by injection hk with hk; subst hk; exact ⟨Nat.le_trans HWS.out hD, _, hKs, rfl⟩)
  have hdf : Dig W _ := ((HH.out.growDig (i := 2) (by rfl) hgr).trans (Dig.kept (grownBy_putObj' Ws D (.deferred none)) (fun k hk => by injection hk with hk; subst hk; exact ⟨_, hKs, rfl⟩)))
  refine ⟨_, results_tmp rfl _ _ _, A, n, c, Stb.stab ltK es, rfl, by rw [Stb.stab_len]; exact HNL.out, hfin.row (i := 2) (by rfl), fun e he => (HOK.out e ((Stb.mem_stab).1 he)).dig hdf, ?_, hfin.ext⟩
  rw [HMV.out, stab_map MkE.vl (lt := ltK) (lt' := ltM) (fun _ _ => rfl), HVL.out, HXS.out]
  rfl
end Go.Proofs.YtmgibncehlpfkaaGreat

namespace Go.Proofs.YtmgibncehlpfkaaGreat
open Go.RowKit
attribute [local go_sem ↓] Go.wp_at_zero Go.wp_at_succ run_max_ii run_min_ii
def MkE.cx (e : MkE) : List Value := [.bool e.a.n, .slice e.a.p e.a.l e.a.c, .bool e.a.m, .slice e.a.p2 e.a.l2 e.a.c2]
def MkE.cu (e : MkE) : List Value := [.int .i64 e.up]
theorem MkE.cx_len (e : MkE) : e.cx.length = 4 := rfl
theorem MkE.cu_len (e : MkE) : e.cu.length = 1 := rfl
theorem marksV_len (y : Rat) (rs : List Ring) : (marksV y rs).length ≤ 4096 := by
  unfold marksV
  rw [Stb.stab_len]
  unfold crossesV
  refine Nat.le_trans (List.length_filterMap_le _ _) (Nat.le_trans (edgesV_len _) ?_)
  split
  · rename_i h; exact okR_tot h
  decide
def CrossRet (L : Nat) (rs : List Ring) (y : Rat) (w : World) (e : Ending) (w' : World) : Prop :=
  ∃ (A1 : Option Addr) (c1 : Nat) (A2 : Option Addr) (c2 : Nat) (n : Nat) (es : List MkE), e = .returned (.tuple #[.slice A1 n c1, .slice A2 n c2]) ∧ n = List.length es ∧ RowN w' w.heap.size 27 4 (.slice A1 n c1) n (List.flatMap MkE.cx es) ∧ RowN w' w.heap.size 3 1 (.slice A2 n c2) n (List.flatMap MkE.cu es) ∧
      (∀ e, e ∈ es → e.Ok (L + 8) w') ∧ es.map MkE.vl = marksV y rs ∧ Ext w w'
theorem take_snoc {α : Type} {l : List α} {k : Nat} {e : α} (h : l[k]? = some e) : l.take (k + 1) = l.take k ++ [e] := by rw [List.take_add_one, h]; rfl
set_option maxRecDepth 20000 in
set_option maxHeartbeats 4000000 in
theorem crossings_any (L : Nat) (u : Value) (rs : List Ring) (ry : RV) (y : Rat) (w : World) (hu : RingsV w u rs) (hy : ry.In L w y) (h1L : 1 ≤ L) (hL : L ≤ 2000) (hn : rs.length ≤ 100000) (hr : ∀ r, r ∈ rs → r.length ≤ 100000) :
  Calls Tryz.prog 15 #[u, .agg #[.bool ry.n, .slice ry.p ry.l ry.c, .bool ry.m, .slice ry.p2 ry.l2 ry.c2]] w (CrossRet L rs y w) := by
 have HU := zH hu
 have RY := zH hy
 clear hu hy
 go_enter Tryz.func15, Tryz.ntmps15
 have H0 := zH (Hp.start w)
 go_upto_region 0 with fail
 refine wp_region_lit ?_
 refine mv_alloc (T := 27) (zs := [.bool ry.n, .slice ry.p ry.l ry.c, .bool ry.m, .slice ry.p2 ry.l2 ry.c2]) (by rfl) (by go_simp) H0.out (by simp [NoUL]) ?_
 intro X1 w2 hh hx hge
 have H3 := zH (show Hp w w2 [.blk X1 27 (rc ry)] from hh)
 clear hh hx hge
 try simp only [Act.put, zA, zB, zC]
 refine qV (.slice none 0 0) ?_
 refine zq (.slice none 0 0) ?_
 go_upto_region 3 with fail
 refine wp_region_lit ?_
 refine qV (u) ?_
 refine zd X1 (0) (rc ry) (H3.out.range (i := 0) (by rfl) 0 4) Tryz.underlying27 ?_
 refine zc (marks_any L u rs ry y _ (HU.out.ext H3.out.ext) (RY.out.dig H3.out.dig0) h1L (by omega) hn hr) ?_
 rintro e w9 ⟨Am, nm_, cm, ms, rfl, rfl, hrow_, hok_, hval_, hx⟩
 have HVAL := zH hval_
 have HOK := zH hok_
 obtain ⟨Am2_, cm2_, hv_, hA_⟩ := RowN.form hrow_
 injection hv_ with e1_ _ _
 subst e1_
 have HA := zH hA_
 clear hval_ hok_ hA_
 have H10 := zH (show Hp w w9 [.blk X1 27 (rc ry), ro 54 5 Am ms.length cm MkE.cells ms] from H3.out.addRow hx hrow_)
 clear hrow_
 have hms4 : ms.length ≤ 4096 := by have h := marksV_len y rs; rw [← HVAL.out, List.length_map] at h; exact h
 clear hx
 refine zn ?_
 refine qV (.int .i64 ((ms.length : Nat) : Int)) ?_
 refine zq (.int .i64 0) ?_
 have H14 := zH (show Hp w w9 [.blk X1 27 (rc ry), ro 54 5 Am ms.length cm MkE.cells ms, ro 27 4 none 0 0 MkE.cx ([])] from H10.out.addNil 27 4)
 have H15 := zH (show Hp w w9 [.blk X1 27 (rc ry), ro 54 5 Am ms.length cm MkE.cells ms, ro 27 4 none 0 0 MkE.cx ([]), ro 3 1 none 0 0 MkE.cu ([])] from H14.out.addNil 3 1)
 go_wp2_with fail
 go_loopg [6, 7, 14] (ms.length) (fun cq v16 v17 v18 wr => ∃ (k : Nat) (es : List MkE) (A1 : Option Addr) (c1 : Nat) (A2 : Option Addr) (c2 : Nat), cq = ms.length - k ∧ v16 = .slice A1 k c1 ∧ v17 = .slice A2 k c2 ∧ v18 = .int .i64 (k : Int) ∧ (k ≤ ms.length) ∧ (es = ms.take k) ∧ Hp w wr [.blk X1 27 [.bool ry.n, .slice ry.p ry.l ry.c, .bool ry.m, .slice ry.p2 ry.l2 ry.c2], .row 54 5 (.slice Am ms.length cm) (ms.length) (List.flatMap MkE.cells ms), .row 27 4 (.slice A1 k c1) (k) (List.flatMap MkE.cx es), .row 3 1 (.slice A2 k c2) (k) (List.flatMap MkE.cu es)] ∧ Dig w9 wr)
 case atStart => exact ⟨0, [], none, 0, none, 0, rfl, rfl, rfl, rfl, Nat.zero_le _, rfl, H15.out, Dig.refl _⟩
 case round =>
  obtain ⟨k, es, A1, c1, A2, c2, rfl, rfl, rfl, rfl, q_HK, q_HES, hh_, hd_⟩ := hrel
  generalize wr = w19 at *
  have HK := zH q_HK
  clear q_HK
  have HES := zH q_HES
  clear q_HES
  have H21 := zH hh_
  have D21 := zH hd_
  clear hh_ hd_ H15
  by_cases c22 : k < ms.length
  ·have HLT := zH c22
   clear c22
   have hlt := HLT.out
   have hlt2 : (k : Int) < (ms.length : Int) := by omega
   obtain ⟨gm, rfl⟩ := HA.out (by omega)
   obtain ⟨e, he_⟩ : ∃ e, ms[k]? = some e := ⟨_, List.getElem?_eq_getElem hlt⟩
   have HEe := zH he_
   have HOe := zH (HOK.out e (List.mem_of_getElem? he_))
   have RAe := zH HOe.out.1
   have BAe := zH HOe.out.2.1
   clear he_
   have hk4 : k ≤ 4096 := by omega
   go_upto_region 5 with fail
   refine wp_region_lit ?_
   refine zp (w' := w19) (.pointer (some ⟨gm, k * 5, none⟩)) (by exact ezi (k := k) Tryz.underlying51 (l := HLT.out) (f := (Nat.zero_add _).symm)) ?_
   refine zd gm (k * 5) [.bool e.a.n, .slice e.a.p e.a.l e.a.c, .bool e.a.m, .slice e.a.p2 e.a.l2 e.a.c2, .int .i64 e.up] (H21.out.elem (f := MkE.cells) (i := 1) (by rfl) MkE.len HEe.out) Tryz.underlying54 ?_
   refine mv_alloc (T := 54) (zs := [.bool false, .slice none 0 0, .bool false, .slice none 0 0, .int .i64 0]) (by rfl) (by go_simp) H21.out (by simp [NoUL]) ?_
   intro X24 w25 hh hx hge
   have H26 := zH (show Hp w w25 [.blk X1 27 (rc ry), ro 54 5 (some ⟨gm, 0, none⟩) ms.length cm MkE.cells ms, ro 27 4 A1 k c1 MkE.cx es, ro 3 1 A2 k c2 MkE.cu es, .blk X24 54 [.bool false, .slice none 0 0, .bool false, .slice none 0 0, .int .i64 0]] from hh)
   have D26 := zH (Dig.of_ext hx)
   clear hh hx hge
   try simp only [Act.put, zA, zB, zC]
   refine mv_st (by rfl) _ _ _ (by rfl) H26.out (ix := 4) (by rfl) 0 [.bool e.a.n, .slice e.a.p e.a.l e.a.c, .bool e.a.m, .slice e.a.p2 e.a.l2 e.a.c2, .int .i64 e.up] (by rfl) (by rfl) (by simp) (by kernel_rfl) (by simp [Value.oneCell']) (by simp [NoUL]) ?_
   intro w29 hh hd ho
   have H30 := zH (show Hp w w29 [.blk X1 27 (rc ry), ro 54 5 (some ⟨gm, 0, none⟩) ms.length cm MkE.cells ms, ro 27 4 A1 k c1 MkE.cx es, ro 3 1 A2 k c2 MkE.cu es, .blk X24 54 [.bool e.a.n, .slice e.a.p e.a.l e.a.c, .bool e.a.m, .slice e.a.p2 e.a.l2 e.a.c2, .int .i64 e.up]] from hh)
   have D30 := zH (hd)
   clear hh hd ho
   (try simp only [Act.put])
   go_upto_region 6 with fail
   refine wp_region_held_drew (S := fun x => Fr (fun kz => Value.ownBlock (.slice A1 k c1) = some kz ∨ Value.ownBlock (.slice A2 k c2) = some kz) w29 x) (by kernel_rfl) (Fr.of_ext zb) (fun _ => ?_)
   have H32 := zH (H30.out.step (Ext.refl w29).drew)
   have D32 := zH (Dig.of_ext (w := w29) zb)
   refine zx 0 (bs 12 1) (.slice A1 k c1) (Fr.of_ext zb) ?_
   refine mX 1 (bs 12 3) (.pointer (some ⟨X24, 0, none⟩)) (Fr.of_ext zb) ?_
   refine zr 2 (bs 12 7) X24 (0) [.bool e.a.n, .slice e.a.p e.a.l e.a.c, .bool e.a.m, .slice e.a.p2 e.a.l2 e.a.c2] (fun x hx => Fr.range hx (show World.rangeAt w29 X24 (0) [.bool e.a.n, .slice e.a.p e.a.l e.a.c, .bool e.a.m, .slice e.a.p2 e.a.l2 e.a.c2] from (H30.out.range (i := 4) (by rfl) 0 4)) (fun hk => hk.elim (H30.out.offRow (i := 4) (j := 2) (by rfl) (by rfl) (by decide) (by rfl)) (H30.out.offRow (i := 4) (j := 3) (by rfl) (by rfl) (by decide) (by rfl)))) Tryz.underlying27 (Fr.of_ext zb) ?_
   refine zx 5 (bs 12 39) (.slice A2 k c2) (Fr.of_ext zb) ?_
   refine zx 6 (bs 12 103) (.pointer (some ⟨X24, 4, none⟩)) (Fr.of_ext zb) ?_
   refine md_ld1 (g := X24) (o := 4) (v := .int .i64 e.up) (i := 7) (listed' := (bs 12 231)) (by rfl) (by kernel_rfl) (by kernel_rfl) (by kernel_rfl) (by intro _ _ _ h; exact h) (by rfl) (fun x hx => Fr.cell hx (show World.cell? w29 ⟨X24, 4, none⟩ = some (.int .i64 e.up) from cell_of_range (H30.out.range (i := 4) (by rfl) 4 1)) (fun hk => hk.elim (H30.out.offRow (i := 4) (j := 2) (by rfl) (by rfl) (by decide) (by rfl)) (H30.out.offRow (i := 4) (j := 3) (by rfl) (by rfl) (by decide) (by rfl)))) (by intro x hq; go_simp <;> with_reducible rfl) (Fr.of_ext zb) (by kernel_rfl) ?_
   try simp only [Act.put, zA, zB, zC]
   refine at_or (i := 3) (j := 8) (by rfl) (by rfl) (by kernel_rfl) ?_ ?_
   ·refine at_lit (T := 27) (zs := [.bool e.a.n, .slice e.a.p e.a.l e.a.c, .bool e.a.m, .slice e.a.p2 e.a.l2 e.a.c2]) (n := 1) (listed' := (bs 12 239)) (by rfl) (by go_simp) (by kernel_rfl) H32.out (by simp [NoUL]) ?_
    intro X38 w39 hh hx hge
    have H40 := zH (show Hp w w39 [.blk X1 27 (rc ry), ro 54 5 (some ⟨gm, 0, none⟩) ms.length cm MkE.cells ms, ro 27 4 A1 k c1 MkE.cx es, ro 3 1 A2 k c2 MkE.cu es, .blk X24 54 [.bool e.a.n, .slice e.a.p e.a.l e.a.c, .bool e.a.m, .slice e.a.p2 e.a.l2 e.a.c2, .int .i64 e.up], .blk X38 27 (rc e.a)] from hh)
    have D40 := zH (show Dig w29.drew w39 from Dig.of_ext hx)
    have S42 := zH (show Fr (fun kz => Value.ownBlock (.slice A1 k c1) = some kz ∨ Value.ownBlock (.slice A2 k c2) = some kz) w29 w39 from (Fr.of_ext zb).trans (Fr.of_ext hx))
    clear hh hx hge
    refine ⟨S42.out, ?_⟩
    try simp only [Act.put, zA, zB, zC]
    refine at_or (i := 4) (j := 8) (by rfl) (by rfl) (by kernel_rfl) ?_ ?_
    ·refine at_app (listed' := (bs 12 255)) (by rfl) _ _ _ (by rfl) elRat (by rfl) H40.out (ix := 2) (jx := 5) (by rfl) 1 1 [.bool e.a.n, .slice e.a.p e.a.l e.a.c, .bool e.a.m, .slice e.a.p2 e.a.l2 e.a.c2] (by rfl) (by rfl) rfl (by simp [Value.oneCell']) (by simp [NoUL]) (by decide) (by unfold maxLen; exact (by omega)) (by omega) (by kernel_rfl) ?_
     intro g44 cp45 w43 hf hh hd hg
     have Fg44 := zH hf
     clear hf
     rw [show List.flatMap MkE.cx es ++ [.bool e.a.n, .slice e.a.p e.a.l e.a.c, .bool e.a.m, .slice e.a.p2 e.a.l2 e.a.c2] = _ from flat_snoc MkE.cx _ e] at hh
     have H46 := zH (show Hp w w43 [.blk X1 27 (rc ry), ro 54 5 (some ⟨gm, 0, none⟩) ms.length cm MkE.cells ms, ro 27 4 (some ⟨g44, 0, none⟩) (k + 1) cp45 MkE.cx (es ++ [e]), ro 3 1 A2 k c2 MkE.cu es, .blk X24 54 [.bool e.a.n, .slice e.a.p e.a.l e.a.c, .bool e.a.m, .slice e.a.p2 e.a.l2 e.a.c2, .int .i64 e.up], .blk X38 27 (rc e.a)] from hh)
     have D46 := zH (hd)
     have S48 := zH (show Fr (fun kz => Value.ownBlock (.slice A1 k c1) = some kz ∨ Value.ownBlock (.slice A2 k c2) = some kz) w29 w43 from Fr.trans_new S42.out hg (fun j hj => .inl (.inl hj)))
     clear hh hd hg
     refine ⟨S48.out, ?_⟩
     try simp only [Act.put, zA, zB, zC]
     refine at_one (i := 8) (by rfl) (by kernel_rfl) ?_
     refine at_lit (T := 3) (zs := [.int .i64 e.up]) (n := 1) (listed' := (bs 12 511)) (by rfl) (by go_simp) (by kernel_rfl) H46.out (by simp [NoUL]) ?_
     intro X49 w50 hh hx hge
     have H51 := zH (show Hp w w50 [.blk X1 27 (rc ry), ro 54 5 (some ⟨gm, 0, none⟩) ms.length cm MkE.cells ms, ro 27 4 (some ⟨g44, 0, none⟩) (k + 1) cp45 MkE.cx (es ++ [e]), ro 3 1 A2 k c2 MkE.cu es, .blk X24 54 [.bool e.a.n, .slice e.a.p e.a.l e.a.c, .bool e.a.m, .slice e.a.p2 e.a.l2 e.a.c2, .int .i64 e.up], .blk X38 27 (rc e.a), .blk X49 3 [.int .i64 e.up]] from hh)
     have D51 := zH (Dig.of_ext hx)
     have S53 := zH (show Fr (fun kz => Value.ownBlock (.slice A1 k c1) = some kz ∨ Value.ownBlock (.slice A2 k c2) = some kz) w29 w50 from S48.out.trans (Fr.of_ext hx))
     clear hh hx hge
     refine ⟨S53.out, ?_⟩
     try simp only [Act.put, zA, zB, zC]
     refine at_one (i := 9) (by rfl) (by kernel_rfl) ?_
     refine at_app (listed' := (bs 12 1023)) (by rfl) _ _ _ (by rfl) elInt (by rfl) H51.out (ix := 3) (jx := 6) (by rfl) 1 1 [.int .i64 e.up] (by rfl) (by rfl) rfl (by simp [Value.oneCell']) (by simp [NoUL]) (by decide) (by unfold maxLen; exact (by omega)) (by omega) (by kernel_rfl) ?_
     intro g55 cp56 w54 hf hh hd hg
     have Fg55 := zH hf
     clear hf
     rw [show List.flatMap MkE.cu es ++ [.int .i64 e.up] = _ from flat_snoc MkE.cu _ e] at hh
     have H57 := zH (show Hp w w54 [.blk X1 27 (rc ry), ro 54 5 (some ⟨gm, 0, none⟩) ms.length cm MkE.cells ms, ro 27 4 (some ⟨g44, 0, none⟩) (k + 1) cp45 MkE.cx (es ++ [e]), ro 3 1 (some ⟨g55, 0, none⟩) (k + 1) cp56 MkE.cu (es ++ [e]), .blk X24 54 [.bool e.a.n, .slice e.a.p e.a.l e.a.c, .bool e.a.m, .slice e.a.p2 e.a.l2 e.a.c2, .int .i64 e.up], .blk X38 27 (rc e.a), .blk X49 3 [.int .i64 e.up]] from hh)
     have D57 := zH (hd)
     have S59 := zH (show Fr (fun kz => Value.ownBlock (.slice A1 k c1) = some kz ∨ Value.ownBlock (.slice A2 k c2) = some kz) w29 w54 from Fr.trans_new S53.out hg (fun j hj => .inl (.inr hj)))
     clear hh hd hg
     refine ⟨S59.out, ?_⟩
     try simp only [Act.put, zA, zB, zC]
     refine zx 10 (bs 12 2047) (.slice (some ⟨g44, 0, none⟩) (k + 1) cp45) S59.out ?_
     refine zx 11 (bs 12 4095) (.slice (some ⟨g55, 0, none⟩) (k + 1) cp56) S59.out ?_
     refine wpAnyH_done (by kernel_rfl) ?_ _
     have DD62 := zH ((((((((D21.out.trans D26.out).trans D30.out).trans D32.out).trans D40.out).trans D46.out).trans D51.out).trans D57.out))
     go_wp2_with fail
     go_roundg (ms.length - (k + 1))
     case measure => exact (by have ob1 := HLT.out; omega)
     case rel => exact ⟨k + 1, es ++ [e], some ⟨g44, 0, none⟩, cp45, some ⟨g55, 0, none⟩, cp56, rfl, rfl, rfl, (by go_num), HLT.out, (by rw [HES.out]; exact (take_snoc HEe.out).symm), H57.out.take 4, DD62.out⟩
    refine at_lit (T := 3) (zs := [.int .i64 e.up]) (n := 1) (listed' := (bs 12 495)) (by rfl) (by go_simp) (by kernel_rfl) H40.out (by simp [NoUL]) ?_
    intro X63 w64 hh hx hge
    have H65 := zH (show Hp w w64 [.blk X1 27 (rc ry), ro 54 5 (some ⟨gm, 0, none⟩) ms.length cm MkE.cells ms, ro 27 4 A1 k c1 MkE.cx es, ro 3 1 A2 k c2 MkE.cu es, .blk X24 54 [.bool e.a.n, .slice e.a.p e.a.l e.a.c, .bool e.a.m, .slice e.a.p2 e.a.l2 e.a.c2, .int .i64 e.up], .blk X38 27 (rc e.a), .blk X63 3 [.int .i64 e.up]] from hh)
    have D65 := zH (Dig.of_ext hx)
    have S67 := zH (show Fr (fun kz => Value.ownBlock (.slice A1 k c1) = some kz ∨ Value.ownBlock (.slice A2 k c2) = some kz) w29 w64 from S42.out.trans (Fr.of_ext hx))
    clear hh hx hge
    refine ⟨S67.out, ?_⟩
    try simp only [Act.put, zA, zB, zC]
    refine at_one (i := 4) (by rfl) (by kernel_rfl) ?_
    refine at_app (listed' := (bs 12 511)) (by rfl) _ _ _ (by rfl) elRat (by rfl) H65.out (ix := 2) (jx := 5) (by rfl) 1 1 [.bool e.a.n, .slice e.a.p e.a.l e.a.c, .bool e.a.m, .slice e.a.p2 e.a.l2 e.a.c2] (by rfl) (by rfl) rfl (by simp [Value.oneCell']) (by simp [NoUL]) (by decide) (by unfold maxLen; exact (by omega)) (by omega) (by kernel_rfl) ?_
    intro g69 cp70 w68 hf hh hd hg
    have Fg69 := zH hf
    clear hf
    rw [show List.flatMap MkE.cx es ++ [.bool e.a.n, .slice e.a.p e.a.l e.a.c, .bool e.a.m, .slice e.a.p2 e.a.l2 e.a.c2] = _ from flat_snoc MkE.cx _ e] at hh
    have H71 := zH (show Hp w w68 [.blk X1 27 (rc ry), ro 54 5 (some ⟨gm, 0, none⟩) ms.length cm MkE.cells ms, ro 27 4 (some ⟨g69, 0, none⟩) (k + 1) cp70 MkE.cx (es ++ [e]), ro 3 1 A2 k c2 MkE.cu es, .blk X24 54 [.bool e.a.n, .slice e.a.p e.a.l e.a.c, .bool e.a.m, .slice e.a.p2 e.a.l2 e.a.c2, .int .i64 e.up], .blk X38 27 (rc e.a), .blk X63 3 [.int .i64 e.up]] from hh)
    have D71 := zH (hd)
    have S73 := zH (show Fr (fun kz => Value.ownBlock (.slice A1 k c1) = some kz ∨ Value.ownBlock (.slice A2 k c2) = some kz) w29 w68 from Fr.trans_new S67.out hg (fun j hj => .inl (.inl hj)))
    clear hh hd hg
    refine ⟨S73.out, ?_⟩
    try simp only [Act.put, zA, zB, zC]
    refine at_one (i := 9) (by rfl) (by kernel_rfl) ?_
    refine at_app (listed' := (bs 12 1023)) (by rfl) _ _ _ (by rfl) elInt (by rfl) H71.out (ix := 3) (jx := 6) (by rfl) 1 1 [.int .i64 e.up] (by rfl) (by rfl) rfl (by simp [Value.oneCell']) (by simp [NoUL]) (by decide) (by unfold maxLen; exact (by omega)) (by omega) (by kernel_rfl) ?_
    intro g75 cp76 w74 hf hh hd hg
    have Fg75 := zH hf
    clear hf
    rw [show List.flatMap MkE.cu es ++ [.int .i64 e.up] = _ from flat_snoc MkE.cu _ e] at hh
    have H77 := zH (show Hp w w74 [.blk X1 27 (rc ry), ro 54 5 (some ⟨gm, 0, none⟩) ms.length cm MkE.cells ms, ro 27 4 (some ⟨g69, 0, none⟩) (k + 1) cp70 MkE.cx (es ++ [e]), ro 3 1 (some ⟨g75, 0, none⟩) (k + 1) cp76 MkE.cu (es ++ [e]), .blk X24 54 [.bool e.a.n, .slice e.a.p e.a.l e.a.c, .bool e.a.m, .slice e.a.p2 e.a.l2 e.a.c2, .int .i64 e.up], .blk X38 27 (rc e.a), .blk X63 3 [.int .i64 e.up]] from hh)
    have D77 := zH (hd)
    have S79 := zH (show Fr (fun kz => Value.ownBlock (.slice A1 k c1) = some kz ∨ Value.ownBlock (.slice A2 k c2) = some kz) w29 w74 from Fr.trans_new S73.out hg (fun j hj => .inl (.inr hj)))
    clear hh hd hg
    refine ⟨S79.out, ?_⟩
    try simp only [Act.put, zA, zB, zC]
    refine zx 10 (bs 12 2047) (.slice (some ⟨g69, 0, none⟩) (k + 1) cp70) S79.out ?_
    refine zx 11 (bs 12 4095) (.slice (some ⟨g75, 0, none⟩) (k + 1) cp76) S79.out ?_
    refine wpAnyH_done (by kernel_rfl) ?_ _
    have DD82 := zH ((((((((D21.out.trans D26.out).trans D30.out).trans D32.out).trans D40.out).trans D65.out).trans D71.out).trans D77.out))
    go_wp2_with fail
    go_roundg (ms.length - (k + 1))
    case measure => exact (by have ob1 := HLT.out; omega)
    case rel => exact ⟨k + 1, es ++ [e], some ⟨g69, 0, none⟩, cp70, some ⟨g75, 0, none⟩, cp76, rfl, rfl, rfl, (by go_num), HLT.out, (by rw [HES.out]; exact (take_snoc HEe.out).symm), H77.out.take 4, DD82.out⟩
   refine at_lit (T := 3) (zs := [.int .i64 e.up]) (n := 1) (listed' := (bs 12 487)) (by rfl) (by go_simp) (by kernel_rfl) H32.out (by simp [NoUL]) ?_
   intro X83 w84 hh hx hge
   have H85 := zH (show Hp w w84 [.blk X1 27 (rc ry), ro 54 5 (some ⟨gm, 0, none⟩) ms.length cm MkE.cells ms, ro 27 4 A1 k c1 MkE.cx es, ro 3 1 A2 k c2 MkE.cu es, .blk X24 54 [.bool e.a.n, .slice e.a.p e.a.l e.a.c, .bool e.a.m, .slice e.a.p2 e.a.l2 e.a.c2, .int .i64 e.up], .blk X83 3 [.int .i64 e.up]] from hh)
   have D85 := zH (show Dig w29.drew w84 from Dig.of_ext hx)
   have S87 := zH (show Fr (fun kz => Value.ownBlock (.slice A1 k c1) = some kz ∨ Value.ownBlock (.slice A2 k c2) = some kz) w29 w84 from (Fr.of_ext zb).trans (Fr.of_ext hx))
   clear hh hx hge
   refine ⟨S87.out, ?_⟩
   try simp only [Act.put, zA, zB, zC]
   refine at_one (i := 3) (by rfl) (by kernel_rfl) ?_
   refine at_lit (T := 27) (zs := [.bool e.a.n, .slice e.a.p e.a.l e.a.c, .bool e.a.m, .slice e.a.p2 e.a.l2 e.a.c2]) (n := 1) (listed' := (bs 12 495)) (by rfl) (by go_simp) (by kernel_rfl) H85.out (by simp [NoUL]) ?_
   intro X88 w89 hh hx hge
   have H90 := zH (show Hp w w89 [.blk X1 27 (rc ry), ro 54 5 (some ⟨gm, 0, none⟩) ms.length cm MkE.cells ms, ro 27 4 A1 k c1 MkE.cx es, ro 3 1 A2 k c2 MkE.cu es, .blk X24 54 [.bool e.a.n, .slice e.a.p e.a.l e.a.c, .bool e.a.m, .slice e.a.p2 e.a.l2 e.a.c2, .int .i64 e.up], .blk X83 3 [.int .i64 e.up], .blk X88 27 (rc e.a)] from hh)
   have D90 := zH (Dig.of_ext hx)
   have S92 := zH (show Fr (fun kz => Value.ownBlock (.slice A1 k c1) = some kz ∨ Value.ownBlock (.slice A2 k c2) = some kz) w29 w89 from S87.out.trans (Fr.of_ext hx))
   clear hh hx hge
   refine ⟨S92.out, ?_⟩
   try simp only [Act.put, zA, zB, zC]
   refine at_one (i := 4) (by rfl) (by kernel_rfl) ?_
   refine at_app (listed' := (bs 12 511)) (by rfl) _ _ _ (by rfl) elRat (by rfl) H90.out (ix := 2) (jx := 6) (by rfl) 1 1 [.bool e.a.n, .slice e.a.p e.a.l e.a.c, .bool e.a.m, .slice e.a.p2 e.a.l2 e.a.c2] (by rfl) (by rfl) rfl (by simp [Value.oneCell']) (by simp [NoUL]) (by decide) (by unfold maxLen; exact (by omega)) (by omega) (by kernel_rfl) ?_
   intro g94 cp95 w93 hf hh hd hg
   have Fg94 := zH hf
   clear hf
   rw [show List.flatMap MkE.cx es ++ [.bool e.a.n, .slice e.a.p e.a.l e.a.c, .bool e.a.m, .slice e.a.p2 e.a.l2 e.a.c2] = _ from flat_snoc MkE.cx _ e] at hh
   have H96 := zH (show Hp w w93 [.blk X1 27 (rc ry), ro 54 5 (some ⟨gm, 0, none⟩) ms.length cm MkE.cells ms, ro 27 4 (some ⟨g94, 0, none⟩) (k + 1) cp95 MkE.cx (es ++ [e]), ro 3 1 A2 k c2 MkE.cu es, .blk X24 54 [.bool e.a.n, .slice e.a.p e.a.l e.a.c, .bool e.a.m, .slice e.a.p2 e.a.l2 e.a.c2, .int .i64 e.up], .blk X83 3 [.int .i64 e.up], .blk X88 27 (rc e.a)] from hh)
   have D96 := zH (hd)
   have S98 := zH (show Fr (fun kz => Value.ownBlock (.slice A1 k c1) = some kz ∨ Value.ownBlock (.slice A2 k c2) = some kz) w29 w93 from Fr.trans_new S92.out hg (fun j hj => .inl (.inl hj)))
   clear hh hd hg
   refine ⟨S98.out, ?_⟩
   try simp only [Act.put, zA, zB, zC]
   refine at_one (i := 9) (by rfl) (by kernel_rfl) ?_
   refine at_app (listed' := (bs 12 1023)) (by rfl) _ _ _ (by rfl) elInt (by rfl) H96.out (ix := 3) (jx := 5) (by rfl) 1 1 [.int .i64 e.up] (by rfl) (by rfl) rfl (by simp [Value.oneCell']) (by simp [NoUL]) (by decide) (by unfold maxLen; exact (by omega)) (by omega) (by kernel_rfl) ?_
   intro g100 cp101 w99 hf hh hd hg
   have Fg100 := zH hf
   clear hf
   rw [show List.flatMap MkE.cu es ++ [.int .i64 e.up] = _ from flat_snoc MkE.cu _ e] at hh
   have H102 := zH (show Hp w w99 [.blk X1 27 (rc ry), ro 54 5 (some ⟨gm, 0, none⟩) ms.length cm MkE.cells ms, ro 27 4 (some ⟨g94, 0, none⟩) (k + 1) cp95 MkE.cx (es ++ [e]), ro 3 1 (some ⟨g100, 0, none⟩) (k + 1) cp101 MkE.cu (es ++ [e]), .blk X24 54 [.bool e.a.n, .slice e.a.p e.a.l e.a.c, .bool e.a.m, .slice e.a.p2 e.a.l2 e.a.c2, .int .i64 e.up], .blk X83 3 [.int .i64 e.up], .blk X88 27 (rc e.a)] from hh)
   have D102 := zH (hd)
   have S104 := zH (show Fr (fun kz => Value.ownBlock (.slice A1 k c1) = some kz ∨ Value.ownBlock (.slice A2 k c2) = some kz) w29 w99 from Fr.trans_new S98.out hg (fun j hj => .inl (.inr hj)))
   clear hh hd hg
   refine ⟨S104.out, ?_⟩
   try simp only [Act.put, zA, zB, zC]
   refine zx 10 (bs 12 2047) (.slice (some ⟨g94, 0, none⟩) (k + 1) cp95) S104.out ?_
   refine zx 11 (bs 12 4095) (.slice (some ⟨g100, 0, none⟩) (k + 1) cp101) S104.out ?_
   refine wpAnyH_done (by kernel_rfl) ?_ _
   have DD107 := zH ((((((((D21.out.trans D26.out).trans D30.out).trans D32.out).trans D85.out).trans D90.out).trans D96.out).trans D102.out))
   go_wp2_with fail
   go_roundg (ms.length - (k + 1))
   case measure => exact (by have ob1 := HLT.out; omega)
   case rel => exact ⟨k + 1, es ++ [e], some ⟨g94, 0, none⟩, cp95, some ⟨g100, 0, none⟩, cp101, rfl, rfl, rfl, (by go_num), HLT.out, (by rw [HES.out]; exact (take_snoc HEe.out).symm), H102.out.take 4, DD107.out⟩
  have HLT := zH c22
  clear c22
  obtain rfl : k = ms.length := by have := HK.out; have := HLT.out; omega
  have hge : ¬ (ms.length : Int) < (ms.length : Int) := by omega
  have hes : es = ms := by rw [HES.out, List.take_of_length_le (Nat.le_refl _)]
  have HES2 := zH hes
  clear hes
  go_wp2_with fail
  go_ret2
  unfold CrossRet
  exact ⟨A1, c1, A2, c2, ms.length, ms, rfl, rfl, by have h := H21.out.row (i := 2) (by rfl); rwa [HES2.out] at h, by have h := H21.out.row (i := 3) (by rfl); rwa [HES2.out] at h, fun e he => (HOK.out e he).dig D21.out, HVAL.out, H21.out.ext⟩
end Go.Proofs.YtmgibncehlpfkaaGreat

namespace Go.Proofs.YtmgibncehlpfkaaGreat
open Go.RowKit

def psum (ms : List QI) (k : Nat) : Int := ((ms.take k).map fun a => a.2).sum
theorem psum_succ {ms : List QI} {k : Nat} {a : QI} (h : ms[k]? = some a) : psum ms (k + 1) = psum ms k + a.2 := by
  unfold psum
  rw [take_snoc h, List.map_append, List.sum_append]
  simp
theorem runs_get : ∀ (ms : List QI) (s : Int) (k : Nat) (a b : QI), ms[k]? = some a → ms[k + 1]? = some b → (runs s ms)[k]? = some ((a.1, b.1), s + psum ms (k + 1))
 | [], s, k, a, b, h, _ => by simp at h
 | [x], s, 0, a, b, _, h => by simp at h
 | [x], s, k + 1, a, b, h, _ => by simp at h
 | x :: y :: t, s, 0, a, b, h1, h2 => by
  simp at h1 h2
  subst h1 h2
  simp [runs, psum]
 | x :: y :: t, s, k + 1, a, b, h1, h2 => by
  have ih := runs_get (y :: t) (s + x.2) k a b (by simpa using h1) (by simpa using h2)
  show (runs (s + x.2) (y :: t))[k]? = _
  rw [ih]
  have e : psum (x :: y :: t) (k + 1 + 1) = x.2 + psum (y :: t) (k + 1) := by unfold psum; rw [List.take_succ_cons]; simp
  rw [e]
  congr 2
  omega
theorem runs_len : ∀ (ms : List QI) (s : Int), (runs s ms).length = ms.length - 1
  | [], s => rfl
  | [x], s => rfl
  | x :: y :: t, s => by
    have := runs_len (y :: t) (s + x.2)
    simp [runs, this]
theorem sel_take {rule : Int} {l : List (QQ × Int)} {k : Nat} {r : QQ × Int} (h : l[k]? = some r) : sel rule (l.take (k + 1)) = sel rule (l.take k) ++ (if fillsV r.2 rule = true then [r.1] else []) := by rw [take_snoc h, sel_app, sel_one]
theorem SpE.Ok.dig {L : Nat} {w w' : World} {e : SpE} (h : e.Ok L w) (d : Dig w w') : e.Ok L w' := ⟨h.1.dig d, h.2.1.dig d, h.2.2⟩
theorem RowN.base {w : World} {b b' : Nat} {t : TypeId} {size : Nat} {v : Value} {n : Nat} {xs : List Value} (h : RowN w b t size v n xs) (hb : b' ≤ b) : RowN w b' t size v n xs := by
  obtain ⟨h1, h2 | ⟨g, cap, rest, a, c, d⟩⟩ := h
  · exact ⟨h1, .inl h2⟩
  exact ⟨h1, .inr ⟨g, cap, rest, a, Nat.le_trans hb c, d⟩⟩
theorem SpR.base {L : Nat} {w : World} {b b' : Nat} {v : Value} {es : List SpE} (h : SpR L w b v es) (hb : b' ≤ b) : SpR L w b' v es := ⟨h.1.base hb, h.2⟩
theorem SpR.dig {L : Nat} {w w' : World} {b : Nat} {v : Value} {es : List SpE} (h : ∀ e, e ∈ es → e.Ok L w) (d : Dig w w') (hr : RowN w' b 39 8 v es.length (spCells es)) : SpR L w' b v es := ⟨hr, fun e he => (h e he).dig d⟩
end Go.Proofs.YtmgibncehlpfkaaGreat

namespace Go.Proofs.YtmgibncehlpfkaaGreat
open Go.RowKit Go.Maps
attribute [local go_sem ↓] Go.wp_at_zero Go.wp_at_succ

theorem and_m1 {n : Int} (h : -9223372036854775808 ≤ n ∧ n ≤ 9223372036854775807) : bits .and .i64 n (-1) = n := by
  show IntKind.i64.wrap (((BitVec.ofInt 64 n &&& BitVec.ofInt 64 (-1)).toNat : Nat) : Int) = n
  rw [show BitVec.ofInt 64 (-1) = BitVec.allOnes 64 from by decide, BitVec.and_allOnes, IntKind.wrap_i64, BitVec.toNat_ofInt]
  omega
theorem and_1 (n : Int) : bits .and .i64 n 1 = n % 2 := by
  show IntKind.i64.wrap (((BitVec.ofInt 64 n &&& BitVec.ofInt 64 1).toNat : Nat) : Int) = n % 2
  rw [BitVec.toNat_and, show (BitVec.ofInt 64 1).toNat = 1 from by decide, Nat.and_one_is_mod, IntKind.wrap_i64, BitVec.toNat_ofInt]
  omega
theorem and_0 (n : Int) : bits .and .i64 n 0 = 0 := by
  show IntKind.i64.wrap (((BitVec.ofInt 64 n &&& BitVec.ofInt 64 0).toNat : Nat) : Int) = 0
  rw [show BitVec.ofInt 64 0 = 0#64 from by decide, BitVec.and_zero, IntKind.wrap_i64]
  decide
section
variable {H : Type} {P : Program} {w : World} {ops : Array Oper} {rest : List Oper} {op : Oper} {a : Act} {Q : Exit → Act → World → Prop}
theorem mv_insert (hw : Region.wanted op (yielded ops a.tmps) = true) (m x v : Operand) (t : TypeId) (hop : op.op = .insert t m x v)
  (k e : TypeId) (K : Keyed P k) (ht : P.underlying t = some (.map k e)) (R : Value → Option (DataW H × List MemPlace)) (b n : Nat) (D : DataW H)
  (hm : a.eval m = .map (some b)) (hown : w.ownsMap P k R b n D) (hn : n < maxLen) (key val : Value) (kl : Lit) (hx : a.eval x = key) (hv : a.eval v = val) (hkey : keyOf P k key = some kl)
  (d : DataW H) (ps : List MemPlace) (hval : R val = some (d, ps))
  (h : ∀ w', w'.ownsMap P k R b (n + 1) (D.put kl d) → w.grownBy w' (some b) → wpList P ops Q rest (a.put op.dst undef) w') : wpList P ops Q (op :: rest) a w := by
 obtain ⟨w', hrun, r1, r2⟩ := hown.update K ht hn hkey hval
 refine wpList_if hw ?_
 unfold Oper.wp execOp
 simp only [hop]
 simp [hm, hx, hv, hrun, Result.andThen]
 exact h _ r1 r2
theorem mv_lookup (hw : Region.wanted op (yielded ops a.tmps) = true) (m x : Operand) (t : TypeId) (hop : op.op = Op.lookup t m x false)
  (k e : TypeId) (q : IntKind) (K : Keyed P k) (ht : P.underlying t = some (.map k e)) (he : P.underlying e = some (.int q)) (hz : (zeroValue e).run P w = .ok (.int q 0) w) (b n : Nat) (D : DataW H)
  (hm : a.eval m = .map (some b)) (hown : w.ownsMap P k (plainElem P e) b n D) (key : Value) (kl : Lit) (hx : a.eval x = key) (hkey : keyOf P k key = some kl)
  (h : ∀ c : Int, D.atKey kl (.lit (.int q 0)) = .lit (.int q c) → wpList P ops Q rest (a.put op.dst (.int q c)) w) : wpList P ops Q (op :: rest) a w := by
 obtain ⟨c, hrun, hat, _⟩ := hown.lookup_int K ht he hz hkey
 refine wpList_if hw ?_
 unfold Oper.wp execOp
 simp only [hop]
 simp [hm, hx, hrun, Result.andThen]
 exact h c hat
end
def bitsD : DataW Unit := ((DataW.map []).put (.int .i64 1) (.lit (.int .i64 (-1)))).put (.int .i64 2) (.lit (.int .i64 1))
theorem bitsD_is : bitsD = .map [(.int .i64 1, .lit (.int .i64 (-1))), (.int .i64 2, .lit (.int .i64 1))] := by
  unfold bitsD DataW.put
  simp [DataW.insert, Lit.sameKey, Lit.before]
theorem bitsD_at (r c : Int) (h : bitsD.atKey (.int .i64 r) (.lit (.int .i64 0)) = .lit (.int .i64 c)) : c = if r = 1 then -1 else if r = 2 then 1 else 0 := by
 rw [bitsD_is] at h
 unfold DataW.atKey at h
 by_cases h1 : r = 1
 ·subst h1
  rw [if_pos rfl]
  have h2 : (DataW.lit (.int .i64 (-1)) : DataW Unit) = .lit (.int .i64 c) := h
  injection h2 with h2
  injection h2 with _ h2
  exact h2.symm
 by_cases h2 : r = 2
 ·subst h2
  rw [if_neg h1, if_pos rfl]
  have h2 : (DataW.lit (.int .i64 1) : DataW Unit) = .lit (.int .i64 c) := h
  injection h2 with h2
  injection h2 with _ h2
  exact h2.symm
 have h3 : ¬ (1 = r) := fun k => h1 k.symm
 have h4 : ¬ (2 = r) := fun k => h2 k.symm
 simp [Lit.sameKey, h3, h4] at h
 simp [h1, h2, h]
set_option maxRecDepth 20000 in
set_option maxHeartbeats 4000000 in
theorem fills_any (n rule : Int) (w : World) (hn : -9223372036854775808 ≤ n ∧ n ≤ 9223372036854775807) (hr : -9223372036854775808 ≤ rule ∧ rule ≤ 9223372036854775807) :
  Calls Tryz.prog 27 #[.int .i64 n, .int .i64 rule] w fun e w' => e = .returned (.bool (fillsV n rule)) ∧ Ext w w' := by
 have K : Keyed Tryz.prog 3 := int_keyed Tryz.underlying3
 have wf1 : ∀ z : Int, -9223372036854775808 ≤ z ∧ z ≤ 9223372036854775807 → (Lit.int .i64 z).wf = true := fun z h => by
  have hmin : IntKind.i64.min = -9223372036854775808 := rfl
  have hmax : IntKind.i64.max = 9223372036854775807 := rfl
  simp only [Lit.wf, Bool.and_eq_true, decide_eq_true_eq]
  omega
 have HK := zH K
 have HW := zH wf1
 have HN := zH hn
 have HRU := zH hr
 clear K wf1 hn hr
 go_enter Tryz.func27, Tryz.ntmps27
 go_upto_region 1 with fail
 refine wp_region_lit ?_
 refine zp (w' := w.alloc (.map #[] 0)) (.map (some w.heap.size)) (by have hmm := @run_makeMap Tryz.prog; go_simp) ?_
 refine mv_insert (H := Unit) (by rfl) _ _ _ _ (by rfl) 3 3 HK.out Tryz.underlying85 (plainElem Tryz.prog 3) w.heap.size 0 (.map []) (by rfl) (World.ownsMap_made w _ _ _) (by unfold maxLen; decide) (.int .i64 1) (.int .i64 (-1)) (.int .i64 1) (by rfl) (by rfl) (keyOf_int_mk Tryz.underlying3 (HW.out 1 (by decide))) (.lit (.int .i64 (-1))) [] (plainElem_int Tryz.underlying3 (HW.out (-1) (by decide))) ?_
 intro w1 o1 g1
 (try simp only [Act.put])
 refine mv_insert (H := Unit) (by rfl) _ _ _ _ (by rfl) 3 3 HK.out Tryz.underlying85 (plainElem Tryz.prog 3) w.heap.size 1 _ (by rfl) o1 (by unfold maxLen; decide) (.int .i64 2) (.int .i64 1) (.int .i64 2) (by rfl) (by rfl) (keyOf_int_mk Tryz.underlying3 (HW.out 2 (by decide))) (.lit (.int .i64 1)) [] (plainElem_int Tryz.underlying3 (HW.out 1 (by decide))) ?_
 intro w2 o2 g2
 (try simp only [Act.put])
 have HX := zH (show Ext w w2 from (((Ext.refl w).alloc (.map #[] 0)).grown g1 (fun k hk => by injection hk with hk; omega)).grown g2 (fun k hk => by injection hk with hk; omega))
 have HO := zH (show w2.ownsMap Tryz.prog 3 (plainElem Tryz.prog 3) w.heap.size 2 bitsD from o2)
 clear o1 g1 o2 g2
 refine zp (w' := w2) (.map (some w.heap.size)) (by go_simp) ?_
 refine zp (w' := w2) (.map (some w.heap.size)) (by go_simp) ?_
 go_upto_region 2 with fail
 refine wp_region_lit ?_
 refine zp (w' := w2) (.int .i64 n) (by go_simp) ?_
 refine zp (w' := w2) (.map (some w.heap.size)) (by go_simp) ?_
 refine zp (w' := w2) (.int .i64 rule) (by go_simp) ?_
 refine mv_lookup (H := Unit) (by rfl) _ _ _ (by rfl) 3 3 .i64 HK.out Tryz.underlying85 Tryz.underlying3 (Tryz.zeroValue3 _) w.heap.size 2 bitsD (by rfl) HO.out (.int .i64 rule) (.int .i64 rule) (by rfl) (keyOf_int_mk Tryz.underlying3 (HW.out rule HRU.out)) ?_
 intro c hc
 have hc2 := bitsD_at rule c hc
 have hb : (bits .and .i64 n c != 0) = fillsV n rule := by
  unfold fillsV
  by_cases h1 : rule = 1
  ·subst h1
   rw [hc2, if_pos rfl, and_m1 HN.out]
   by_cases h0 : n = 0 <;> simp [h0]
  by_cases h2 : rule = 2
  ·subst h2
   rw [hc2, if_neg h1, if_pos rfl, and_1]
   by_cases h0 : n % 2 = 0 <;> simp [h0]
  rw [hc2, if_neg h1, if_neg h2, and_0]
  simp [h1, h2]
 have HB := zH hb
 clear hc hc2 hb
 try simp only [Act.put, zA, zB, zC]
 go_wp2_with fail
 go_ret
 exact ⟨by rw [← HB.out]; rfl, HX.out⟩
end Go.Proofs.YtmgibncehlpfkaaGreat

namespace Go.Proofs.YtmgibncehlpfkaaGreat
open Go.RowKit
attribute [local go_sem ↓] Go.wp_at_zero Go.wp_at_succ run_max_ii run_min_ii
set_option maxRecDepth 20000 in
set_option maxHeartbeats 4000000 in
theorem merge_any (L : Nat) (u : Value) (ps : List QQ) (w : World) (hu : SpansV L w u ps) (h1L : 1 ≤ L) (hL : L ≤ 60000) (hn : ps.length ≤ 20000) :
  Calls Tryz.prog 12 #[u] w fun e w' => ∃ v es, e = .returned v ∧ SpR L w' w.heap.size v es ∧ es.map SpE.vl = mergeV ps ∧ es.length ≤ ps.length ∧ Ext w w' := by
 obtain ⟨A, cu, rfl, hA⟩ := hu
 obtain ⟨i0, hi, hz0, hz1, hz2⟩ := info_parts infoSp
 have HL1 := zH h1L
 have HI := zH (And.intro hi (And.intro hz0 (And.intro hz1 hz2)))
 have HA := zH (fun (w' : World) (x : Ext w w') (k : Nat) (p : QQ) (hp : ps[k]? = some p) => (show ∃ g off, A = some ⟨g, off, none⟩ ∧ ∃ cs : List Value, w'.rangeAt g (off + k * 8) cs ∧ PtIn L w' cs.toArray p.1 p.2 by
  obtain ⟨g, off, h1, h2⟩ := hA (by have := (List.getElem?_eq_some_iff.1 hp).1; omega)
  obtain ⟨cs, h3, h4⟩ := h2 k p hp
  exact ⟨g, off, h1, cs, range_ext h3 x, h4.ext x⟩))
 clear hi hz0 hz1 hz2 hA
 go_enter Tryz.func12, Tryz.ntmps12
 go_wp2_with fail
 go_loopg [3, 12] ps.length (fun c v i wr => ∃ (k : Nat) (es : List SpE) (v2 : Value), k ≤ ps.length ∧ c = ps.length - k ∧ i = .int .i64 k ∧ v2 = v ∧ SpR L wr w.heap.size v2 es ∧ es.map SpE.vl = some2 (ps.take k) ∧ es.length ≤ k ∧ Ext w wr)
 case atStart => exact ⟨0, [], _, Nat.zero_le _, rfl, rfl, rfl, ⟨RowN.nil _ _ _ _, by simp⟩, rfl, Nat.le_refl _, Ext.refl _⟩
 case round =>
  obtain ⟨k, es, v, hk, rfl, rfl, rfl, hsp, hes, hek, hx⟩ := hrel
  have HSP := zH hsp
  have HES := zH (And.intro hes hek)
  have HX := zH hx
  clear hsp hes hx
  by_cases hlt : k < ps.length
  ·have hlt2 : (k : Int) < (ps.length : Int) := by omega
   obtain ⟨p, hp⟩ : ∃ p, ps[k]? = some p := ⟨_, List.getElem?_eq_getElem hlt⟩
   obtain ⟨g, off, rfl, cs, hr, hpt⟩ := HA.out wr HX.out k p hp
   have HSM := zH (some2_succ hp)
   have hcl : cs.length = 8 := by have := hpt.size; simpa using this
   have cs_one : ∀ v, v ∈ cs → v.oneCell' = true := by
    have h := hpt.one
    rw [Array.all_eq_true_iff_forall_mem] at h
    exact fun v hv => h v (by simpa using hv)
   have HR := zH hr
   have HPT := zH hpt
   have HCL := zH hcl
   have HLT := zH hlt
   have HFAR0 := zH (fun X hX => sp_far (X := X) HSP.out hX)
   clear hr hpt hp hlt
   go_upto_region 4 with fail
   refine wp_region_lit ?_
   refine zq (.pointer (some ⟨g, off + k * 8, none⟩)) ?_
   refine wpList_if (by rfl) (wp_load_mid _ _ (by rfl) g (off + k * 8) (by rfl) cs _ HR.out Tryz.underlying39 (by rfl) (by rw [HCL.out]; kernel_rfl) ?_)
   try simp only [Act.put, zA, zB, zC]
   clear hcl
   refine zp (w' := wr.alloc (.cells z8 39)) (.pointer (some ⟨wr.heap.size, 0, none⟩)) (by go_simp) ?_
   refine pO (cs).toArray (Blk.new wr _ _) (by simp [HCL.out]) (by rw [show ((cs).toArray : Array Value).size = 8 by simp [HCL.out]]; kernel_rfl) (all_oneCell_toArray cs_one) ?_
   (try simp only [Act.put])
   obtain ⟨xq1, xq2⟩ := new_var wr 39 z8 (cs).toArray (by simp [HCL.out])
   generalize (wr.alloc (.cells z8 39)).setCells wr.heap.size 0 ((cs).toArray : Array Value).toList = w4 at *
   have HFAR := zH (HFAR0.out wr.heap.size (Nat.le_refl _))
   generalize wr.heap.size = X4 at *
   have HEw4 := zH xq1
   have HBX4 := zH xq2
   clear xq1 xq2
   go_upto_region 5 with fail
   refine wp_region_lit ?_
   refine zq (.pointer (some ⟨X4, 0, none⟩)) ?_
   refine pP 0 4 HBX4.out Tryz.underlying27 (by simp [HCL.out]) ?_
   try simp only [Act.put, zA, zB, zC]
   refine zq (.pointer (some ⟨X4, 4, none⟩)) ?_
   refine pP 4 4 HBX4.out Tryz.underlying27 (by simp [HCL.out]) ?_
   try simp only [Act.put, zA, zB, zC]
   obtain ⟨z, hz⟩ : ∃ z, z = rcmp p.1 p.2 := ⟨_, rfl⟩
   have hzl : z < 0 ↔ p.1 < p.2 := by rw [hz]; exact rcmp_lt
   refine mv_call (by rfl) (by go_simp) (pCmpS hz (HPT.out.ext HEw4.out).c0 (HPT.out.ext HEw4.out).c1 (by omega)) ?_
   rintro e w5 ⟨rfl, hx⟩
   have HEw5 := zH (show Ext w4 w5 from ((Ext.refl w4)).trans hx)
   clear hx
   refine ⟨_, rfl, ?_⟩
   try simp only [Act.put, zA, zB, zC]
   clear hz
   have HPT5 := zH ((HPT.out.ext HEw4.out).ext HEw5.out)
   have HB5 := zH (HBX4.out.ext HEw5.out)
   have HXw5 := zH ((HX.out.trans HEw4.out).trans HEw5.out)
   have HSP5 := zH ((HSP.out.ext HEw4.out).ext HEw5.out)
   clear HEw4 HEw5 HBX4 HPT HR HSP
   by_cases hpq : p.1 < p.2
   ·have hz2 : z < 0 := hzl.2 hpq
    clear hzl
    refine zq (.bool true) ?_
    have hcont := HSM.out
    rw [if_pos hpq] at hcont
    have HCO := zH hcont
    clear hcont
    clear hpq hz2
    go_upto_region 6 with fail
    refine wp_region_held_drew (S := fun x => w5.grownBy x v.ownBlock) (by kernel_rfl) (grown_of_ext _ (Ext.refl _).drew) (fun _ => ?_)
    refine zv 0 (bs 11 1) (grown_of_ext _ (Ext.refl w5).drew) ?_
    refine mV 1 (bs 11 3) (grown_of_ext _ (Ext.refl w5).drew) ?_
    refine mP 2 (bs 11 7) 0 4 (fun x hx => HB5.out.grown hx HFAR.out) Tryz.underlying27 (by simp [HCL.out]) (grown_of_ext _ (Ext.refl w5).drew) ?_
    try simp only [Act.put, zA, zB, zC]
    refine mV 4 (bs 11 23) (grown_of_ext _ (Ext.refl w5).drew) ?_
    refine mP 5 (bs 11 55) 4 4 (fun x hx => HB5.out.grown hx HFAR.out) Tryz.underlying27 (by simp [HCL.out]) (grown_of_ext _ (Ext.refl w5).drew) ?_
    try simp only [Act.put, zA, zB, zC]
    refine mC 3 (bs 11 63) (pNorm (HPT5.out.ext (Ext.refl _).drew).c0 (by omega)) ?_
    rintro e w6 ⟨c1, rfl, hc1, hx⟩
    have HEw6 := zH (show Ext w5 w6 from ((Ext.refl w5).drew).trans hx)
    obtain ⟨ra, rfl, hra⟩ := hc1
    have HRA := zH hra
    clear hra
    clear hx
    refine ⟨_, rfl, (grown_of_ext _ HEw6.out), ?_⟩
    try simp only [Act.put, zA, zB, zC]
    refine mC 6 (bs 11 127) (pNorm (HPT5.out.ext HEw6.out).c1 (by omega)) ?_
    rintro e w7 ⟨c2, rfl, hc2, hx⟩
    have HEw7 := zH (show Ext w5 w7 from (HEw6.out).trans hx)
    obtain ⟨rb, rfl, hrb⟩ := hc2
    have HRB := zH hrb
    have HRA7 := zH (HRA.out.ext hx)
    clear hrb HRA
    clear hx
    refine ⟨_, rfl, (grown_of_ext _ HEw7.out), ?_⟩
    try simp only [Act.put, zA, zB, zC]
    refine zv 7 (bs 11 255) (grown_of_ext _ HEw7.out) ?_
    have hw7 := HSP5.out.ext HEw7.out
    have hbz := (HXw5.out.trans HEw7.out).size
    have hek3 : es.length ≤ 20000 := by have := HES.out.2; omega
    have hOK : SpE.Ok L w7 ⟨ra, rb, p.1, p.2⟩ := ⟨HRA7.out, HRB.out, HPT5.out.c0.rl HL1.out, HPT5.out.c1.rl HL1.out⟩
    have HOK := zH hOK
    clear hOK
    have hAE : Ext w7 (w7.alloc (.cells #[.bool ra.n, .slice ra.p ra.l ra.c, .bool ra.m, .slice ra.p2 ra.l2 ra.c2, .bool rb.n, .slice rb.p rb.l rb.c, .bool rb.m, .slice rb.p2 rb.l2 rb.c2] 39)) := (Ext.refl _).alloc _
    refine mU 8 (bs 11 511) (v := .slice (some ⟨w7.heap.size, 0, none⟩) 1 1) (w' := (w7.alloc (.cells #[.bool ra.n, .slice ra.p ra.l ra.c, .bool ra.m, .slice ra.p2 ra.l2 ra.c2, .bool rb.n, .slice rb.p rb.l rb.c, .bool rb.m, .slice rb.p2 rb.l2 rb.c2] 39))) (grown_of_ext _ ((HEw7.out).alloc _)) ?_
    try simp only [Act.put, zA, zB, zC]
    refine md_appendF (j := 9) (listed' := (bs 11 1023)) (by rfl) (by kernel_rfl) (by rfl) _ _ 31 (by rfl) w.heap.size 39 i0 _ 8 128 Tryz.underlying31 HI.out.1 HI.out.2.1 HI.out.2.2.1 HI.out.2.2.2 rfl (by decide) noUL_zsp _ es.length (spCells es) (by rfl) (hw7.ext hAE).1 ⟨w7.heap.size, 0, none⟩ 1 1 [.bool ra.n, .slice ra.p ra.l ra.c, .bool ra.m, .slice ra.p2 ra.l2 ra.c2, .bool rb.n, .slice rb.p rb.l rb.c, .bool rb.m, .slice rb.p2 rb.l2 rb.c2] (by rfl) rfl (new_cells _ [.bool ra.n, .slice ra.p ra.l ra.c, .bool ra.m, .slice ra.p2 ra.l2 ra.c2, .bool rb.n, .slice rb.p rb.l rb.c, .bool rb.m, .slice rb.p2 rb.l2 rb.c2] _) (by simp [Value.oneCell']) (SpE.noU ⟨ra, rb, p.1, p.2⟩) (by decide) (by unfold maxLen; omega) (by omega) (by have := hAE.size; omega) (by kernel_rfl) ?_
    intro gx cx w8 hf h2 h3 h4
    have HSN := zH ((hw7.ext hAE).snoc (e := ⟨ra, rb, p.1, p.2⟩) rfl (HOK.out.ext hAE) h2 h4)
    have HX8 := zH (((HXw5.out.trans HEw7.out).trans hAE).grown h3 (fun j hj => hw7.1.block j hj))
    have hS8 : w5.grownBy w8 v.ownBlock := ext_grown (HEw7.out.trans hAE) h3
    clear hw7 hbz hf h2 h3 h4 hAE
    refine ⟨hS8, ?_⟩
    try simp only [Act.put, zA, zB, zC]
    refine zv 10 (bs 11 2047) hS8 ?_
    refine wpAnyH_done (by kernel_rfl) ?_ _
    clear hS8
    go_wp2_with fail
    go_roundg (ps.length - (k + 1))
    case measure => have := HLT.out; omega
    case rel => exact ⟨k + 1, es ++ [⟨ra, rb, p.1, p.2⟩], _, HLT.out, rfl, by go_num, rfl, HSN.out, by rw [HCO.out, List.map_append, HES.out.1]; rfl, by have := HES.out.2; simp; omega, HX8.out⟩
   have hz2 : ¬ z < 0 := fun h => hpq (hzl.1 h)
   clear hzl
   refine zq (.bool false) ?_
   have hcont := HSM.out
   rw [if_neg hpq] at hcont
   have HCO := zH hcont
   clear hcont hpq hz2
   go_wp2_with fail
   go_roundg (ps.length - (k + 1))
   case measure => have := HLT.out; omega
   case rel => exact ⟨k + 1, es, _, HLT.out, rfl, by go_num, rfl, HSP5.out, by rw [HCO.out]; exact HES.out.1, by have := HES.out.2; omega, HXw5.out⟩
  obtain rfl : k = ps.length := by omega
  have hge : ¬ (ps.length : Int) < (ps.length : Int) := by omega
  have HSRT := zH (sortSp_any L v es w.heap.size wr HSP.out hL (by have := HES.out.2; omega))
  have hval : (Stb.stab ltE es).map SpE.vl = sortedV ps := by
   have h := HES.out.1
   rw [List.take_of_length_le (Nat.le_refl _)] at h
   rw [stab_map SpE.vl (lt := ltE) (lt' := ltQ) (fun _ _ => rfl), h]
   rfl
  have hsl : (Stb.stab ltE es).length ≤ ps.length := by rw [Stb.stab_len]; exact HES.out.2
  have hvw : ∀ j, v.ownBlock = some j → w.heap.size ≤ j := HSP.out.1.block
  generalize Stb.stab ltE es = ss at *
  go_upto_region 9 with (go_at_call 25; refine HSRT.out.mono ?_; rintro e ws ⟨rfl, hss, hgr⟩)
  have hXs : Ext w ws := HX.out.grown hgr hvw
  obtain ⟨As, cs, rfl⟩ := row_slice hss.1
  have HSS := zH hss
  have HXS := zH hXs
  have HVAL := zH hval
  have hsn : ss.length ≤ 20000 := by omega
  have HSSB := zH HSS.out.lt
  have HSL := zH hsl
  clear hss hXs hval hgr HSRT HSP HES HX hsl hvw
  go_wp2_with fail
  go_loopg [6, 37] ss.length (fun c v i wr => ∃ (k : Nat) (os : List SpE) (v2 : Value), k ≤ ss.length ∧ c = ss.length - k ∧ i = .int .i64 k ∧ v2 = v ∧ SpR L wr w.heap.size v2 os ∧ os.map SpE.vl = ((sortedV ps).take k).foldl mstep [] ∧ os.length ≤ k ∧ SpR L wr w.heap.size (.slice As ss.length cs) ss ∧ (∀ j, v2.ownBlock = some j → ws.heap.size ≤ j) ∧ Ext w wr ∧ ws.heap.size ≤ wr.heap.size)
  case atStart => exact ⟨0, [], _, Nat.zero_le _, rfl, rfl, rfl, ⟨RowN.nil _ _ _ _, by simp⟩, by simp, Nat.le_refl _, HSS.out, by intro j hj; simp [Value.ownBlock] at hj, HXS.out, Nat.le_refl _⟩
  case round =>
   clear HSS
   obtain ⟨k, os, v, hk, rfl, rfl, rfl, hos, hov, hok, hss, hfar, hx, hwz⟩ := hrel
   by_cases hlt : k < ss.length
   ·have hlt2 : (k : Int) < (ss.length : Int) := by omega
    obtain ⟨e, he⟩ : ∃ e, ss[k]? = some e := ⟨_, List.getElem?_eq_getElem hlt⟩
    have HSTEP := zH (show ((sortedV ps).take (k + 1)).foldl mstep [] = mstep (os.map SpE.vl) (e.p, e.q) by rw [hov, mstep_fold (p := (e.p, e.q)) (by rw [← HVAL.out, List.getElem?_map, he]; rfl)])
    have HOKE := zH (hss.2 e (List.mem_of_getElem? he))
    obtain ⟨gs, caps, rs, hvs, hrs⟩ : ∃ gs caps rs, As = some ⟨gs, 0, none⟩ ∧ Sw wr wr gs 39 SpE.cells rs ss ∧ caps = cs := by
     rcases hss.form with ⟨hv, hn⟩ | ⟨g, cap, rest, hv, _, hs, _⟩
     ·rw [hn] at hlt; simp at hlt
     injection hv with e1 _ _
     exact ⟨g, cs, rest, e1, hs, rfl⟩
    subst hvs
    have HRD := zH (hrs.1.read he SpE.len)
    have HOS := zH hos
    have HSS := zH hss
    have HFR := zH (And.intro hfar (And.intro hwz hok))
    have HX := zH hx
    have HLT := zH hlt
    clear hos hov hss hfar hx hwz hok hrs he hlt
    go_upto_region 12 with fail
    refine wp_region_lit ?_
    refine zq (.pointer (some ⟨gs, k * 8, none⟩)) ?_
    refine wpList_if (by rfl) (wp_load_mid _ _ (by rfl) gs (k * 8) (by rfl) e.cells _ HRD.out Tryz.underlying39 (by rfl) (by kernel_rfl) ?_)
    try simp only [Act.put, zA, zB, zC]
    refine zp (w' := wr.alloc (.cells z8 39)) (.pointer (some ⟨wr.heap.size, 0, none⟩)) (by go_simp) ?_
    refine pO (e.cells).toArray (Blk.new wr _ _) (by simp [SpE.len]) (by rw [show ((e.cells).toArray : Array Value).size = 8 by simp [SpE.len]]; kernel_rfl) (all_oneCell_toArray e.one) ?_
    (try simp only [Act.put])
    obtain ⟨xq1, xq2⟩ := new_var wr 39 z8 (e.cells).toArray (by simp [SpE.len])
    generalize (wr.alloc (.cells z8 39)).setCells wr.heap.size 0 ((e.cells).toArray : Array Value).toList = w8 at *
    generalize wr.heap.size = X8 at *
    have HEw8 := zH xq1
    have HBX8 := zH xq2
    clear xq1 xq2
    have HX8 := zH (HX.out.trans HEw8.out)
    have HOS8 := zH (HOS.out.ext HEw8.out)
    have HSS8 := zH (HSS.out.ext HEw8.out)
    have HOKE8 := zH (HOKE.out.ext HEw8.out)
    have HZ8 := zH (Nat.le_of_lt HBX8.out.lt)
    clear HRD HOS HSS HOKE HX
    skip
    have HOS := HOS8
    have HSS := HSS8
    have HOKE := HOKE8
    have HX := HX8
    have HBX := HBX8
    clear HOS8 HSS8 HOKE8 HX8 HBX8
    rcases snoc_or os with rfl | ⟨os, l, rfl⟩
    ·obtain ⟨Ao, co, rfl⟩ := row_slice HOS.out.1
     go_upto_region 14 with fail
     refine wp_region_held_drew (S := fun x => Ext w8 x) (by kernel_rfl) (Ext.refl _).drew (fun _ => ?_)
     refine zv 0 (bs 14 1) (Ext.refl w8).drew ?_
     refine zv 1 (bs 14 3) (Ext.refl w8).drew ?_
     refine zv 2 (bs 14 7) (Ext.refl w8).drew ?_
     refine zs 3 (bs 14 15) (Ext.refl w8).drew ?_
     refine zs 4 (bs 14 31) (Ext.refl w8).drew ?_
     refine zs 5 (bs 14 63) (Ext.refl w8).drew ?_
     refine zs 6 (bs 14 127) (Ext.refl w8).drew ?_
     refine zs 7 (bs 14 255) (Ext.refl w8).drew ?_
     refine zs 8 (bs 14 511) (Ext.refl w8).drew ?_
     refine zs 9 (bs 14 1023) (Ext.refl w8).drew ?_
     refine zs 10 (bs 14 2047) (Ext.refl w8).drew ?_
     refine zs 11 (bs 14 4095) (Ext.refl w8).drew ?_
     refine zs 12 (bs 14 8191) (Ext.refl w8).drew ?_
     refine zv 13 (bs 14 16383) (Ext.refl w8).drew ?_
     refine wpAnyH_done (by kernel_rfl) ?_ _
     have HSTEP2 := zH (HSTEP.out.trans (mstep_nil _))
     have hok3 : ([] : List SpE).length ≤ 20000 := by simp
     have HEdr := zH (show Ext w8 w8.drew from (Ext.refl _).drew)
     have HOSc := zH (HOS.out.ext HEdr.out)
     have HSSc := zH (HSS.out.ext HEdr.out)
     have HOKEc := zH (HOKE.out.ext HEdr.out)
     have HBXc := zH (HBX.out.ext HEdr.out)
     have HXc := zH (HX.out.trans HEdr.out)
     have HZc := zH (Nat.le_trans HZ8.out HEdr.out.size)
     go_upto_region 15 with fail
     refine wp_region_lit ?_
     refine zp (w' := w8.drew) (.slice Ao 0 co) (by go_simp <;> with_reducible rfl) ?_
     refine pL (cs := #[.bool e.a.n, .slice e.a.p e.a.l e.a.c, .bool e.a.m, .slice e.a.p2 e.a.l2 e.a.c2, .bool e.b.n, .slice e.b.p e.b.l e.b.c, .bool e.b.m, .slice e.b.p2 e.b.l2 e.b.c2]) HBXc.out Tryz.underlying39 (by kernel_rfl) ?_
     try simp only [Act.put, zA, zB, zC]
     have hbz := HXc.out.size
     have hAE : Ext w8.drew (w8.drew.alloc (.cells #[.bool e.a.n, .slice e.a.p e.a.l e.a.c, .bool e.a.m, .slice e.a.p2 e.a.l2 e.a.c2, .bool e.b.n, .slice e.b.p e.b.l e.b.c, .bool e.b.m, .slice e.b.p2 e.b.l2 e.b.c2] 39)) := (Ext.refl _).alloc _
     refine zp (w' := (w8.drew.alloc (.cells #[.bool e.a.n, .slice e.a.p e.a.l e.a.c, .bool e.a.m, .slice e.a.p2 e.a.l2 e.a.c2, .bool e.b.n, .slice e.b.p e.b.l e.b.c, .bool e.b.m, .slice e.b.p2 e.b.l2 e.b.c2] 39))) (.slice (some ⟨w8.drew.heap.size, 0, none⟩) 1 1) (by go_simp) ?_
     refine wpList_if (by rfl) (wp_append_rowF _ _ 31 (by rfl) w.heap.size 39 i0 _ 8 128 Tryz.underlying31 HI.out.1 HI.out.2.1 HI.out.2.2.1 HI.out.2.2.2 rfl (by decide) noUL_zsp _ 0 (spCells ([] : List SpE)) (by rfl) (HOSc.out.ext hAE).1 ⟨w8.drew.heap.size, 0, none⟩ 1 1 e.cells (by rfl) rfl (new_cells _ e.cells _) e.one e.noU (by decide) (by unfold maxLen; omega) (by omega) (by have := hAE.size; omega) ?_)
     intro gx cx w8_ hf h2 h3 h4
     try simp only [Act.put, zA, zB, zC]
     have HSN := zH ((HOSc.out.ext hAE).snoc (es := ([] : List SpE)) (e := e) rfl (HOKEc.out.ext hAE) h2 h4)
     have HXn := zH ((HXc.out.trans hAE).grown h3 (fun j hj => HOSc.out.1.block j hj))
     have HSSn := zH ((HSSc.out.ext hAE).grown h3 (fun j hj hj2 => by have h7 := HFR.out.1 j hj2; have h8 := HSSB.out j hj; omega) h4)
     have HFn := zH (show ws.heap.size ≤ gx from hf.elim (fun hf => HFR.out.1 gx hf) (fun hf => Nat.le_trans (Nat.le_trans HFR.out.2.1 HZc.out) (Nat.le_trans hAE.size hf)))
     have HZn := zH (show ws.heap.size ≤ w8_.heap.size from Nat.le_trans (Nat.le_trans HFR.out.2.1 HZc.out) (Nat.le_trans hAE.size h3.size))
     clear hf h2 h3 h4 hAE hbz
     refine zp (w' := w8_) (.slice (some ⟨gx, 0, none⟩) (0 + 1) cx) (by go_simp) ?_
     go_wp2_with fail
     go_roundg (ss.length - (k + 1))
     case measure => have := HLT.out; omega
     case rel => exact ⟨k + 1, ([] : List SpE) ++ [e], _, HLT.out, rfl, by go_num, rfl, HSN.out, by rw [HSTEP2.out]; simp [SpE.vl], by have := HFR.out.2.2; simp at this ⊢ <;> omega, HSSn.out, by intro j hj; simp [Value.ownBlock] at hj; rw [← hj]; exact HFn.out, HXn.out, HZn.out⟩
    have hvf : ∃ g6 c6, v = .slice (some ⟨g6, 0, none⟩) (os.length + 1) c6 := by
     rcases HOS.out.form with ⟨_, h⟩ | ⟨g6, c6, _, h, _⟩
     ·simp at h
     exact ⟨g6, c6, by simpa using h⟩
    obtain ⟨g6, c6, rfl⟩ := hvf
    obtain ⟨m, hm⟩ : ∃ m, os.length = m := ⟨_, rfl⟩
    rw [hm] at HOS HFR ⊢
    have HM := zH hm
    have hm3 : m ≤ 20000 := by have h := HFR.out.2.2; rw [List.length_append, HM.out] at h; omega
    have wm_ : IntKind.i64.wrap (m : Int) = (m : Int) := by rw [IntKind.wrap_i64]; omega
    have HOKL := zH (HOS.out.2 l (by simp))
    have HST := zH (HSTEP.out.trans (show mstep ((os ++ [l]).map SpE.vl) (e.p, e.q) = if l.q < e.p then os.map SpE.vl ++ [(l.p, l.q)] ++ [(e.p, e.q)] else if l.q < e.q then os.map SpE.vl ++ [(l.p, e.q)] else os.map SpE.vl ++ [(l.p, l.q)] by rw [List.map_append]; exact mstep_app _ _ _))
    have e1 : ((m + 1 : Nat) : Int) - 1 = (m : Int) := by omega
    have e2 : (m : Int) + 1 - 1 = (m : Int) := by omega
    have e3 : ((m : Int) + 1 == 0) = false := by simp; omega
    have e4 : (((m + 1 : Nat) : Int) == 0) = false := by simp; omega
    have e5 : (m : Int) < (m : Int) + 1 := by omega
    have RDE := zH (HOS.out.readEnd HM.out)
    clear hm
    go_upto_region 14 with fail
    have RDE8 := zH (HOS.out.readEnd HM.out)
    have HOKL8 := zH (HOS.out.2 l (by simp))
    clear RDE HOKL
    refine wp_region_held_drew (S := fun x => Ext w8 x) (by kernel_rfl) (Ext.refl _).drew (fun _ => ?_)
    refine zv 0 (bs 14 1) (Ext.refl w8).drew ?_
    refine zv 1 (bs 14 3) (Ext.refl w8).drew ?_
    refine zv 2 (bs 14 7) (Ext.refl w8).drew ?_
    refine zv 3 (bs 14 15) (Ext.refl w8).drew ?_
    refine zv 4 (bs 14 31) (Ext.refl w8).drew ?_
    refine zv 5 (bs 14 63) (Ext.refl w8).drew ?_
    refine zv 6 (bs 14 127) (Ext.refl w8).drew ?_
    refine mV 7 (bs 14 255) (Ext.refl w8).drew ?_
    refine zr 8 (bs 14 511) g6 (m * 8 + 4) [.bool l.b.n, .slice l.b.p l.b.l l.b.c, .bool l.b.m, .slice l.b.p2 l.b.l2 l.b.c2] (fun x hx => range_ext RDE8.out hx) Tryz.underlying27 (Ext.refl w8).drew ?_
    refine mV 9 (bs 14 1023) (Ext.refl w8).drew ?_
    refine mP 10 (bs 14 2047) 0 4 (fun x hx => HBX.out.ext hx) Tryz.underlying27 (by simp [SpE.len]) (Ext.refl w8).drew ?_
    try simp only [Act.put, zA, zB, zC]
    obtain ⟨z, hz⟩ : ∃ z, z = rcmp l.q e.p := ⟨_, rfl⟩
    have hzl : z < 0 ↔ l.q < e.p := by rw [hz]; exact rcmp_lt
    refine mC 11 (bs 14 4095) (pCmpS (L := L) hz (NIn.ofb (HOKL8.out.ext (Ext.refl _).drew)) (HOKE.out.ext (Ext.refl _).drew).ptIn.c0 (by omega)) ?_
    rintro e w9 ⟨rfl, hx⟩
    have HEw9 := zH (show Ext w8 w9 from ((Ext.refl w8).drew).trans hx)
    clear hx
    refine ⟨_, rfl, HEw9.out, ?_⟩
    try simp only [Act.put, zA, zB, zC]
    clear hz
    by_cases c1 : l.q < e.p
    ·have hz2 : z < 0 := hzl.2 c1
     clear hzl
     refine zv 12 (bs 14 8191) HEw9.out ?_
     refine zv 13 (bs 14 16383) HEw9.out ?_
     refine wpAnyH_done (by kernel_rfl) ?_ _
     have HSTEP2 := zH (HST.out.trans (if_pos c1))
     clear c1
     have HOSc := zH (HOS.out.ext HEw9.out)
     have HSSc := zH (HSS.out.ext HEw9.out)
     have HOKEc := zH (HOKE.out.ext HEw9.out)
     have HBXc := zH (HBX.out.ext HEw9.out)
     have HXc := zH (HX.out.trans HEw9.out)
     have HZc := zH (Nat.le_trans HZ8.out HEw9.out.size)
     go_upto_region 15 with fail
     refine wp_region_lit ?_
     refine zq (.slice (some ⟨g6, 0, none⟩) (m + 1) c6) ?_
     refine pL (cs := #[.bool e.a.n, .slice e.a.p e.a.l e.a.c, .bool e.a.m, .slice e.a.p2 e.a.l2 e.a.c2, .bool e.b.n, .slice e.b.p e.b.l e.b.c, .bool e.b.m, .slice e.b.p2 e.b.l2 e.b.c2]) HBXc.out Tryz.underlying39 (by kernel_rfl) ?_
     try simp only [Act.put, zA, zB, zC]
     have hbz := HXc.out.size
     have hAE : Ext w9 (w9.alloc (.cells #[.bool e.a.n, .slice e.a.p e.a.l e.a.c, .bool e.a.m, .slice e.a.p2 e.a.l2 e.a.c2, .bool e.b.n, .slice e.b.p e.b.l e.b.c, .bool e.b.m, .slice e.b.p2 e.b.l2 e.b.c2] 39)) := (Ext.refl _).alloc _
     refine zp (w' := (w9.alloc (.cells #[.bool e.a.n, .slice e.a.p e.a.l e.a.c, .bool e.a.m, .slice e.a.p2 e.a.l2 e.a.c2, .bool e.b.n, .slice e.b.p e.b.l e.b.c, .bool e.b.m, .slice e.b.p2 e.b.l2 e.b.c2] 39))) (.slice (some ⟨w9.heap.size, 0, none⟩) 1 1) (by go_simp) ?_
     refine wpList_if (by rfl) (wp_append_rowF _ _ 31 (by rfl) w.heap.size 39 i0 _ 8 128 Tryz.underlying31 HI.out.1 HI.out.2.1 HI.out.2.2.1 HI.out.2.2.2 rfl (by decide) noUL_zsp _ (m + 1) (spCells (os ++ [l])) (by rfl) (by have h := (HOSc.out.ext hAE).1; rw [List.length_append, HM.out] at h; exact h) ⟨w9.heap.size, 0, none⟩ 1 1 e.cells (by rfl) rfl (new_cells _ e.cells _) e.one e.noU (by decide) (by unfold maxLen; omega) (by omega) (by have := hAE.size; omega) ?_)
     intro gx cx w8_ hf h2 h3 h4
     try simp only [Act.put, zA, zB, zC]
     have HSN := zH ((HOSc.out.ext hAE).snoc (es := (os ++ [l])) (e := e) (by rw [List.length_append, HM.out]; rfl) (HOKEc.out.ext hAE) h2 h4)
     have HXn := zH ((HXc.out.trans hAE).grown h3 (fun j hj => HOSc.out.1.block j hj))
     have HSSn := zH ((HSSc.out.ext hAE).grown h3 (fun j hj hj2 => by have h7 := HFR.out.1 j hj2; have h8 := HSSB.out j hj; omega) h4)
     have HFn := zH (show ws.heap.size ≤ gx from hf.elim (fun hf => HFR.out.1 gx hf) (fun hf => Nat.le_trans (Nat.le_trans HFR.out.2.1 HZc.out) (Nat.le_trans hAE.size hf)))
     have HZn := zH (show ws.heap.size ≤ w8_.heap.size from Nat.le_trans (Nat.le_trans HFR.out.2.1 HZc.out) (Nat.le_trans hAE.size h3.size))
     clear hf h2 h3 h4 hAE hbz
     refine zp (w' := w8_) (.slice (some ⟨gx, 0, none⟩) ((m + 1) + 1) cx) (by go_simp) ?_
     go_wp2_with fail
     go_roundg (ss.length - (k + 1))
     case measure => have := HLT.out; omega
     case rel => exact ⟨k + 1, (os ++ [l]) ++ [e], _, HLT.out, rfl, by go_num, rfl, HSN.out, by rw [HSTEP2.out]; simp [SpE.vl], by have := HFR.out.2.2; simp at this ⊢ <;> omega, HSSn.out, by intro j hj; simp [Value.ownBlock] at hj; rw [← hj]; exact HFn.out, HXn.out, HZn.out⟩
    have hz2 : ¬ z < 0 := fun h => c1 (hzl.1 h)
    clear hzl
    refine zv 12 (bs 14 8191) HEw9.out ?_
    refine zv 13 (bs 14 16383) HEw9.out ?_
    refine wpAnyH_done (by kernel_rfl) ?_ _
    have HST2 := zH (HST.out.trans (if_neg c1))
    clear c1
    go_upto_region 16 with fail
    have RDE9 := zH (range_ext RDE8.out HEw9.out)
    have HBX9 := zH (HBX.out.ext HEw9.out)
    have HOKL9 := zH (HOKL8.out.ext HEw9.out)
    have HOKE9 := zH (HOKE.out.ext HEw9.out)
    refine wp_region_held_drew (S := fun x => Ext w9 x) (by kernel_rfl) (Ext.refl _).drew (fun _ => ?_)
    refine zv 0 (bs 10 1) (Ext.refl w9).drew ?_
    refine zv 1 (bs 10 3) (Ext.refl w9).drew ?_
    refine zv 2 (bs 10 7) (Ext.refl w9).drew ?_
    refine zv 3 (bs 10 15) (Ext.refl w9).drew ?_
    refine mV 4 (bs 10 31) (Ext.refl w9).drew ?_
    refine zr 5 (bs 10 63) g6 (m * 8 + 4) [.bool l.b.n, .slice l.b.p l.b.l l.b.c, .bool l.b.m, .slice l.b.p2 l.b.l2 l.b.c2] (fun x hx => range_ext RDE9.out hx) Tryz.underlying27 (Ext.refl w9).drew ?_
    refine mV 6 (bs 10 127) (Ext.refl w9).drew ?_
    refine mP 7 (bs 10 255) 4 4 (fun x hx => HBX9.out.ext hx) Tryz.underlying27 (by simp [SpE.len]) (Ext.refl w9).drew ?_
    try simp only [Act.put, zA, zB, zC]
    obtain ⟨z2, hzz⟩ : ∃ z, z = rcmp l.q e.q := ⟨_, rfl⟩
    have hzl : z2 < 0 ↔ l.q < e.q := by rw [hzz]; exact rcmp_lt
    refine mC 8 (bs 10 511) (pCmpS (L := L) hzz (NIn.ofb (HOKL9.out.ext (Ext.refl _).drew)) (HOKE9.out.ext (Ext.refl _).drew).ptIn.c1 (by omega)) ?_
    rintro e wb ⟨rfl, hx⟩
    have HEwb := zH (show Ext w9 wb from ((Ext.refl w9).drew).trans hx)
    clear hx
    refine ⟨_, rfl, HEwb.out, ?_⟩
    try simp only [Act.put, zA, zB, zC]
    clear hzz
    have HEb := zH (HEw9.out.trans HEwb.out)
    have HOSc := zH (HOS.out.ext HEb.out)
    have HSSc := zH (HSS.out.ext HEb.out)
    have HOKEc := zH (HOKE.out.ext HEb.out)
    have HBXc := zH (HBX.out.ext HEb.out)
    have HXc := zH (HX.out.trans HEb.out)
    have HZc := zH (Nat.le_trans HZ8.out HEb.out.size)
    by_cases c2 : l.q < e.q
    ·have hz2 : z2 < 0 := hzl.2 c2
     clear hzl
     refine zv 9 (bs 10 1023) HEwb.out ?_
     refine wpAnyH_done (by kernel_rfl) ?_ _
     have HSTEP2 := zH (HST2.out.trans (if_pos c2))
     clear c2
     go_upto_region 17 with fail
     refine wp_region_lit ?_
     refine qV (.slice (some ⟨g6, 0, none⟩) (m + 1) c6) ?_
     refine zq (.int .i64 ((m : Int) + 1)) ?_
     refine qV (.int .i64 m) ?_
     refine zq (.pointer (some ⟨X8, 4, none⟩)) ?_
     refine wpList_if (by rfl) (wp_load_mid _ _ (by rfl) X8 (4) (by rfl) [.bool e.b.n, .slice e.b.p e.b.l e.b.c, .bool e.b.m, .slice e.b.p2 e.b.l2 e.b.c2] _ (show World.rangeAt wb X8 4 [.bool e.b.n, .slice e.b.p e.b.l e.b.c, .bool e.b.m, .slice e.b.p2 e.b.l2 e.b.c2] from HBXc.out.part 4 4) Tryz.underlying27 (by rfl) (by kernel_rfl) ?_)
     try simp only [Act.put, zA, zB, zC]
     refine qV (.pointer (some ⟨g6, m * 8, none⟩)) ?_
     refine zq (.pointer (some ⟨g6, m * 8 + 4, none⟩)) ?_
     obtain ⟨t1, t2, t3⟩ := HOSc.out.turn HM.out HOKEc.out
     obtain ⟨csr, hbr, hnr⟩ := HOSc.out.rowNoU
     refine wpList_if (by rfl) (wp_store_mid 27 _ _ (by rfl) g6 (m * 8 + 4) [.bool e.b.n, .slice e.b.p e.b.l e.b.c, .bool e.b.m, .slice e.b.p2 e.b.l2 e.b.c2].toArray (by rfl) (by rfl) t1 (by kernel_rfl) (all_oneCell_toArray (by simp [Value.oneCell'])) ?_)
     (try simp only [Act.put])
     have HSN := zH t2
     have hgb : w.heap.size ≤ g6 := HOSc.out.1.block g6 (by simp [Value.ownBlock])
     have HXn := zH (t3.ext HXc.out hgb)
     have HSSn := zH (HSSc.out.grown (row := some g6) t3 (fun j hj hj2 => by injection hj2 with hj2; have h7 := HFR.out.1 j (by simp [Value.ownBlock, hj2]); have h8 := HSSB.out j hj; omega) (fun r q h => h.own hbr hnr t3))
     have HZn := zH (Nat.le_trans (Nat.le_trans HFR.out.2.1 HZc.out) t3.size)
     clear t1 t2 t3 hbr hnr hgb
     generalize World.setCells wb g6 (m * 8 + 4) _ = wn at *
     go_wp2_with fail
     go_roundg (ss.length - (k + 1))
     case measure => have := HLT.out; omega
     case rel => exact ⟨k + 1, os ++ [⟨l.a, e.b, l.p, e.q⟩], _, HLT.out, rfl, by go_num, rfl, HSN.out, by rw [HSTEP2.out]; simp [SpE.vl], by have := HFR.out.2.2; simp at this ⊢ <;> omega, HSSn.out, HFR.out.1, HXn.out, HZn.out⟩
    have hz2 : ¬ z2 < 0 := fun h => c2 (hzl.1 h)
    clear hzl
    refine zv 9 (bs 10 1023) HEwb.out ?_
    refine wpAnyH_done (by kernel_rfl) ?_ _
    have HSTEP2 := zH (HST2.out.trans (if_neg c2))
    clear c2
    go_wp2_with fail
    go_roundg (ss.length - (k + 1))
    case measure => have := HLT.out; omega
    case rel => exact ⟨k + 1, os ++ [l], _, HLT.out, rfl, by go_num, rfl, (by have h := HOSc.out; exact h), by rw [HSTEP2.out, List.map_append]; rfl, by have := HFR.out.2.2; omega, HSSc.out, HFR.out.1, HXc.out, Nat.le_trans HFR.out.2.1 HZc.out⟩
   obtain rfl : k = ss.length := by omega
   have hge2 : ¬ (ss.length : Int) < (ss.length : Int) := by omega
   have HR := zH (show os.map SpE.vl = mergeV ps by rw [hov, List.take_of_length_le (by rw [← HVAL.out, List.length_map]; exact Nat.le_refl _)]; rfl)
   have HOS := zH hos
   have HX2 := zH hx
   have HLE := zH (show os.length ≤ ps.length by have := HSL.out; omega)
   clear hos hov hok hss hfar hx hwz
   go_wp2_with fail
   go_ret
   exact ⟨_, rfl, os, HOS.out, HR.out, HLE.out, HX2.out⟩
end Go.Proofs.YtmgibncehlpfkaaGreat
