/- Contracts that the claim stands on: XSrtS1 to XSubP. -/
import Derived.Deep.DeepCutAuto
import Derived.Deep.LoopGhost
import Derived.Test.YtaeeeailoiioaabGreatM3
namespace Go.Proofs.YtaeeeailoiioaabGreat.spn
open Go.RowKit
attribute [local go_sem ↓] Go.wp_at_zero Go.wp_at_succ run_max_ii run_min_ii

set_option maxRecDepth 20000 in
set_option maxHeartbeats 4000000 in
theorem swapRange_any {α : Type} (enc : α → List Value) (hk : ∀ x, (enc x).length = 8) (h1 : ∀ x, ∀ v, v ∈ enc x → v.oneCell' = true) (w0 w : World) (g cap a b n : Nat) (T : TypeId) (rest : List Value) (xs : List α) (cb : Value) (hst : Sw w0 w g T enc rest xs) (ha : a + n ≤ xs.length) (hb : b + n ≤ xs.length) (hsz : xs.length ≤ 100000) :
  Calls Tryz.prog 134 #[.slice (some ⟨g, 0, none⟩) xs.length cap, .int .i64 a, .int .i64 b, .int .i64 n, cb] w fun e w' => e = .returned (.tuple #[]) ∧ Sw w0 w' g T enc rest (swpN xs a b n) := by
 have HST0 := zH hst
 clear hst
 go_enter Tryz.func134, Tryz.ntmps134
 go_wp2_with fail
 go_loopg [10] n (fun c i wr => ∃ t : Nat, t ≤ n ∧ c = n - t ∧ i = .int .i64 t ∧ Sw w0 wr g T enc rest (swpN xs a b t))
 case atStart => exact ⟨0, Nat.zero_le _, rfl, rfl, HST0.out⟩
 case round =>
  clear HST0
  obtain ⟨t, ht, rfl, rfl, hst⟩ := hrel
  by_cases hlt : t < n
  ·have hlt2 : (t : Int) < (n : Int) := by omega
   obtain ⟨i, hi⟩ : ∃ i, i = a + t := ⟨_, rfl⟩
   obtain ⟨j, hj⟩ : ∃ j, j = b + t := ⟨_, rfl⟩
   have e1 : (a : Int) + (t : Int) = (i : Int) := by omega
   have e2 : (b : Int) + (t : Int) = (j : Int) := by omega
   have HI := zH hi
   have HJ := zH hj
   have hnl : (swpN xs a b t).length = xs.length := swpN_len _ _ _ _
   have HSW := zH (swpN_succ xs a b t)
   rw [← hi, ← hj] at HSW
   have k1_ : i < xs.length := by omega
   have k2_ : j < xs.length := by omega
   clear hi hj
   generalize swpN xs a b t = ys at *
   have wi : IntKind.i64.wrap (i : Int) = (i : Int) := by rw [IntKind.wrap_i64]; omega
   have wj : IntKind.i64.wrap (j : Int) = (j : Int) := by rw [IntKind.wrap_i64]; omega
   have bi : (i : Int) < (xs.length : Int) := by omega
   have bj : (j : Int) < (xs.length : Int) := by omega
   have bi2 : i < xs.length := by omega
   have bj2 : j < xs.length := by omega
   have hN : (xs.length : Int) ≤ 100000 := by omega
   obtain ⟨x, hx⟩ : ∃ x, ys[i]? = some x := ⟨_, List.getElem?_eq_getElem (by omega)⟩
   obtain ⟨y, hy⟩ : ∃ y, ys[j]? = some y := ⟨_, List.getElem?_eq_getElem (by omega)⟩
   have Hx := zH hx
   have Hy := zH hy
   have HLi := zH (show i < ys.length by omega)
   have HLj := zH (show j < ys.length by omega)
   have HE := zH (swp_eq hx hy)
   have HST := zH hst
   clear hx hy hst
   go_upto_region 3 with fail
   refine wp_region_held_drew (S := fun x => Own g wr x) (by kernel_rfl) (Own.refl _ _).drew (fun _ => ?_)
   refine zv 0 (bs 24 1) (Own.refl _ _).drew ?_
   refine zv 1 (bs 24 3) (Own.refl _ _).drew ?_
   refine zv 2 (bs 24 7) (Own.refl _ _).drew ?_
   refine zv 3 (bs 24 15) (Own.refl _ _).drew ?_
   refine zv 4 (bs 24 31) (Own.refl _ _).drew ?_
   refine zv 5 (bs 24 63) (Own.refl _ _).drew ?_
   refine zv 6 (bs 24 127) (Own.refl _ _).drew ?_
   refine zv 7 (bs 24 255) (Own.refl _ _).drew ?_
   refine zv 8 (bs 24 511) (Own.refl _ _).drew ?_
   refine zv 9 (bs 24 1023) (Own.refl _ _).drew ?_
   refine zv 10 (bs 24 2047) (Own.refl _ _).drew ?_
   refine zv 11 (bs 24 4095) (Own.refl _ _).drew ?_
   refine zv 12 (bs 24 8191) (Own.refl _ _).drew ?_
   refine zv 14 (bs 24 24575) (Own.refl _ _).drew ?_
   refine zv 15 (bs 24 57343) (Own.refl _ _).drew ?_
   refine zv 16 (bs 24 122879) (Own.refl _ _).drew ?_
   refine zv 17 (bs 24 253951) (Own.refl _ _).drew ?_
   refine zv 18 (bs 24 516095) (Own.refl _ _).drew ?_
   refine md_loads2 (i := 13) (j := 19) (li := (bs 24 524287)) (lj := (bs 24 1040383)) (listed' := (bs 24 1048575)) (by rfl) (by rfl) (by kernel_rfl) (by kernel_rfl) (by kernel_rfl) (by kernel_rfl) (by kernel_rfl) (by kernel_rfl) (by kernel_rfl) 51 _ _ (by rfl) (by rfl) (by rfl) (by rfl) g (j * 8) (i * 8) (enc y) (enc x) _ Tryz.underlying51 (by rfl) (by rfl) (by rfl) (by rfl) (by rfl) (HST.out.ext (Ext.refl _).drew |>.read Hy.out hk) (HST.out.ext (Ext.refl _).drew |>.read Hx.out hk) (by rw [hk]; kernel_rfl) (by rw [hk]; kernel_rfl) (Own.refl _ _).drew (by rfl) ?_
   try simp only [Act.put, zA, zB, zC]
   refine zv 20 (bs 24 2097151) (Own.refl _ _).drew ?_
   have s1_ := (HST.out.ext (Ext.refl _).drew).put (i := i) HLi.out hk y
   have s2_ := s1_.put (i := j) (by rw [List.length_set]; exact HLj.out) hk x
   refine md_rstore (i := 21) (listed' := (bs 24 4194303)) (by rfl) (by kernel_rfl) (by rfl) 51 _ _ (by rfl) g (i * 8) (enc y) (by rfl) (by rfl) (by rw [hk]; exact (HST.out.ext (Ext.refl _).drew).there HLi.out hk) (by rw [hk]; kernel_rfl) (h1 y) (Own.setCells_l _ _ (Own.refl _ _).drew) (by kernel_rfl) ?_
   (try simp only [Act.put])
   refine zv 22 (bs 24 8388607) (Own.setCells_l _ _ (Own.refl _ _).drew) ?_
   refine md_rstore (i := 23) (listed' := (bs 24 16777215)) (by rfl) (by kernel_rfl) (by rfl) 51 _ _ (by rfl) g (j * 8) (enc x) (by rfl) (by rfl) (by rw [hk]; exact s1_.there (by rw [List.length_set]; exact HLj.out) hk) (by rw [hk]; kernel_rfl) (h1 x) (Own.setCells_l _ _ (Own.setCells_l _ _ (Own.refl _ _).drew)) (by kernel_rfl) ?_
   (try simp only [Act.put])
   refine wpAnyH_done (by kernel_rfl) ?_ _
   have HS2 := zH s2_
   clear s1_ s2_
   generalize (World.setCells _ g (j * 8) (enc x)) = w2 at *
   go_wp2_with fail
   go_roundg (n - (t + 1))
   case measure => omega
   case rel => exact ⟨t + 1, hlt, rfl, by go_num, by rw [HSW.out, HE.out]; exact HS2.out⟩
  obtain rfl : t = n := by omega
  have HST := zH hst
  have hge : ¬ (t : Int) < (t : Int) := by omega
  clear hst
  go_wp2_with fail
  go_end0
  exact ⟨rfl, HST.out⟩

set_option maxRecDepth 20000 in
set_option maxHeartbeats 4000000 in
theorem rotate_any {α : Type} (enc : α → List Value) (hk : ∀ x, (enc x).length = 8) (h1 : ∀ x, ∀ v, v ∈ enc x → v.oneCell' = true) (w0 w : World) (g cap a m b N : Nat) (T : TypeId) (rest : List Value) (P A B S : List α) (cb : Value) (hst : Sw w0 w g T enc rest (P ++ (A ++ (B ++ S)))) (ha : P.length = a) (hm : a + A.length = m) (hb : m + B.length = b) (hA : A ≠ []) (hB : B ≠ []) (hN : (P ++ (A ++ (B ++ S))).length = N) (hsz : N ≤ 100000) :
  Calls Tryz.prog 122 #[.slice (some ⟨g, 0, none⟩) N cap, .int .i64 a, .int .i64 m, .int .i64 b, cb] w fun e w' => e = .returned (.tuple #[]) ∧ Sw w0 w' g T enc rest (P ++ (B ++ (A ++ S))) := by
 have hlen : P.length + (A.length + (B.length + S.length)) = N := by rw [← hN]; simp
 have HST := zH hst
 have HAB := zH (And.intro hA hB)
 have HN := zH hN
 have HLN := zH hlen
 have HPA := zH (show P.length + A.length = m by omega)
 have e1 : (m : Int) - (a : Int) = (A.length : Int) := by omega
 have e2 : (b : Int) - (m : Int) = (B.length : Int) := by omega
 have b1 : m ≤ 100000 := by omega
 have b2 : b ≤ 100000 := by omega
 have b3 : A.length ≤ 100000 := by omega
 have b4 : B.length ≤ 100000 := by omega
 have w1_ : IntKind.i64.wrap (A.length : Int) = (A.length : Int) := by rw [IntKind.wrap_i64]; omega
 have w2_ : IntKind.i64.wrap (B.length : Int) = (B.length : Int) := by rw [IntKind.wrap_i64]; omega
 clear hst ha hm hb hA hB hN hlen
 go_enter Tryz.func122, Tryz.ntmps122
 go_wp2_with fail
 go_loopg [10, 11] (A.length + B.length) (fun c u v wr => ∃ (P' A' B' S' : List α), c = A'.length + B'.length ∧ u = .int .i64 A'.length ∧ v = .int .i64 B'.length ∧ A' ≠ [] ∧ B' ≠ [] ∧ P'.length + A'.length = m ∧ (P' ++ (A' ++ (B' ++ S'))).length = N ∧ P' ++ (B' ++ (A' ++ S')) = P ++ (B ++ (A ++ S)) ∧ Sw w0 wr g T enc rest (P' ++ (A' ++ (B' ++ S'))))
 case atStart => exact ⟨P, A, B, S, rfl, rfl, rfl, HAB.out.1, HAB.out.2, HPA.out, HN.out, rfl, HST.out⟩
 case round =>
  clear HST HAB HN HLN HPA e1 e2 b3 b4 w1_ w2_
  obtain ⟨P', A', B', S', rfl, rfl, rfl, hA, hB, hPm, hN, hT, hst⟩ := hrel
  have hlen : P'.length + (A'.length + (B'.length + S'.length)) = N := by rw [← hN]; simp
  have hA0 : 0 < A'.length := by cases A' with | nil => exact absurd rfl hA | cons _ _ => simp
  have hB0 : 0 < B'.length := by cases B' with | nil => exact absurd rfl hB | cons _ _ => simp
  have HT := zH hT
  have HST := zH hst
  have HN := zH hN
  clear hT hst hA hB hN
  obtain ⟨i, hi⟩ : ∃ i, A'.length = i := ⟨_, rfl⟩
  obtain ⟨j, hj⟩ : ∃ j, B'.length = j := ⟨_, rfl⟩
  rw [hi] at hPm hlen hA0 ⊢
  rw [hj] at hlen hB0 ⊢
  have HI := zH hi
  have HJ := zH hj
  clear hi hj
  obtain ⟨p, hp⟩ : ∃ p, P'.length = p := ⟨_, rfl⟩
  rw [hp] at hPm hlen
  have HP := zH hp
  clear hp
  have e1 : (m : Int) - (i : Int) = (p : Int) := by omega
  have b3 : i ≤ 100000 := by omega
  have b4 : j ≤ 100000 := by omega
  have b5 : p ≤ 100000 := by omega
  have w1_ : IntKind.i64.wrap (i : Int) = (i : Int) := by rw [IntKind.wrap_i64]; omega
  have w2_ : IntKind.i64.wrap (j : Int) = (j : Int) := by rw [IntKind.wrap_i64]; omega
  have w3_ : IntKind.i64.wrap (p : Int) = (p : Int) := by rw [IntKind.wrap_i64]; omega
  have HLN := zH hlen
  have HPM := zH hPm
  clear hlen hPm
  rcases Nat.lt_trichotomy i j with hij | hij | hij
  ·-- i < j
   obtain ⟨d, hd⟩ : ∃ d, d + i = j := ⟨j - i, by omega⟩
   have e2 : (j : Int) - (i : Int) = (d : Int) := by omega
   obtain ⟨q, hq⟩ : ∃ q, q = m + d := ⟨_, rfl⟩
   have e3 : (m : Int) + (j : Int) - (i : Int) = (q : Int) := by omega
   have n1 : ¬ (i : Int) = (j : Int) := by omega
   have n2 : ((i : Int) != (j : Int)) = true := by simp; omega
   have n3 : ¬ (j : Int) < (i : Int) := by omega
   have w4_ : IntKind.i64.wrap (d : Int) = (d : Int) := by rw [IntKind.wrap_i64]; omega
   have w5_ : IntKind.i64.wrap (q : Int) = (q : Int) := by rw [IntKind.wrap_i64]; have := HLN.out; have := HPM.out; omega
   have w6_ : IntKind.i64.wrap ((m : Int) + (j : Int)) = (m : Int) + (j : Int) := by rw [IntKind.wrap_i64]; omega
   have hBs : B' = B'.take d ++ B'.drop d := (List.take_append_drop d B').symm
   have l1 : (B'.take d).length = d := by rw [List.length_take]; have := HJ.out; omega
   have l2 : (B'.drop d).length = i := by rw [List.length_drop]; have := HJ.out; omega
   have HC := zH (swapRange_any enc hk h1 w0 wr g cap p q i T rest (P' ++ (A' ++ (B' ++ S'))) cb HST.out (by rw [HN.out]; have := HLN.out; omega) (by rw [HN.out]; have := HLN.out; have := HPM.out; omega) (by rw [HN.out]; exact hsz))
   rw [HN.out] at HC
   have hcut : swpN (P' ++ (A' ++ (B' ++ S'))) p q i = P' ++ (B'.drop d ++ (B'.take d ++ (A' ++ S'))) := by
    have h := swpN_cut P' A' (B'.take d) (B'.drop d) S' i HI.out l2
    rw [l1, HP.out, show p + i + d = q by have := HPM.out; omega, ← List.append_assoc (B'.take d) (B'.drop d) S', ← hBs] at h
    exact h
   rw [hcut] at HC
   have hTT : P' ++ (B'.take d ++ (B'.drop d ++ (A' ++ S'))) = P ++ (B ++ (A ++ S)) := by rw [← List.append_assoc (B'.take d), ← hBs]; exact HT.out
   have HTT := zH hTT
   have HD := zH (And.intro hd (And.intro l1 l2))
   clear hcut hTT hBs l1 l2 hd hq hij
   go_wp2_with (go_at_call 134; refine HC.out.mono ?_; rintro e w2 ⟨rfl, hs2⟩)
   go_roundg (i + d)
   case measure => have := HD.out.1; have := HI.out; have := HJ.out; omega
   case rel => exact ⟨P', B'.drop d, B'.take d, A' ++ S', by rw [HD.out.2.1, HD.out.2.2], by rw [HD.out.2.2], by rw [HD.out.2.1], by intro h; have := HD.out.2.2; rw [h] at this; simp at this; omega, by intro h; have h2 := HD.out.2.1; rw [h] at h2; simp at h2; omega, by rw [HP.out, HD.out.2.2]; exact HPM.out, by have := HLN.out; have := HD.out; simp [HP.out, HI.out, HD.out.2.1, HD.out.2.2] at *; omega, HTT.out, hs2⟩
  ·-- i = j
   subst hij
   have n2 : ((i : Int) != (i : Int)) = false := by simp
   have HC := zH (swapRange_any enc hk h1 w0 wr g cap p m i T rest (P' ++ (A' ++ (B' ++ S'))) cb HST.out (by rw [HN.out]; have := HLN.out; omega) (by rw [HN.out]; have := HLN.out; have := HPM.out; omega) (by rw [HN.out]; exact hsz))
   rw [HN.out] at HC
   have hcut : swpN (P' ++ (A' ++ (B' ++ S'))) p m i = P ++ (B ++ (A ++ S)) := by
    have h := swpN_cut P' A' [] B' S' i HI.out HJ.out
    rw [HP.out, List.length_nil, Nat.add_zero, HPM.out] at h
    exact h.trans HT.out
   rw [hcut] at HC
   clear hcut
   go_wp2_with (go_at_call 134; refine HC.out.mono ?_; rintro e w2 ⟨rfl, hs2⟩)
   go_end0
   exact ⟨rfl, hs2⟩
  -- i > j
  obtain ⟨d, hd⟩ : ∃ d, d + j = i := ⟨i - j, by omega⟩
  have e2 : (i : Int) - (j : Int) = (d : Int) := by omega
  have n2 : ((i : Int) != (j : Int)) = true := by simp; omega
  have n3 : (j : Int) < (i : Int) := by omega
  have w4_ : IntKind.i64.wrap (d : Int) = (d : Int) := by rw [IntKind.wrap_i64]; omega
  have hAs : A' = A'.take j ++ A'.drop j := (List.take_append_drop j A').symm
  have l1 : (A'.take j).length = j := by rw [List.length_take]; have := HI.out; omega
  have l2 : (A'.drop j).length = d := by rw [List.length_drop]; have := HI.out; omega
  have HC := zH (swapRange_any enc hk h1 w0 wr g cap p m j T rest (P' ++ (A' ++ (B' ++ S'))) cb HST.out (by rw [HN.out]; have := HLN.out; omega) (by rw [HN.out]; have := HLN.out; have := HPM.out; omega) (by rw [HN.out]; exact hsz))
  rw [HN.out] at HC
  have hcut : swpN (P' ++ (A' ++ (B' ++ S'))) p m j = (P' ++ B') ++ (A'.drop j ++ (A'.take j ++ S')) := by
   have h := swpN_cut P' (A'.take j) (A'.drop j) B' S' j l1 HJ.out
   rw [l2, HP.out, show p + j + d = m by have := HPM.out; omega, ← List.append_assoc (A'.take j), ← hAs] at h
   rw [h]; simp only [List.append_assoc]
  rw [hcut] at HC
  have hTT : (P' ++ B') ++ (A'.take j ++ (A'.drop j ++ S')) = P ++ (B ++ (A ++ S)) := by rw [← List.append_assoc (A'.take j), ← hAs, List.append_assoc]; exact HT.out
  have HTT := zH hTT
  have HD := zH (And.intro hd (And.intro l1 l2))
  clear hcut hTT hAs l1 l2 hd hij
  go_wp2_with (go_at_call 134; refine HC.out.mono ?_; rintro e w2 ⟨rfl, hs2⟩)
  go_roundg (d + j)
  case measure => have := HD.out.1; have := HI.out; have := HJ.out; omega
  case rel => exact ⟨P' ++ B', A'.drop j, A'.take j, S', by rw [HD.out.2.1, HD.out.2.2], by rw [HD.out.2.2], by rw [HD.out.2.1], by intro h; have h2 := HD.out.2.2; rw [h] at h2; simp at h2; omega, by intro h; have h2 := HD.out.2.1; rw [h] at h2; simp at h2; omega, by rw [List.length_append, HP.out, HJ.out, HD.out.2.2]; have := HPM.out; have := HD.out.1; omega, by have := HLN.out; have := HD.out; simp [HP.out, HJ.out, HD.out.2.1, HD.out.2.2] at *; omega, HTT.out, hs2⟩

set_option maxRecDepth 20000 in
set_option maxHeartbeats 4000000 in
theorem insertion_any {α : Type} (enc : α → List Value) (hk : ∀ x, (enc x).length = 8) (h1 : ∀ x, ∀ v, v ∈ enc x → v.oneCell' = true) (lt : α → α → Bool) (W : Stb.Wk lt) (w0 w : World) (g cap a b N : Nat) (T : TypeId) (rest : List Value) (P X S : List α) (hc : (∀ wr, Own g w0 wr → ∀ x y : α, Calls Tryz.prog 40 #[.agg (enc x).toArray, .agg (enc y).toArray] wr fun e w' => ∃ z : Int, e = .returned (.int .i64 z) ∧ (z < 0 ↔ lt x y = true) ∧ Ext wr w')) (hst : Sw w0 w g T enc rest (P ++ (X ++ S))) (ha : P.length = a) (hb : a + X.length = b) (hN : (P ++ (X ++ S)).length = N) (hsz : N ≤ 100000) :
  Calls Tryz.prog 94 #[.slice (some ⟨g, 0, none⟩) N cap, .int .i64 a, .int .i64 b, .func (.func 40) #[] #[]] w fun e w' => e = .returned (.tuple #[]) ∧ Sw w0 w' g T enc rest (P ++ (Stb.stab lt X ++ S)) := by
 have hlen : P.length + (X.length + S.length) = N := by rw [← hN]; simp
 have HC := zH hc
 have HST0 := zH (show Sw w0 w g T enc rest (P ++ (Stb.stab lt (X.take 1) ++ (X.drop 1 ++ S))) by rw [Stb.stab_take1, ← List.append_assoc (X.take 1), List.take_append_drop]; exact hst)
 have b1 : a ≤ 100000 := by omega
 have b2 : b ≤ 100000 := by omega
 have HPA := zH ha
 have HLN := zH hlen
 have HB := zH hb
 clear hst hc ha hb hN hlen
 go_enter Tryz.func94, Tryz.ntmps94
 go_wp2_with fail
 go_loopg [8] (b + 1 - a) (fun c v wr => ∃ t i : Nat, 1 ≤ t ∧ (t ≤ X.length ∨ t = 1) ∧ i = a + t ∧ c = b + 1 - i + 1 ∧ v = .int .i64 i ∧ Sw w0 wr g T enc rest (P ++ (Stb.stab lt (X.take t) ++ (X.drop t ++ S))))
 case atStart => exact ⟨1, a + 1, Nat.le_refl _, Or.inr rfl, rfl, by have := HB.out; omega, by go_num, HST0.out⟩
 case round =>
  clear HST0
  obtain ⟨t, i, ht1, ht2, hi, rfl, rfl, hst⟩ := hrel
  have hbb := HB.out
  have hib : i ≤ 100001 := by have := HLN.out; have := HPA.out; omega
  by_cases hlt : i < b
  ·have hlt2 : (i : Int) < (b : Int) := by omega
   have htl : t < X.length := by omega
   obtain ⟨y, hy⟩ : ∃ y, X[t] = y := ⟨_, rfl⟩
   have hdr : X.drop t = y :: X.drop (t + 1) := by rw [← hy]; exact List.drop_eq_getElem_cons htl
   have htk : X.take (t + 1) = X.take t ++ [y] := by rw [List.take_succ_eq_append_getElem htl, hy]
   have HSN := zH (show Stb.stab lt (X.take (t + 1)) = Stb.ins lt (Stb.stab lt (X.take t)) y by rw [htk, Stb.stab_snoc])
   have HSRT := zH (Stb.stab_srt W (X.take t))
   have hLl : (Stb.stab lt (X.take t)).length = t := by rw [Stb.stab_len, List.length_take]; omega
   rw [hdr] at hst
   generalize Stb.stab lt (X.take t) = L at *
   have HLL := zH hLl
   have HTL := zH htl
   have HI := zH hi
   have HST1 := zH (show Sw w0 wr g T enc rest (P ++ (L.take t ++ y :: (L.drop t ++ (X.drop (t + 1) ++ S)))) by rw [List.take_of_length_le (by omega), List.drop_of_length_le (by omega)]; exact hst)
   clear hst hdr htk hy hLl hi ht2 hbb
   go_wp2_with fail
   go_loopg [9] t (fun c v wr => ∃ u j : Nat, u ≤ t ∧ c = 0 + u ∧ j = a + u ∧ v = .int .i64 j ∧ (∀ z, z ∈ L.drop u → lt y z = true) ∧ Sw w0 wr g T enc rest (P ++ (L.take u ++ y :: (L.drop u ++ (X.drop (t + 1) ++ S)))))
   case atStart => exact ⟨t, i, Nat.le_refl _, by omega, HI.out, rfl, by intro z hz; rw [List.drop_of_length_le (by have := HLL.out; omega)] at hz; simp at hz, HST1.out⟩
   case round =>
    clear HST1
    obtain ⟨u, j, hu, rfl, hj, rfl, hall, hst⟩ := hrel
    have HALL := zH hall
    have HST := zH hst
    have hjb : j ≤ 100000 := by have := HI.out; omega
    have wj : IntKind.i64.wrap (j : Int) = (j : Int) := by rw [IntKind.wrap_i64]; omega
    have hlu : (P ++ (L.take u ++ y :: (L.drop u ++ (X.drop (t + 1) ++ S)))).length = N := by
     have h1 := HLN.out; have h2 := HTL.out; have h3 := HLL.out
     simp; omega
    have HJ := zH hj
    have HU := zH hu
    clear hall hst
    by_cases hu0 : 0 < u
    ·obtain ⟨p, hp⟩ : ∃ p, p + 1 = j := ⟨j - 1, by omega⟩
     obtain ⟨q, hq⟩ : ∃ q, q + 1 = u := ⟨u - 1, by omega⟩
     have hja : (a : Int) < (j : Int) := by omega
     have e1 : (j : Int) - 1 = (p : Int) := by omega
     have wp : IntKind.i64.wrap (p : Int) = (p : Int) := by rw [IntKind.wrap_i64]; omega
     have hPa := HPA.out
     have hql : q < L.length := by have := HLL.out; omega
     have gx : (P ++ (L.take u ++ y :: (L.drop u ++ (X.drop (t + 1) ++ S))))[p]? = some L[q] := by
      have h := get_mid P (L.take u) (y :: (L.drop u ++ (X.drop (t + 1) ++ S))) q (by rw [List.length_take]; omega)
      rw [show P.length + q = p by omega] at h
      rw [h, List.getElem?_take, if_pos (by omega)]
      exact List.getElem?_eq_getElem hql
     have gy : (P ++ (L.take u ++ y :: (L.drop u ++ (X.drop (t + 1) ++ S))))[j]? = some y := by
      rw [List.getElem?_append_right (by omega), List.getElem?_append_right (by rw [List.length_take]; omega), List.length_take, show j - P.length - min u L.length = 0 by have := HLL.out; omega]
      rfl
     have HSTEP := zH (show swp (P ++ (L.take u ++ y :: (L.drop u ++ (X.drop (t + 1) ++ S)))) j p = P ++ (L.take q ++ y :: (L.drop q ++ (X.drop (t + 1) ++ S))) by
      have h := swps_left P L (X.drop (t + 1) ++ S) y q hql
      rw [show P.length + q = p by omega, hp, hq] at h
      exact h)
     have HQX := zH (show ∀ z, z ∈ L.drop q → z = L[q] ∨ z ∈ L.drop u by
      intro z hz
      rw [List.drop_eq_getElem_cons hql, hq] at hz
      simpa using hz)
     have HINS := zH (fun h => Stb.ins_stop W (y := y) HSRT.out HALL.out (by have := HLL.out; omega) (Or.inr ⟨q, hq, hql, h⟩))
     have bj : (j : Int) < (N : Int) := by rw [← hlu]; have := (List.getElem?_eq_some_iff.1 gy).1; omega
     have bp : (p : Int) < (N : Int) := by omega
     have HE := zH (swp_eq gy gx)
     have HLj := zH (List.getElem?_eq_some_iff.1 gy).1
     have HLp := zH (List.getElem?_eq_some_iff.1 gx).1
     have Hx := zH gx
     have Hy := zH gy
     generalize L[q] = x at *
     generalize hrow : P ++ (L.take u ++ y :: (L.drop u ++ (X.drop (t + 1) ++ S))) = row at *
     have HQ := zH (And.intro hq hp)
     have HROW := zH hrow
     clear gx gy hql hu hq hp hj hPa hrow
     go_upto_region 4 with fail
     refine wp_region_held_drew (S := fun x => Ext wr x) (by kernel_rfl) (Ext.refl _).drew (fun _ => ?_)
     refine zv 0 (bs 17 1) (Ext.refl _).drew ?_
     refine zv 1 (bs 17 3) (Ext.refl _).drew ?_
     refine zv 2 (bs 17 7) (Ext.refl _).drew ?_
     refine zv 3 (bs 17 15) (Ext.refl _).drew ?_
     refine zv 4 (bs 17 31) (Ext.refl _).drew ?_
     refine zv 5 (bs 17 63) (Ext.refl _).drew ?_
     refine zv 6 (bs 17 127) (Ext.refl _).drew ?_
     refine zv 7 (bs 17 255) (Ext.refl _).drew ?_
     refine md_range (i := 8) (listed' := (bs 17 511)) (by rfl) (by kernel_rfl) (by kernel_rfl) (by kernel_rfl) _ _ (by rfl) g (j * 8) (enc y) _ (by intro _ _ _ h; exact h) (by rfl) (by rfl) (fun w1 hw1 => (HST.out.ext hw1).read Hy.out hk) Tryz.underlying51 (by rfl) (by rw [hk]; kernel_rfl) (Ext.refl _).drew (by kernel_rfl) ?_
     try simp only [Act.put, zA, zB, zC]
     refine zv 9 (bs 17 1023) (Ext.refl _).drew ?_
     refine zv 10 (bs 17 2047) (Ext.refl _).drew ?_
     refine zv 11 (bs 17 4095) (Ext.refl _).drew ?_
     refine zv 12 (bs 17 8191) (Ext.refl _).drew ?_
     refine md_range (i := 13) (listed' := (bs 17 16383)) (by rfl) (by kernel_rfl) (by kernel_rfl) (by kernel_rfl) _ _ (by rfl) g (p * 8) (enc x) _ (by intro _ _ _ h; exact h) (by rfl) (by rfl) (fun w1 hw1 => (HST.out.ext hw1).read Hx.out hk) Tryz.underlying51 (by rfl) (by rw [hk]; kernel_rfl) (Ext.refl _).drew (by kernel_rfl) ?_
     try simp only [Act.put, zA, zB, zC]
     refine mC 14 (bs 17 32767) (HC.out _ ((HST.out.ext (Ext.refl _).drew).own) y x) ?_
     rintro e w2 ⟨z, rfl, hz, hx2⟩
     have HX2 := zH (show Ext wr w2 from (Ext.refl _).drew.trans hx2)
     clear hx2
     refine ⟨_, rfl, HX2.out, ?_⟩
     try simp only [Act.put, zA, zB, zC]
     by_cases hlt : lt y x = true
     ·have HLT := zH hlt
      have hz2 : z < 0 := hz.2 hlt
      have hz3 : decide (z < 0) = true := by simpa using hz2
      clear hz
      refine zv 15 (bs 17 65535) HX2.out ?_
      refine zv 16 (bs 17 131071) HX2.out ?_
      refine wpAnyH_done (by kernel_rfl) ?_ _
      clear hlt hz2 hz3
      have HST := zH (HST.out.ext HX2.out)
      clear HX2
      have hN2 : row.length = N := hlu
      generalize w2 = wr at *
      go_upto_region 6 with fail
      refine wp_region_held_drew (S := fun x => Own g wr x) (by kernel_rfl) (Own.refl _ _).drew (fun _ => ?_)
      refine zv 0 (bs 18 1) (Own.refl _ _).drew ?_
      refine zv 1 (bs 18 3) (Own.refl _ _).drew ?_
      refine zv 2 (bs 18 7) (Own.refl _ _).drew ?_
      refine zv 3 (bs 18 15) (Own.refl _ _).drew ?_
      refine zv 4 (bs 18 31) (Own.refl _ _).drew ?_
      refine zv 5 (bs 18 63) (Own.refl _ _).drew ?_
      refine zv 6 (bs 18 127) (Own.refl _ _).drew ?_
      refine zv 7 (bs 18 255) (Own.refl _ _).drew ?_
      refine zv 8 (bs 18 511) (Own.refl _ _).drew ?_
      refine zv 10 (bs 18 1535) (Own.refl _ _).drew ?_
      refine zv 11 (bs 18 3583) (Own.refl _ _).drew ?_
      refine zv 12 (bs 18 7679) (Own.refl _ _).drew ?_
      refine md_loads2 (i := 9) (j := 13) (li := (bs 18 8191)) (lj := (bs 18 15871)) (listed' := (bs 18 16383)) (by rfl) (by rfl) (by kernel_rfl) (by kernel_rfl) (by kernel_rfl) (by kernel_rfl) (by kernel_rfl) (by kernel_rfl) (by kernel_rfl) 51 _ _ (by rfl) (by rfl) (by rfl) (by rfl) g (p * 8) (j * 8) (enc x) (enc y) _ Tryz.underlying51 (by rfl) (by rfl) (by rfl) (by rfl) (by rfl) (HST.out.ext (Ext.refl _).drew |>.read Hx.out hk) (HST.out.ext (Ext.refl _).drew |>.read Hy.out hk) (by rw [hk]; kernel_rfl) (by rw [hk]; kernel_rfl) (Own.refl _ _).drew (by rfl) ?_
      try simp only [Act.put, zA, zB, zC]
      refine zv 14 (bs 18 32767) (Own.refl _ _).drew ?_
      have s1_ := (HST.out.ext (Ext.refl _).drew).put (i := j) HLj.out hk x
      have s2_ := s1_.put (i := p) (by rw [List.length_set]; exact HLp.out) hk y
      refine md_rstore (i := 15) (listed' := (bs 18 65535)) (by rfl) (by kernel_rfl) (by rfl) 51 _ _ (by rfl) g (j * 8) (enc x) (by rfl) (by rfl) (by rw [hk]; exact (HST.out.ext (Ext.refl _).drew).there HLj.out hk) (by rw [hk]; kernel_rfl) (h1 x) (Own.setCells_l _ _ (Own.refl _ _).drew) (by kernel_rfl) ?_
      (try simp only [Act.put])
      refine zv 16 (bs 18 131071) (Own.setCells_l _ _ (Own.refl _ _).drew) ?_
      refine md_rstore (i := 17) (listed' := (bs 18 262143)) (by rfl) (by kernel_rfl) (by rfl) 51 _ _ (by rfl) g (p * 8) (enc y) (by rfl) (by rfl) (by rw [hk]; exact s1_.there (by rw [List.length_set]; exact HLp.out) hk) (by rw [hk]; kernel_rfl) (h1 y) (Own.setCells_l _ _ (Own.setCells_l _ _ (Own.refl _ _).drew)) (by kernel_rfl) ?_
      (try simp only [Act.put])
      refine wpAnyH_done (by kernel_rfl) ?_ _
      have HS2 := zH s2_
      clear s1_ s2_
      generalize (World.setCells _ g (p * 8) (enc y)) = w3 at *
      go_wp2_with fail
      go_roundg q
      case measure => have := HQ.out.1; omega
      case rel => exact ⟨q, p, by have := HQ.out; have := HU.out; omega, by omega, by have := HQ.out; have := HJ.out; omega, rfl, fun z hz => (HQX.out z hz).elim (fun h => by rw [h]; exact HLT.out) (HALL.out z), by rw [← HSTEP.out, HE.out]; exact HS2.out⟩
     have HLT := zH (eq_false_of_ne_true hlt)
     have hz2 : ¬ z < 0 := fun h => hlt (hz.1 h)
     have hz3 : decide (z < 0) = false := by simpa using hz2
     clear hz
     refine zv 15 (bs 17 65535) HX2.out ?_
     refine zv 16 (bs 17 131071) HX2.out ?_
     refine wpAnyH_done (by kernel_rfl) ?_ _
     clear hlt hz2 hz3
     have HR := zH (show Sw w0 w2 g T enc rest (P ++ (Stb.stab lt (X.take (t + 1)) ++ (X.drop (t + 1) ++ S))) by rw [HSN.out, HINS.out HLT.out]; have h := HST.out.ext HX2.out; rw [← HROW.out] at h; simpa using h)
     go_wp2_with fail
     go_roundg (b + 1 - (i + 1) + 1)
     case measure => omega
     case rel => exact ⟨t + 1, i + 1, by omega, Or.inl HTL.out, by have := HI.out; omega, by omega, by go_num, HR.out⟩
    obtain rfl : u = 0 := by omega
    have hja : ¬ (a : Int) < (j : Int) := by omega
    have hja2 : decide ((a : Int) < (j : Int)) = false := by simpa using hja
    have HINS := zH (Stb.ins_stop W (y := y) HSRT.out HALL.out (Nat.zero_le _) (Or.inl rfl))
    go_upto_region 4 with fail
    refine wp_region_held_drew (S := fun x => Ext wr x) (by kernel_rfl) (Ext.refl _).drew (fun _ => ?_)
    refine zv 0 (bs 17 1) (Ext.refl _).drew ?_
    refine zv 1 (bs 17 3) (Ext.refl _).drew ?_
    refine zv 2 (bs 17 7) (Ext.refl _).drew ?_
    refine zv 3 (bs 17 15) (Ext.refl _).drew ?_
    refine zs 4 (bs 17 31) (Ext.refl _).drew ?_
    refine zs 5 (bs 17 63) (Ext.refl _).drew ?_
    refine zs 6 (bs 17 127) (Ext.refl _).drew ?_
    refine zs 7 (bs 17 255) (Ext.refl _).drew ?_
    refine zs 8 (bs 17 511) (Ext.refl _).drew ?_
    refine zs 9 (bs 17 1023) (Ext.refl _).drew ?_
    refine zs 10 (bs 17 2047) (Ext.refl _).drew ?_
    refine zs 11 (bs 17 4095) (Ext.refl _).drew ?_
    refine zs 12 (bs 17 8191) (Ext.refl _).drew ?_
    refine zs 13 (bs 17 16383) (Ext.refl _).drew ?_
    refine zs 14 (bs 17 32767) (Ext.refl _).drew ?_
    refine zs 15 (bs 17 65535) (Ext.refl _).drew ?_
    refine zv 16 (bs 17 131071) (Ext.refl _).drew ?_
    refine wpAnyH_done (by kernel_rfl) ?_ _
    have HR := zH (show Sw w0 wr.drew g T enc rest (P ++ (Stb.stab lt (X.take (t + 1)) ++ (X.drop (t + 1) ++ S))) by rw [HSN.out, HINS.out]; have h := HST.out.ext (Ext.refl _).drew; simpa using h)
    go_wp2_with fail
    go_roundg (b + 1 - (i + 1) + 1)
    case measure => omega
    case rel => exact ⟨t + 1, i + 1, by omega, Or.inl HTL.out, by have := HI.out; omega, by omega, by go_num, HR.out⟩
  have HST := zH (show Sw w0 wr g T enc rest (P ++ (Stb.stab lt X ++ S)) by rw [List.take_of_length_le (by omega), List.drop_of_length_le (by omega)] at hst; exact hst)
  have hge : ¬ (i : Int) < (b : Int) := by omega
  clear hst
  go_wp2_with fail
  go_end0
  exact ⟨rfl, HST.out⟩

set_option maxRecDepth 20000 in
set_option maxHeartbeats 4000000 in
theorem symA_any {α : Type} (enc : α → List Value) (hk : ∀ x, (enc x).length = 8) (h1 : ∀ x, ∀ v, v ∈ enc x → v.oneCell' = true) (lt : α → α → Bool) (W : Stb.Wk lt) (w0 w : World) (g cap a m b N : Nat) (T : TypeId) (rest : List Value) (P B S : List α) (x : α) (hc : (∀ wr, Own g w0 wr → ∀ x y : α, Calls Tryz.prog 40 #[.agg (enc x).toArray, .agg (enc y).toArray] wr fun e w' => ∃ z : Int, e = .returned (.int .i64 z) ∧ (z < 0 ↔ lt x y = true) ∧ Ext wr w')) (hst : Sw w0 w g T enc rest (P ++ (x :: (B ++ S)))) (ha : P.length = a) (hm : a + 1 = m) (hb : m + B.length = b) (hB : Stb.Srt lt B) (hN : (P ++ (x :: (B ++ S))).length = N) (hsz : N ≤ 100000) :
  Calls Tryz.prog 95 #[.slice (some ⟨g, 0, none⟩) N cap, .int .i64 a, .int .i64 m, .int .i64 b, .func (.func 40) #[] #[]] w fun e w' => e = .returned (.tuple #[]) ∧ Sw w0 w' g T enc rest (P ++ (Stb.mrg lt [x] B ++ S)) := by
 have hlen : P.length + (1 + (B.length + S.length)) = N := by rw [← hN]; simp; omega
 have e1 : (m : Int) - (a : Int) = 1 := by omega
 have b1 : a ≤ 100000 := by omega
 have b2 : m ≤ 100000 := by omega
 have b3 : b ≤ 100000 := by omega
 have ba : (a : Int) < (N : Int) := by omega
 have wa_ : IntKind.i64.wrap (a : Int) = (a : Int) := by rw [IntKind.wrap_i64]; omega
 have gx0 : (P ++ (x :: (B ++ S)))[a]? = some x := by rw [← ha]; simp
 have gz : ∀ t z, B[t]? = some z → (P ++ (x :: (B ++ S)))[m + t]? = some z := fun t z h => by
  have h2 := get_mid (P ++ [x]) B S t (List.getElem?_eq_some_iff.1 h).1
  rw [show (P ++ [x]).length + t = m + t by simp; omega, h] at h2
  simpa using h2
 have HC := zH hc
 have HST0 := zH hst
 have HGZ := zH gz
 have Hx := zH gx0
 have HF := zH (And.intro ha (And.intro hm (And.intro hb hlen)))
 have HN := zH hN
 have HBS := zH hB
 have hbl : m + B.length = b := hb
 have hsl : b ≤ N := by omega
 clear hst hc ha hm hb hN hlen gz gx0 hB
 go_enter Tryz.func95, Tryz.ntmps95
 go_wp2_with fail
 go_loopg [10, 11] B.length (fun c u v wr => ∃ s e i j : Nat, s ≤ e ∧ e ≤ B.length ∧ c = e - s ∧ i = m + s ∧ j = m + e ∧ u = .int .i64 i ∧ v = .int .i64 j ∧ (s = 0 ∨ ∃ z, B[s - 1]? = some z ∧ lt z x = true) ∧ (B.length ≤ e ∨ ∃ z, B[e]? = some z ∧ lt z x = false) ∧ Sw w0 wr g T enc rest (P ++ (x :: (B ++ S))))
 case atStart => exact ⟨0, B.length, m, b, Nat.zero_le _, Nat.le_refl _, by omega, rfl, by omega, rfl, rfl, Or.inl rfl, Or.inl (Nat.le_refl _), HST0.out⟩
 case round =>
  clear HST0
  obtain ⟨s, e, i, j, hse, heB, rfl, hi, hj, rfl, rfl, h1s, h2e, hst⟩ := hrel
  have HST := zH hst
  have HI := zH (And.intro hi hj)
  have H1 := zH h1s
  have H2 := zH h2e
  have bi : i ≤ 100000 := by omega
  have bj : j ≤ 100000 := by omega
  clear hst h1s h2e
  by_cases hlt0 : s < e
  ·have hij : (i : Int) < (j : Int) := by omega
   obtain ⟨ss, hss⟩ : ∃ ss, ss = i + j := ⟨_, rfl⟩
   obtain ⟨h, hh⟩ : ∃ h, h = ss / 2 := ⟨_, rfl⟩
   have e3 : (i : Int) + (j : Int) = (ss : Int) := by omega
   obtain ⟨c, hcc⟩ : ∃ c, h = m + c := ⟨h - m, by omega⟩
   have hcb : s ≤ c ∧ c < e := by omega
   have wu : IntKind.u64.wrap (ss : Int) = (ss : Int) := by rw [IntKind.wrap_u64]; omega
   have ws : IntKind.i64.wrap (ss : Int) = (ss : Int) := by rw [IntKind.wrap_i64]; omega
   have wh : IntKind.i64.wrap (h : Int) = (h : Int) := by rw [IntKind.wrap_i64]; omega
   have wuh : IntKind.u64.wrap (h : Int) = (h : Int) := by rw [IntKind.wrap_u64]; omega
   have e2 : (ss : Int) / 2 = (h : Int) := by omega
   have bh : (h : Int) < (N : Int) := by omega
   obtain ⟨z0, hz0⟩ : ∃ z, B[c]? = some z := ⟨_, List.getElem?_eq_getElem (by omega)⟩
   have Hz0 := zH (show (P ++ (x :: (B ++ S)))[h]? = some z0 by rw [hcc]; exact HGZ.out c z0 hz0)
   have HZB := zH hz0
   have HH := zH (And.intro hcc hcb)
   clear hz0 hcc hcb hss hh hi hj
   generalize hrow : P ++ (x :: (B ++ S)) = row at *
   have HROW := zH hrow
   clear hrow
   go_upto_region 5 with fail
   refine wp_region_held_drew (S := fun x => Ext wr x) (by kernel_rfl) (Ext.refl _).drew (fun _ => ?_)
   refine zv 0 (bs 11 1) (Ext.refl _).drew ?_
   refine zv 1 (bs 11 3) (Ext.refl _).drew ?_
   refine zv 2 (bs 11 7) (Ext.refl _).drew ?_
   refine zv 3 (bs 11 15) (Ext.refl _).drew ?_
   refine md_range (i := 4) (listed' := (bs 11 31)) (by rfl) (by kernel_rfl) (by kernel_rfl) (by kernel_rfl) _ _ (by rfl) g (h * 8) (enc z0) _ (by intro _ _ _ h; exact h) (by rfl) (by rfl) (fun w1 hw1 => (HST.out.ext hw1).read Hz0.out hk) Tryz.underlying51 (by rfl) (by rw [hk]; kernel_rfl) (Ext.refl _).drew (by kernel_rfl) ?_
   try simp only [Act.put, zA, zB, zC]
   refine zv 5 (bs 11 63) (Ext.refl _).drew ?_
   refine zv 6 (bs 11 127) (Ext.refl _).drew ?_
   refine zv 7 (bs 11 255) (Ext.refl _).drew ?_
   refine md_range (i := 8) (listed' := (bs 11 511)) (by rfl) (by kernel_rfl) (by kernel_rfl) (by kernel_rfl) _ _ (by rfl) g (a * 8) (enc x) _ (by intro _ _ _ h; exact h) (by rfl) (by rfl) (fun w1 hw1 => (HST.out.ext hw1).read Hx.out hk) Tryz.underlying51 (by rfl) (by rw [hk]; kernel_rfl) (Ext.refl _).drew (by kernel_rfl) ?_
   try simp only [Act.put, zA, zB, zC]
   refine mC 9 (bs 11 1023) (HC.out _ ((HST.out.ext (Ext.refl _).drew).own) z0 x) ?_
   rintro e w2 ⟨z, rfl, hz, hx2⟩
   have HX2 := zH (show Ext wr w2 from (Ext.refl _).drew.trans hx2)
   clear hx2
   refine ⟨_, rfl, HX2.out, ?_⟩
   try simp only [Act.put, zA, zB, zC]
   by_cases hlt : lt z0 x = true
   ·have HLT := zH hlt
    have hz2 : z < 0 := hz.2 hlt
    have hz3 : decide (z < 0) = true := by simpa using hz2
    clear hz
    refine zv 10 (bs 11 2047) HX2.out ?_
    refine wpAnyH_done (by kernel_rfl) ?_ _
    clear hlt hz2 hz3
    have HST := zH (HST.out.ext HX2.out)
    go_wp2_with fail
    go_roundg (e - (c + 1))
    case measure => have := HH.out; omega
    case rel => exact ⟨c + 1, e, h + 1, j, by have := HH.out; omega, heB, rfl, by have := HH.out; omega, HI.out.2, by go_num, rfl, Or.inr ⟨z0, HZB.out, HLT.out⟩, H2.out, HST.out⟩
   have HLT := zH (eq_false_of_ne_true hlt)
   have hz2 : ¬ z < 0 := fun h => hlt (hz.1 h)
   have hz3 : decide (z < 0) = false := by simpa using hz2
   clear hz
   refine zv 10 (bs 11 2047) HX2.out ?_
   refine wpAnyH_done (by kernel_rfl) ?_ _
   clear hlt hz2 hz3
   have HST := zH (HST.out.ext HX2.out)
   go_wp2_with fail
   go_roundg (c - s)
   case measure => have := HH.out; omega
   case rel => exact ⟨s, c, i, h, by have := HH.out; omega, by have := HH.out; omega, rfl, HI.out.1, by have := HH.out; omega, rfl, rfl, H1.out, Or.inr ⟨z0, HZB.out, HLT.out⟩, HST.out⟩
  obtain rfl : s = e := by omega
  have hij : ¬ (i : Int) < (j : Int) := by omega
  have HM := zH (Stb.one_left W HBS.out H1.out H2.out)
  obtain ⟨im, him⟩ : ∃ im, im + 1 = i := ⟨i - 1, by have := HF.out; omega⟩
  have e4 : (i : Int) - 1 = (im : Int) := by omega
  have wim : IntKind.i64.wrap (im : Int) = (im : Int) := by rw [IntKind.wrap_i64]; omega
  have HIM := zH him
  clear hi hj him Hx
  go_wp2_with fail
  go_loopg [13] s (fun c v wr => ∃ t k : Nat, t ≤ s ∧ c = s - t ∧ k = a + t ∧ v = .int .i64 k ∧ Sw w0 wr g T enc rest (P ++ (B.take t ++ x :: (B.drop t ++ S))))
  case atStart => exact ⟨0, a, Nat.zero_le _, rfl, rfl, rfl, by simpa using HST.out⟩
  case round =>
   clear HST
   obtain ⟨t, k0, hts, rfl, hk0, rfl, hst⟩ := hrel
   by_cases hlt : t < s
   ·have hF := HF.out
    have hI := HI.out
    have hIM := HIM.out
    have hki : (k0 : Int) < (im : Int) := by omega
    obtain ⟨k1, hk1⟩ : ∃ k1, k1 = k0 + 1 := ⟨_, rfl⟩
    have e5 : (k0 : Int) + 1 = (k1 : Int) := by omega
    have wk : IntKind.i64.wrap (k1 : Int) = (k1 : Int) := by rw [IntKind.wrap_i64]; omega
    have wk0 : IntKind.i64.wrap (k0 : Int) = (k0 : Int) := by rw [IntKind.wrap_i64]; omega
    have bk1 : (k1 : Int) < (N : Int) := by omega
    have bk0 : (k0 : Int) < (N : Int) := by omega
    have htB : t < B.length := by omega
    have hsw := swps_right P B S x t htB
    rw [show P.length + t = k0 by omega, ← hk1] at hsw
    have hrl : (P ++ (B.take t ++ x :: (B.drop t ++ S))).length = N := by simp; omega
    have gx : (P ++ (B.take t ++ x :: (B.drop t ++ S)))[k0]? = some x := by
     rw [List.getElem?_append_right (by omega), List.getElem?_append_right (by rw [List.length_take]; omega), List.length_take, show k0 - P.length - min t B.length = 0 by omega]
     rfl
    obtain ⟨z0, hz0⟩ : ∃ z, (P ++ (B.take t ++ x :: (B.drop t ++ S)))[k1]? = some z := ⟨_, List.getElem?_eq_getElem (by omega)⟩
    have HE := zH ((swp_eq gx hz0).symm.trans hsw)
    have Hx := zH gx
    have Hz0 := zH hz0
    have HLk0 := zH (List.getElem?_eq_some_iff.1 gx).1
    have HLk1 := zH (List.getElem?_eq_some_iff.1 hz0).1
    have HST := zH hst
    generalize P ++ (B.take t ++ x :: (B.drop t ++ S)) = row at *
    have HK := zH (And.intro hk0 hk1)
    clear gx hz0 hsw hst hF hI hIM hk0 hk1
    go_upto_region 11 with fail
    refine wp_region_held_drew (S := fun x => Own g wr x) (by kernel_rfl) (Own.refl _ _).drew (fun _ => ?_)
    refine zv 0 (bs 18 1) (Own.refl _ _).drew ?_
    refine zv 1 (bs 18 3) (Own.refl _ _).drew ?_
    refine zv 2 (bs 18 7) (Own.refl _ _).drew ?_
    refine zv 3 (bs 18 15) (Own.refl _ _).drew ?_
    refine zv 4 (bs 18 31) (Own.refl _ _).drew ?_
    refine zv 5 (bs 18 63) (Own.refl _ _).drew ?_
    refine zv 6 (bs 18 127) (Own.refl _ _).drew ?_
    refine zv 7 (bs 18 255) (Own.refl _ _).drew ?_
    refine zv 8 (bs 18 511) (Own.refl _ _).drew ?_
    refine zv 10 (bs 18 1535) (Own.refl _ _).drew ?_
    refine zv 11 (bs 18 3583) (Own.refl _ _).drew ?_
    refine zv 12 (bs 18 7679) (Own.refl _ _).drew ?_
    refine md_loads2 (i := 9) (j := 13) (li := (bs 18 8191)) (lj := (bs 18 15871)) (listed' := (bs 18 16383)) (by rfl) (by rfl) (by kernel_rfl) (by kernel_rfl) (by kernel_rfl) (by kernel_rfl) (by kernel_rfl) (by kernel_rfl) (by kernel_rfl) 51 _ _ (by rfl) (by rfl) (by rfl) (by rfl) g (k1 * 8) (k0 * 8) (enc z0) (enc x) _ Tryz.underlying51 (by rfl) (by rfl) (by rfl) (by rfl) (by rfl) (HST.out.ext (Ext.refl _).drew |>.read Hz0.out hk) (HST.out.ext (Ext.refl _).drew |>.read Hx.out hk) (by rw [hk]; kernel_rfl) (by rw [hk]; kernel_rfl) (Own.refl _ _).drew (by rfl) ?_
    try simp only [Act.put, zA, zB, zC]
    refine zv 14 (bs 18 32767) (Own.refl _ _).drew ?_
    have s1_ := (HST.out.ext (Ext.refl _).drew).put (i := k0) HLk0.out hk z0
    have s2_ := s1_.put (i := k1) (by rw [List.length_set]; exact HLk1.out) hk x
    refine md_rstore (i := 15) (listed' := (bs 18 65535)) (by rfl) (by kernel_rfl) (by rfl) 51 _ _ (by rfl) g (k0 * 8) (enc z0) (by rfl) (by rfl) (by rw [hk]; exact (HST.out.ext (Ext.refl _).drew).there HLk0.out hk) (by rw [hk]; kernel_rfl) (h1 z0) (Own.setCells_l _ _ (Own.refl _ _).drew) (by kernel_rfl) ?_
    (try simp only [Act.put])
    refine zv 16 (bs 18 131071) (Own.setCells_l _ _ (Own.refl _ _).drew) ?_
    refine md_rstore (i := 17) (listed' := (bs 18 262143)) (by rfl) (by kernel_rfl) (by rfl) 51 _ _ (by rfl) g (k1 * 8) (enc x) (by rfl) (by rfl) (by rw [hk]; exact s1_.there (by rw [List.length_set]; exact HLk1.out) hk) (by rw [hk]; kernel_rfl) (h1 x) (Own.setCells_l _ _ (Own.setCells_l _ _ (Own.refl _ _).drew)) (by kernel_rfl) ?_
    (try simp only [Act.put])
    refine wpAnyH_done (by kernel_rfl) ?_ _
    have HS2 := zH s2_
    clear s1_ s2_
    generalize (World.setCells _ g (k1 * 8) (enc x)) = w3 at *
    go_wp2_with fail
    go_roundg (s - (t + 1))
    case measure => omega
    case rel => exact ⟨t + 1, k1, hlt, rfl, by have := HK.out; omega, rfl, by rw [← HE.out]; exact HS2.out⟩
   obtain rfl : t = s := by omega
   have HR := zH (show Sw w0 wr g T enc rest (P ++ (Stb.mrg lt [x] B ++ S)) by rw [HM.out]; simpa using hst)
   have hki : ¬ (k0 : Int) < (im : Int) := by have := HF.out; have := HI.out; have := HIM.out; omega
   clear hst
   go_wp2_with fail
   refine bodyPost_ret (results_none rfl _ _ _) rfl ?_
   exact ⟨rfl, HR.out⟩

set_option maxRecDepth 20000 in
set_option maxHeartbeats 4000000 in
theorem symB_any {α : Type} (enc : α → List Value) (hk : ∀ x, (enc x).length = 8) (h1 : ∀ x, ∀ v, v ∈ enc x → v.oneCell' = true) (lt : α → α → Bool) (W : Stb.Wk lt) (w0 w : World) (g cap a m b N : Nat) (T : TypeId) (rest : List Value) (P A S : List α) (y : α) (hc : (∀ wr, Own g w0 wr → ∀ x y : α, Calls Tryz.prog 40 #[.agg (enc x).toArray, .agg (enc y).toArray] wr fun e w' => ∃ z : Int, e = .returned (.int .i64 z) ∧ (z < 0 ↔ lt x y = true) ∧ Ext wr w')) (hst : Sw w0 w g T enc rest (P ++ (A ++ (y :: S)))) (ha : P.length = a) (hm : a + A.length = m) (hb : m + 1 = b) (hA1 : A.length ≠ 1) (hA : Stb.Srt lt A) (hN : (P ++ (A ++ (y :: S))).length = N) (hsz : N ≤ 100000) :
  Calls Tryz.prog 95 #[.slice (some ⟨g, 0, none⟩) N cap, .int .i64 a, .int .i64 m, .int .i64 b, .func (.func 40) #[] #[]] w fun e w' => e = .returned (.tuple #[]) ∧ Sw w0 w' g T enc rest (P ++ (Stb.mrg lt A [y] ++ S)) := by
 have hlen : P.length + (A.length + (1 + S.length)) = N := by rw [← hN]; simp; omega
 obtain ⟨d1, hd1⟩ : ∃ d1, a + d1 = m := ⟨A.length, hm⟩
 have e0 : (m : Int) - (a : Int) = (d1 : Int) := by omega
 have e0b : ((d1 : Int) == 1) = false := by simp; omega
 have wd : IntKind.i64.wrap (d1 : Int) = (d1 : Int) := by rw [IntKind.wrap_i64]; omega
 have e1 : (b : Int) - (m : Int) = 1 := by omega
 have b1 : a ≤ 100000 := by omega
 have b2 : m ≤ 100000 := by omega
 have b3 : b ≤ 100000 := by omega
 have ba : (m : Int) < (N : Int) := by omega
 have wa_ : IntKind.i64.wrap (m : Int) = (m : Int) := by rw [IntKind.wrap_i64]; omega
 have gy0 : (P ++ (A ++ (y :: S)))[m]? = some y := by
  rw [List.getElem?_append_right (by omega), List.getElem?_append_right (by omega), show m - P.length - A.length = 0 by omega]
  rfl
 have gz : ∀ t z, A[t]? = some z → (P ++ (A ++ (y :: S)))[a + t]? = some z := fun t z h => by
  have h2 := get_mid P A (y :: S) t (List.getElem?_eq_some_iff.1 h).1
  rw [show P.length + t = a + t by omega, h] at h2
  exact h2
 have HC := zH hc
 have HST0 := zH hst
 have HGZ := zH gz
 have Hy := zH gy0
 have HF := zH (And.intro ha (And.intro hm (And.intro hb hlen)))
 have HN := zH hN
 have HAS := zH hA
 have hbl : a + A.length = m := hm
 have hsl : m < N := by omega
 clear hst hc ha hm hb hN hlen gz gy0 hA hd1
 go_enter Tryz.func95, Tryz.ntmps95
 go_wp2_with fail
 go_loopg [14, 15] A.length (fun c u v wr => ∃ s e i j : Nat, s ≤ e ∧ e ≤ A.length ∧ c = e - s ∧ i = a + s ∧ j = a + e ∧ u = .int .i64 i ∧ v = .int .i64 j ∧ (s = 0 ∨ ∃ z, A[s - 1]? = some z ∧ lt y z = false) ∧ (A.length ≤ e ∨ ∃ z, A[e]? = some z ∧ lt y z = true) ∧ Sw w0 wr g T enc rest (P ++ (A ++ (y :: S))))
 case atStart => exact ⟨0, A.length, a, m, Nat.zero_le _, Nat.le_refl _, by omega, rfl, by omega, rfl, rfl, Or.inl rfl, Or.inl (Nat.le_refl _), HST0.out⟩
 case round =>
  clear HST0
  obtain ⟨s, e, i, j, hse, heB, rfl, hi, hj, rfl, rfl, h1s, h2e, hst⟩ := hrel
  have HST := zH hst
  have HI := zH (And.intro hi hj)
  have H1 := zH h1s
  have H2 := zH h2e
  have bi : i ≤ 100000 := by omega
  have bj : j ≤ 100000 := by omega
  clear hst h1s h2e
  by_cases hlt0 : s < e
  ·have hij : (i : Int) < (j : Int) := by omega
   obtain ⟨ss, hss⟩ : ∃ ss, ss = i + j := ⟨_, rfl⟩
   obtain ⟨h, hh⟩ : ∃ h, h = ss / 2 := ⟨_, rfl⟩
   have e3 : (i : Int) + (j : Int) = (ss : Int) := by omega
   obtain ⟨c, hcc⟩ : ∃ c, h = a + c := ⟨h - a, by omega⟩
   have hcb : s ≤ c ∧ c < e := by omega
   have wu : IntKind.u64.wrap (ss : Int) = (ss : Int) := by rw [IntKind.wrap_u64]; omega
   have ws : IntKind.i64.wrap (ss : Int) = (ss : Int) := by rw [IntKind.wrap_i64]; omega
   have wh : IntKind.i64.wrap (h : Int) = (h : Int) := by rw [IntKind.wrap_i64]; omega
   have wuh : IntKind.u64.wrap (h : Int) = (h : Int) := by rw [IntKind.wrap_u64]; omega
   have e2 : (ss : Int) / 2 = (h : Int) := by omega
   have bh : (h : Int) < (N : Int) := by omega
   obtain ⟨z0, hz0⟩ : ∃ z, A[c]? = some z := ⟨_, List.getElem?_eq_getElem (by omega)⟩
   have Hz0 := zH (show (P ++ (A ++ (y :: S)))[h]? = some z0 by rw [hcc]; exact HGZ.out c z0 hz0)
   have HZB := zH hz0
   have HH := zH (And.intro hcc hcb)
   clear hz0 hcc hcb hss hh hi hj
   generalize hrow : P ++ (A ++ (y :: S)) = row at *
   clear hrow
   go_upto_region 17 with fail
   refine wp_region_held_drew (S := fun x => Ext wr x) (by kernel_rfl) (Ext.refl _).drew (fun _ => ?_)
   refine zv 0 (bs 12 1) (Ext.refl _).drew ?_
   refine zv 1 (bs 12 3) (Ext.refl _).drew ?_
   refine zv 2 (bs 12 7) (Ext.refl _).drew ?_
   refine zv 3 (bs 12 15) (Ext.refl _).drew ?_
   refine md_range (i := 4) (listed' := (bs 12 31)) (by rfl) (by kernel_rfl) (by kernel_rfl) (by kernel_rfl) _ _ (by rfl) g (m * 8) (enc y) _ (by intro _ _ _ h; exact h) (by rfl) (by rfl) (fun w1 hw1 => (HST.out.ext hw1).read Hy.out hk) Tryz.underlying51 (by rfl) (by rw [hk]; kernel_rfl) (Ext.refl _).drew (by kernel_rfl) ?_
   try simp only [Act.put, zA, zB, zC]
   refine zv 5 (bs 12 63) (Ext.refl _).drew ?_
   refine zv 6 (bs 12 127) (Ext.refl _).drew ?_
   refine zv 7 (bs 12 255) (Ext.refl _).drew ?_
   refine md_range (i := 8) (listed' := (bs 12 511)) (by rfl) (by kernel_rfl) (by kernel_rfl) (by kernel_rfl) _ _ (by rfl) g (h * 8) (enc z0) _ (by intro _ _ _ h; exact h) (by rfl) (by rfl) (fun w1 hw1 => (HST.out.ext hw1).read Hz0.out hk) Tryz.underlying51 (by rfl) (by rw [hk]; kernel_rfl) (Ext.refl _).drew (by kernel_rfl) ?_
   try simp only [Act.put, zA, zB, zC]
   refine mC 9 (bs 12 1023) (HC.out _ ((HST.out.ext (Ext.refl _).drew).own) y z0) ?_
   rintro e w2 ⟨z, rfl, hz, hx2⟩
   have HX2 := zH (show Ext wr w2 from (Ext.refl _).drew.trans hx2)
   clear hx2
   refine ⟨_, rfl, HX2.out, ?_⟩
   try simp only [Act.put, zA, zB, zC]
   by_cases hlt : lt y z0 = true
   ·have HLT := zH hlt
    have hz2 : z < 0 := hz.2 hlt
    have hz3 : decide (z < 0) = true := by simpa using hz2
    clear hz
    refine zv 10 (bs 12 2047) HX2.out ?_
    refine zv 11 (bs 12 4095) HX2.out ?_
    refine wpAnyH_done (by kernel_rfl) ?_ _
    clear hlt hz2 hz3
    have HST := zH (HST.out.ext HX2.out)
    go_wp2_with fail
    go_roundg (c - s)
    case measure => have := HH.out; omega
    case rel => exact ⟨s, c, i, h, by have := HH.out; omega, by have := HH.out; omega, rfl, HI.out.1, by have := HH.out; omega, rfl, rfl, H1.out, Or.inr ⟨z0, HZB.out, HLT.out⟩, HST.out⟩
   have HLT := zH (eq_false_of_ne_true hlt)
   have hz2 : ¬ z < 0 := fun h => hlt (hz.1 h)
   have hz3 : decide (z < 0) = false := by simpa using hz2
   clear hz
   refine zv 10 (bs 12 2047) HX2.out ?_
   refine zv 11 (bs 12 4095) HX2.out ?_
   refine wpAnyH_done (by kernel_rfl) ?_ _
   clear hlt hz2 hz3
   have HST := zH (HST.out.ext HX2.out)
   go_wp2_with fail
   go_roundg (e - (c + 1))
   case measure => have := HH.out; omega
   case rel => exact ⟨c + 1, e, h + 1, j, by have := HH.out; omega, heB, rfl, by have := HH.out; omega, HI.out.2, by go_num, rfl, Or.inr ⟨z0, HZB.out, HLT.out⟩, H2.out, HST.out⟩
  obtain rfl : s = e := by omega
  have hij : ¬ (i : Int) < (j : Int) := by omega
  have HM := zH (Stb.one_right W HAS.out H1.out H2.out)
  clear hi hj Hy
  go_wp2_with fail
  go_loopg [17] (A.length - s) (fun c v wr => ∃ t k : Nat, s ≤ t ∧ t ≤ A.length ∧ c = t - s ∧ k = a + t ∧ v = .int .i64 k ∧ Sw w0 wr g T enc rest (P ++ (A.take t ++ y :: (A.drop t ++ S))))
  case atStart => exact ⟨A.length, m, heB, Nat.le_refl _, by omega, by omega, rfl, by simpa using HST.out⟩
  case round =>
   clear HST
   obtain ⟨t, k0, hts, htA, rfl, hk0, rfl, hst⟩ := hrel
   by_cases hlt : s < t
   ·have hF := HF.out
    have hI := HI.out
    have hki : (i : Int) < (k0 : Int) := by omega
    obtain ⟨k1, hk1⟩ : ∃ k1, k1 + 1 = k0 := ⟨k0 - 1, by omega⟩
    have e5 : (k0 : Int) - 1 = (k1 : Int) := by omega
    have wk : IntKind.i64.wrap (k1 : Int) = (k1 : Int) := by rw [IntKind.wrap_i64]; omega
    have wk0 : IntKind.i64.wrap (k0 : Int) = (k0 : Int) := by rw [IntKind.wrap_i64]; omega
    have bk1 : (k1 : Int) < (N : Int) := by omega
    have bk0 : (k0 : Int) < (N : Int) := by omega
    obtain ⟨q, hq⟩ : ∃ q, q + 1 = t := ⟨t - 1, by omega⟩
    have hsw := swps_left P A S y q (by omega)
    rw [show P.length + q = k1 by omega, hk1, hq] at hsw
    have hrl : (P ++ (A.take t ++ y :: (A.drop t ++ S))).length = N := by simp; omega
    have gx : (P ++ (A.take t ++ y :: (A.drop t ++ S)))[k0]? = some y := by
     rw [List.getElem?_append_right (by omega), List.getElem?_append_right (by rw [List.length_take]; omega), List.length_take, show k0 - P.length - min t A.length = 0 by omega]
     rfl
    obtain ⟨z0, hz0⟩ : ∃ z, (P ++ (A.take t ++ y :: (A.drop t ++ S)))[k1]? = some z := ⟨_, List.getElem?_eq_getElem (by omega)⟩
    have HE := zH ((swp_eq gx hz0).symm.trans hsw)
    have Hy := zH gx
    have Hz0 := zH hz0
    have HLk0 := zH (List.getElem?_eq_some_iff.1 gx).1
    have HLk1 := zH (List.getElem?_eq_some_iff.1 hz0).1
    have HST := zH hst
    generalize P ++ (A.take t ++ y :: (A.drop t ++ S)) = row at *
    have HK := zH (And.intro hk0 (And.intro hk1 hq))
    clear gx hz0 hsw hst hF hI hk0 hk1 hq
    go_upto_region 23 with fail
    refine wp_region_held_drew (S := fun x => Own g wr x) (by kernel_rfl) (Own.refl _ _).drew (fun _ => ?_)
    refine zv 0 (bs 18 1) (Own.refl _ _).drew ?_
    refine zv 1 (bs 18 3) (Own.refl _ _).drew ?_
    refine zv 2 (bs 18 7) (Own.refl _ _).drew ?_
    refine zv 3 (bs 18 15) (Own.refl _ _).drew ?_
    refine zv 4 (bs 18 31) (Own.refl _ _).drew ?_
    refine zv 5 (bs 18 63) (Own.refl _ _).drew ?_
    refine zv 6 (bs 18 127) (Own.refl _ _).drew ?_
    refine zv 7 (bs 18 255) (Own.refl _ _).drew ?_
    refine zv 8 (bs 18 511) (Own.refl _ _).drew ?_
    refine zv 10 (bs 18 1535) (Own.refl _ _).drew ?_
    refine zv 11 (bs 18 3583) (Own.refl _ _).drew ?_
    refine zv 12 (bs 18 7679) (Own.refl _ _).drew ?_
    refine md_loads2 (i := 9) (j := 13) (li := (bs 18 8191)) (lj := (bs 18 15871)) (listed' := (bs 18 16383)) (by rfl) (by rfl) (by kernel_rfl) (by kernel_rfl) (by kernel_rfl) (by kernel_rfl) (by kernel_rfl) (by kernel_rfl) (by kernel_rfl) 51 _ _ (by rfl) (by rfl) (by rfl) (by rfl) g (k1 * 8) (k0 * 8) (enc z0) (enc y) _ Tryz.underlying51 (by rfl) (by rfl) (by rfl) (by rfl) (by rfl) (HST.out.ext (Ext.refl _).drew |>.read Hz0.out hk) (HST.out.ext (Ext.refl _).drew |>.read Hy.out hk) (by rw [hk]; kernel_rfl) (by rw [hk]; kernel_rfl) (Own.refl _ _).drew (by rfl) ?_
    try simp only [Act.put, zA, zB, zC]
    refine zv 14 (bs 18 32767) (Own.refl _ _).drew ?_
    have s1_ := (HST.out.ext (Ext.refl _).drew).put (i := k0) HLk0.out hk z0
    have s2_ := s1_.put (i := k1) (by rw [List.length_set]; exact HLk1.out) hk y
    refine md_rstore (i := 15) (listed' := (bs 18 65535)) (by rfl) (by kernel_rfl) (by rfl) 51 _ _ (by rfl) g (k0 * 8) (enc z0) (by rfl) (by rfl) (by rw [hk]; exact (HST.out.ext (Ext.refl _).drew).there HLk0.out hk) (by rw [hk]; kernel_rfl) (h1 z0) (Own.setCells_l _ _ (Own.refl _ _).drew) (by kernel_rfl) ?_
    (try simp only [Act.put])
    refine zv 16 (bs 18 131071) (Own.setCells_l _ _ (Own.refl _ _).drew) ?_
    refine md_rstore (i := 17) (listed' := (bs 18 262143)) (by rfl) (by kernel_rfl) (by rfl) 51 _ _ (by rfl) g (k1 * 8) (enc y) (by rfl) (by rfl) (by rw [hk]; exact s1_.there (by rw [List.length_set]; exact HLk1.out) hk) (by rw [hk]; kernel_rfl) (h1 y) (Own.setCells_l _ _ (Own.setCells_l _ _ (Own.refl _ _).drew)) (by kernel_rfl) ?_
    (try simp only [Act.put])
    refine wpAnyH_done (by kernel_rfl) ?_ _
    have HS2 := zH s2_
    clear s1_ s2_
    generalize (World.setCells _ g (k1 * 8) (enc y)) = w3 at *
    go_wp2_with fail
    go_roundg (q - s)
    case measure => have := HK.out; omega
    case rel => exact ⟨q, k1, by have := HK.out; omega, by have := HK.out; omega, rfl, by have := HK.out; omega, rfl, by rw [← HE.out]; exact HS2.out⟩
   obtain rfl : t = s := by omega
   have HR := zH (show Sw w0 wr g T enc rest (P ++ (Stb.mrg lt A [y] ++ S)) by rw [HM.out]; simpa using hst)
   have hki : ¬ (i : Int) < (k0 : Int) := by have := HI.out; omega
   clear hst
   go_wp2_with fail
   refine bodyPost_ret (results_none rfl _ _ _) rfl ?_
   exact ⟨rfl, HR.out⟩

set_option maxRecDepth 20000 in
set_option maxHeartbeats 4000000 in
theorem symC_any {α : Type} (enc : α → List Value) (hk : ∀ x, (enc x).length = 8) (h1 : ∀ x, ∀ v, v ∈ enc x → v.oneCell' = true) (lt : α → α → Bool) (W : Stb.Wk lt) (w0 w : World) (g cap a m b N : Nat) (T : TypeId) (rest : List Value) (P A B S : List α) (hc : (∀ wr, Own g w0 wr → ∀ x y : α, Calls Tryz.prog 40 #[.agg (enc x).toArray, .agg (enc y).toArray] wr fun e w' => ∃ z : Int, e = .returned (.int .i64 z) ∧ (z < 0 ↔ lt x y = true) ∧ Ext wr w')) (ih : (∀ (P' A' B' S' : List α) (a m b : Nat) (wr : World), A' ≠ [] → B' ≠ [] → A'.length + B'.length < A.length + B.length → Sw w0 wr g T enc rest (P' ++ (A' ++ (B' ++ S'))) → P'.length = a → a + A'.length = m → m + B'.length = b → Stb.Srt lt A' → Stb.Srt lt B' → (P' ++ (A' ++ (B' ++ S'))).length = N → Calls Tryz.prog 95 #[.slice (some ⟨g, 0, none⟩) N cap, .int .i64 a, .int .i64 m, .int .i64 b, .func (.func 40) #[] #[]] wr fun e w' => e = .returned (.tuple #[]) ∧ Sw w0 w' g T enc rest (P' ++ (Stb.mrg lt A' B' ++ S')))) (hst : Sw w0 w g T enc rest (P ++ (A ++ (B ++ S)))) (ha : P.length = a) (hm : a + A.length = m) (hb : m + B.length = b) (hA0 : A ≠ []) (hB0 : B ≠ []) (hA1 : A.length ≠ 1) (hB1 : B.length ≠ 1) (hA : Stb.Srt lt A) (hB : Stb.Srt lt B) (hN : (P ++ (A ++ (B ++ S))).length = N) (hsz : N ≤ 100000) :
  Calls Tryz.prog 95 #[.slice (some ⟨g, 0, none⟩) N cap, .int .i64 a, .int .i64 m, .int .i64 b, .func (.func 40) #[] #[]] w fun e w' => e = .returned (.tuple #[]) ∧ Sw w0 w' g T enc rest (P ++ (Stb.mrg lt A B ++ S)) := by
 have hlen : P.length + (A.length + (B.length + S.length)) = N := by rw [← hN]; simp
 have hAl : 2 ≤ A.length := by have : A.length ≠ 0 := fun h => hA0 (List.eq_nil_of_length_eq_zero h); omega
 have hBl : 2 ≤ B.length := by have : B.length ≠ 0 := fun h => hB0 (List.eq_nil_of_length_eq_zero h); omega
 have e0 : (m : Int) - (a : Int) = (A.length : Int) := by omega
 have e1 : (b : Int) - (m : Int) = (B.length : Int) := by omega
 have e0b : ((A.length : Int) == 1) = false := by simp; omega
 have e1b : ((B.length : Int) == 1) = false := by simp; omega
 have wA : IntKind.i64.wrap (A.length : Int) = (A.length : Int) := by rw [IntKind.wrap_i64]; omega
 have wB : IntKind.i64.wrap (B.length : Int) = (B.length : Int) := by rw [IntKind.wrap_i64]; omega
 have b1 : a ≤ 100000 := by omega
 have b2 : m ≤ 100000 := by omega
 have b3 : b ≤ 100000 := by omega
 obtain ⟨ss, hss⟩ : ∃ ss, ss = a + b := ⟨_, rfl⟩
 obtain ⟨mid, hmid⟩ : ∃ mid, mid = ss / 2 := ⟨_, rfl⟩
 obtain ⟨M, hM⟩ : ∃ M, a + M = mid := ⟨mid - a, by omega⟩
 obtain ⟨n, hn⟩ : ∃ n, n = mid + m := ⟨_, rfl⟩
 obtain ⟨p, hp⟩ : ∃ p, p + 1 = n := ⟨n - 1, by omega⟩
 have e3 : (a : Int) + (b : Int) = (ss : Int) := by omega
 have wu : IntKind.u64.wrap (ss : Int) = (ss : Int) := by rw [IntKind.wrap_u64]; omega
 have ws : IntKind.i64.wrap (ss : Int) = (ss : Int) := by rw [IntKind.wrap_i64]; omega
 have wh : IntKind.i64.wrap (mid : Int) = (mid : Int) := by rw [IntKind.wrap_i64]; omega
 have wuh : IntKind.u64.wrap (mid : Int) = (mid : Int) := by rw [IntKind.wrap_u64]; omega
 have e2 : (ss : Int) / 2 = (mid : Int) := by omega
 have e4 : (mid : Int) + (m : Int) = (n : Int) := by omega
 have wn : IntKind.i64.wrap (n : Int) = (n : Int) := by rw [IntKind.wrap_i64]; omega
 have e5 : (n : Int) - 1 = (p : Int) := by omega
 have wp : IntKind.i64.wrap (p : Int) = (p : Int) := by rw [IntKind.wrap_i64]; omega
 have HC := zH hc
 have HIH := zH ih
 have HST0 := zH hst
 have HF := zH (show SymF P.length A.length B.length S.length a m b N ss mid M n p from ⟨ha, hm, hb, hlen, hAl, hBl, hss, hmid, hM, hn, hp⟩)
 have HN := zH hN
 have HS := zH (And.intro hA hB)
 clear hst hc ih ha hm hb hN hlen hA hB hA0 hB0 hA1 hB1 hAl hBl hss hmid hM hn hp
 go_enter Tryz.func95, Tryz.ntmps95
 go_upto_if 140 with fail
 go_cut [20, 21] (fun u v wx => ∃ lo hi st r0 : Nat, st = a + lo ∧ r0 = a + hi ∧ u = .int .i64 st ∧ v = .int .i64 r0 ∧ lo ≤ hi ∧ hi ≤ A.length ∧ hi ≤ M ∧ M ≤ lo + B.length ∧ (lo = 0 ∨ lo + B.length ≤ M) ∧ (A.length ≤ hi ∨ M ≤ hi) ∧ wx = w)
 case first => as_aux_lemma =>
  by_cases hmm : mid < m
  ·have h2 : (mid : Int) < (m : Int) := by omega
   obtain ⟨st, lo, k0, k9, k⟩ := sym_ar0 hsz HF.out hmm
   have e6 : (n : Int) - (b : Int) = (st : Int) := by omega
   have wst : IntKind.i64.wrap (st : Int) = (st : Int) := by rw [IntKind.wrap_i64]; omega
   have HK := zH k
   clear k k0 hmm
   go_wp2_with fail
   go_meet
   obtain ⟨k1, k2, k3, k4, k5⟩ := HK.out
   exact ⟨lo, M, st, mid, k1, k3, rfl, rfl, k4, k5, Nat.le_refl _, Nat.le_of_eq k2.symm, Or.inr (Nat.le_of_eq k2), Or.inr (Nat.le_refl _), rfl⟩
  have h2 : ¬ (mid : Int) < (m : Int) := by omega
  have HK := zH (sym_ar1 HF.out hmm)
  clear hmm
  go_wp2_with fail
  go_meet
  obtain ⟨k1, k2, k3⟩ := HK.out
  exact ⟨0, A.length, a, m, rfl, k3, rfl, rfl, Nat.zero_le _, Nat.le_refl _, k1, by rw [Nat.zero_add]; exact k2, Or.inl rfl, Or.inl (Nat.le_refl _), rfl⟩
 case rest =>
  obtain ⟨lo, hi, st, r0, hst, hr0, rfl, rfl, g1, g2, g3, g4, g5, g6, rfl⟩ := hcut
  have HG := zH (show SymG A.length B.length a M lo hi st r0 from ⟨hst, hr0, g1, g2, g3, g4⟩)
  have HGO := zH (And.intro g5 g6)
  clear hst hr0 g1 g2 g3 g4 g5 g6
  go_wp2_with fail
  go_loopg [20, 21] (hi - lo) (fun c u v wr => ∃ s e i j : Nat, lo ≤ s ∧ s ≤ e ∧ e ≤ hi ∧ c = e - s ∧ i = a + s ∧ j = a + e ∧ u = .int .i64 i ∧ v = .int .i64 j ∧ (s = lo ∨ ∃ x y, A[s - 1]? = some x ∧ B[M - s]? = some y ∧ lt y x = false) ∧ (e = hi ∨ ∃ x y, A[e]? = some x ∧ B[M - e - 1]? = some y ∧ lt y x = true) ∧ Sw w0 wr g T enc rest (P ++ (A ++ (B ++ S))))
  case atStart => exact ⟨lo, hi, st, r0, Nat.le_refl _, HG.out.2.2.1, Nat.le_refl _, rfl, HG.out.1, HG.out.2.1, rfl, rfl, Or.inl rfl, Or.inl rfl, HST0.out⟩
  case round => as_aux_lemma =>
   clear HST0
   obtain ⟨s, e, i, j, hls, hse, heh, rfl, hi_, hj_, rfl, rfl, h1s, h2e, hst⟩ := hrel
   have HST := zH hst
   have HI := zH (And.intro hi_ (And.intro hj_ (And.intro hls heh)))
   have H1 := zH h1s
   have H2 := zH h2e
   clear hst h1s h2e
   by_cases hlt0 : s < e
   ·obtain ⟨sq, h, c, ph, ⟨k1, k2, k3, k4, k5, k6, k7, k8, k9⟩, hcc, q1, q2, q3, q4⟩ := sym_ar hsz HF.out HG.out hls heh hi_ hj_ hlt0
    have hij : (i : Int) < (j : Int) := by omega
    have f3 : (i : Int) + (j : Int) = (sq : Int) := by omega
    have fu : IntKind.u64.wrap (sq : Int) = (sq : Int) := by rw [IntKind.wrap_u64]; omega
    have fs : IntKind.i64.wrap (sq : Int) = (sq : Int) := by rw [IntKind.wrap_i64]; omega
    have fh : IntKind.i64.wrap (h : Int) = (h : Int) := by rw [IntKind.wrap_i64]; omega
    have fuh : IntKind.u64.wrap (h : Int) = (h : Int) := by rw [IntKind.wrap_u64]; omega
    have f2 : (sq : Int) / 2 = (h : Int) := by omega
    have f4 : (p : Int) - (h : Int) = (ph : Int) := by omega
    have fp : IntKind.i64.wrap (ph : Int) = (ph : Int) := by rw [IntKind.wrap_i64]; omega
    have bh : (h : Int) < (N : Int) := by omega
    have bp : (ph : Int) < (N : Int) := by omega
    have bi : i ≤ 100000 := k8
    obtain ⟨x0, hx0⟩ : ∃ z, A[c]? = some z := ⟨_, List.getElem?_eq_getElem q1⟩
    obtain ⟨y0, hy0⟩ : ∃ z, B[M - c - 1]? = some z := ⟨_, List.getElem?_eq_getElem q2⟩
    have Hx0 := zH (show (P ++ (A ++ (B ++ S)))[h]? = some x0 by
     have q := get_mid P A (B ++ S) c q1
     rw [q3, hx0] at q
     exact q)
    have Hy0 := zH (show (P ++ (A ++ (B ++ S)))[ph]? = some y0 by
     have q := get_mid (P ++ A) B S (M - c - 1) q2
     rw [List.length_append, q4, hy0] at q
     simpa using q)
    have HXA := zH hx0
    have HYB := zH hy0
    have HH := zH hcc
    clear hx0 hy0 hcc hi_ hj_ k1 k2 k3 k4 q1 q2 q3 q4
    generalize hrow : P ++ (A ++ (B ++ S)) = row at *
    clear hrow
    go_upto_region 35 with fail
    refine wp_region_held_drew (S := fun x => Ext wr x) (by kernel_rfl) (Ext.refl _).drew (fun _ => ?_)
    refine zv 0 (bs 14 1) (Ext.refl _).drew ?_
    refine zv 1 (bs 14 3) (Ext.refl _).drew ?_
    refine zv 2 (bs 14 7) (Ext.refl _).drew ?_
    refine zv 3 (bs 14 15) (Ext.refl _).drew ?_
    refine zv 4 (bs 14 31) (Ext.refl _).drew ?_
    refine zv 5 (bs 14 63) (Ext.refl _).drew ?_
    refine md_range (i := 6) (listed' := (bs 14 127)) (by rfl) (by kernel_rfl) (by kernel_rfl) (by kernel_rfl) _ _ (by rfl) g (ph * 8) (enc y0) _ (by intro _ _ _ h; exact h) (by rfl) (by rfl) (fun w1 hw1 => (HST.out.ext hw1).read Hy0.out hk) Tryz.underlying51 (by rfl) (by rw [hk]; kernel_rfl) (Ext.refl _).drew (by kernel_rfl) ?_
    try simp only [Act.put, zA, zB, zC]
    refine zv 7 (bs 14 255) (Ext.refl _).drew ?_
    refine zv 8 (bs 14 511) (Ext.refl _).drew ?_
    refine zv 9 (bs 14 1023) (Ext.refl _).drew ?_
    refine md_range (i := 10) (listed' := (bs 14 2047)) (by rfl) (by kernel_rfl) (by kernel_rfl) (by kernel_rfl) _ _ (by rfl) g (h * 8) (enc x0) _ (by intro _ _ _ h; exact h) (by rfl) (by rfl) (fun w1 hw1 => (HST.out.ext hw1).read Hx0.out hk) Tryz.underlying51 (by rfl) (by rw [hk]; kernel_rfl) (Ext.refl _).drew (by kernel_rfl) ?_
    try simp only [Act.put, zA, zB, zC]
    refine mC 11 (bs 14 4095) (HC.out _ ((HST.out.ext (Ext.refl _).drew).own) y0 x0) ?_
    rintro e w2 ⟨z, rfl, hz, hx2⟩
    have HX2 := zH (show Ext wr w2 from (Ext.refl _).drew.trans hx2)
    clear hx2
    refine ⟨_, rfl, HX2.out, ?_⟩
    try simp only [Act.put, zA, zB, zC]
    by_cases hlt : lt y0 x0 = true
    ·as_aux_lemma =>
     have HLT := zH hlt
     have hz2 : z < 0 := hz.2 hlt
     have hz3 : decide (z < 0) = true := by simpa using hz2
     clear hz
     refine zv 12 (bs 14 8191) HX2.out ?_
     refine zv 13 (bs 14 16383) HX2.out ?_
     refine wpAnyH_done (by kernel_rfl) ?_ _
     clear hlt hz2 hz3
     have HST := zH (HST.out.ext HX2.out)
     go_wp2_with fail
     go_roundg (c - s)
     case measure => have := HH.out; omega
     case rel => exact ⟨s, c, i, h, hls, by have := HH.out; omega, by have := HH.out; omega, rfl, HI.out.1, by have := HH.out; omega, rfl, rfl, H1.out, Or.inr ⟨x0, y0, HXA.out, HYB.out, HLT.out⟩, HST.out⟩
    as_aux_lemma =>
    have HLT := zH (eq_false_of_ne_true hlt)
    have hz2 : ¬ z < 0 := fun h => hlt (hz.1 h)
    have hz3 : decide (z < 0) = false := by simpa using hz2
    clear hz
    refine zv 12 (bs 14 8191) HX2.out ?_
    refine zv 13 (bs 14 16383) HX2.out ?_
    refine wpAnyH_done (by kernel_rfl) ?_ _
    clear hlt hz2 hz3
    have HST := zH (HST.out.ext HX2.out)
    go_wp2_with fail
    go_roundg (e - (c + 1))
    case measure => have := HH.out; omega
    case rel => exact ⟨c + 1, e, h + 1, j, by have := HH.out; omega, by have := HH.out; omega, heh, rfl, by have := HH.out; omega, HI.out.2.1, by go_num, rfl, Or.inr ⟨x0, y0, HXA.out, by rw [show M - (c + 1) = M - c - 1 by omega]; exact HYB.out, HLT.out⟩, H2.out, HST.out⟩
   as_aux_lemma =>
   obtain rfl : s = e := by omega
   have hij : ¬ (i : Int) < (j : Int) := by omega
   obtain ⟨r, en, ⟨k1, k2, k3, k4, k5⟩, klen, kiff, keq, klt1, klt2⟩ := sym_ar2 hsz HF.out HG.out hls heh hi_
   have HM := zH (Stb.sym_split (lt := lt) (s := s) (r := r) W HS.out.1 HS.out.2 (by
    rcases H1.out with h | ⟨x, y, q1, q2, q3⟩
    ·rcases HGO.out.1 with q | q
     ·exact Or.inl (by omega)
     exact Or.inr (Or.inl (by omega))
    ·exact Or.inr (Or.inr ⟨x, y, q1, by rw [show r = M - s by omega]; exact q2, q3⟩)) (by
    rcases H2.out with h | ⟨x, y, q1, q2, q3⟩
    ·rcases HGO.out.2 with q | q
     ·exact Or.inr (Or.inl (by omega))
     exact Or.inl (by omega)
    exact Or.inr (Or.inr ⟨x, y, q1, by rw [show r - 1 = M - s - 1 by omega]; exact q2, q3⟩)))
   have e6 : (n : Int) - (i : Int) = (en : Int) := by omega
   have wen : IntKind.i64.wrap (en : Int) = (en : Int) := by rw [IntKind.wrap_i64]; omega
   have hAs : A.take s ++ A.drop s = A := List.take_append_drop s A
   have hBs : B.take r ++ B.drop r = B := List.take_append_drop r B
   have la1 : (A.take s).length = s := by rw [List.length_take]; exact Nat.min_eq_left k4
   have la2 : (A.drop s).length = A.length - s := List.length_drop
   have lb1 : (B.take r).length = r := by rw [List.length_take]; exact Nat.min_eq_left k3
   have lb2 : (B.drop r).length = B.length - r := List.length_drop
   have HLL := zH (And.intro la1 (And.intro la2 (And.intro lb1 lb2)))
   have HKL := zH klen
   have HKI := zH kiff
   have HKE := zH keq
   have HLT := zH (And.intro klt1 klt2)
   have HST2 := zH (show Sw w0 wr g T enc rest ((P ++ A.take s) ++ (A.drop s ++ (B.take r ++ (B.drop r ++ S)))) by
    have h := HST.out
    rw [← hAs, ← hBs] at h
    simpa only [List.append_assoc] using h)
   have HN2 := zH (show ((P ++ A.take s) ++ (A.drop s ++ (B.take r ++ (B.drop r ++ S)))).length = N by simp only [List.length_append, la1, la2, lb1, lb2]; omega)
   have HSA := zH (And.intro (Stb.srt_take HS.out.1 s) (And.intro (Stb.srt_drop HS.out.1 s) (And.intro (Stb.srt_take HS.out.2 r) (Stb.srt_drop HS.out.2 r))))
   have HE1 := zH (Stb.mrg_take_nil (lt := lt) (A := A) (B := B) (s := s) (r := r))
   have HE2 := zH (Stb.mrg_drop_nil (lt := lt) (A := A) (B := B) (s := s) (r := r))
   clear HST hi_ hj_ hAs hBs la1 la2 lb1 lb2 H1 H2 klen kiff keq klt1 klt2 k1 k2 k3 k4 hls heh hse
   generalize A.take s = A1 at *
   generalize A.drop s = A2 at *
   generalize B.take r = B1 at *
   generalize B.drop r = B2 at *
   go_upto_region 39 with fail
   go_cut [185] (fun u wx => u = .bool (decide (s < A.length ∧ 0 < r)) ∧ wx = wr)
   case first => as_aux_lemma =>
    by_cases c : s < A.length
    ·have c2 : (i : Int) < (m : Int) := Int.ofNat_lt.2 (HKI.out.1.2 c)
     by_cases d : 0 < r
     ·have c3 : (m : Int) < (en : Int) := Int.ofNat_lt.2 (HKI.out.2.1.2 d)
      go_wp2_with fail
      go_meet
      exact ⟨by simp [c, d], rfl⟩
     have c3 : ¬ (m : Int) < (en : Int) := fun h => d (HKI.out.2.1.1 (Int.ofNat_lt.1 h))
     go_wp2_with fail
     go_meet
     exact ⟨by simp [d], rfl⟩
    have c2 : ¬ (i : Int) < (m : Int) := fun h => c (HKI.out.1.1 (Int.ofNat_lt.1 h))
    have c4 : decide ((i : Int) < (m : Int)) = false := decide_eq_false c2
    go_wp2_with fail
    go_meet
    exact ⟨by simp [c], rfl⟩
   case rest =>
    obtain ⟨rfl, rfl⟩ := hcut
    go_upto_if 185 with fail
    go_cut [] (fun wx => Sw w0 wx g T enc rest (P ++ (A1 ++ (B1 ++ (A2 ++ (B2 ++ S))))))
    case first => as_aux_lemma =>
     by_cases c1 : s < A.length ∧ 0 < r
     ·have cb : decide (s < A.length ∧ 0 < r) = true := decide_eq_true c1
      have HR := zH (rotate_any enc hk h1 w0 wc g cap i m en N T rest (P ++ A1) A2 B1 (B2 ++ S) (.func (.func 40) #[] #[]) HST2.out (by rw [List.length_append, HLL.out.1]; exact HKE.out.1) (by rw [HLL.out.2.1]; exact HKE.out.2.1) (by rw [HLL.out.2.2.1]; exact HKE.out.2.2.1) (ne_of_len (by rw [HLL.out.2.1]; omega)) (ne_of_len (by rw [HLL.out.2.2.1]; exact c1.2)) HN2.out hsz)
      generalize decide (s < A.length ∧ 0 < r) = bb at *
      subst cb
      go_wp2_with (go_at_call 122; refine HR.out.mono ?_; rintro e w2 ⟨rfl, hs2⟩)
      go_meet
      simpa only [List.append_assoc] using hs2
     have cb : decide (s < A.length ∧ 0 < r) = false := decide_eq_false c1
     have HE := zH (show (P ++ A1) ++ (A2 ++ (B1 ++ (B2 ++ S))) = P ++ (A1 ++ (B1 ++ (A2 ++ (B2 ++ S)))) by
      by_cases c : s < A.length
      ·have : B1 = [] := List.eq_nil_of_length_eq_zero (by rw [HLL.out.2.2.1]; omega)
       rw [this]; simp
      have : A2 = [] := List.eq_nil_of_length_eq_zero (by rw [HLL.out.2.1]; omega)
      rw [this]; simp)
     generalize decide (s < A.length ∧ 0 < r) = bb at *
     subst cb
     go_wp2_with fail
     go_meet
     rw [← HE.out]; exact HST2.out
    case rest =>
     have HST3 := zH hcut
     clear hcut HST2
     go_upto_region 41 with fail
     go_cut [199] (fun u wx => u = .bool (decide (0 < s ∧ 0 < r)) ∧ wx = wc)
     case first => as_aux_lemma =>
      by_cases c : 0 < s
      ·have c2 : (a : Int) < (i : Int) := Int.ofNat_lt.2 (HKI.out.2.2.1.2 c)
       by_cases d : 0 < r
       ·have c3 : (i : Int) < (mid : Int) := Int.ofNat_lt.2 (HKI.out.2.2.2.1.2 d)
        go_wp2_with fail
        go_meet
        exact ⟨by simp [c, d], rfl⟩
       have c3 : ¬ (i : Int) < (mid : Int) := fun h => d (HKI.out.2.2.2.1.1 (Int.ofNat_lt.1 h))
       go_wp2_with fail
       go_meet
       exact ⟨by simp [d], rfl⟩
      have c2 : ¬ (a : Int) < (i : Int) := fun h => c (HKI.out.2.2.1.1 (Int.ofNat_lt.1 h))
      have c4 : decide ((a : Int) < (i : Int)) = false := decide_eq_false c2
      go_wp2_with fail
      go_meet
      exact ⟨by simp [c], rfl⟩
     case rest =>
      obtain ⟨rfl, rfl⟩ := hcut
      go_upto_if 199 with fail
      go_cut [] (fun wx => Sw w0 wx g T enc rest (P ++ (Stb.mrg lt A1 B1 ++ (A2 ++ (B2 ++ S)))))
      case first => as_aux_lemma =>
       by_cases c1 : 0 < s ∧ 0 < r
       ·have cb : decide (0 < s ∧ 0 < r) = true := decide_eq_true c1
        have HR := zH (HIH.out P A1 B1 (A2 ++ (B2 ++ S)) a i mid wc (ne_of_len (by rw [HLL.out.1]; exact c1.1)) (ne_of_len (by rw [HLL.out.2.2.1]; exact c1.2)) (by rw [HLL.out.1, HLL.out.2.2.1]; exact HLT.out.1) HST3.out HKE.out.2.2.2.2.2.2.2.2 (by rw [HLL.out.1]; exact HKE.out.2.2.2.1) (by rw [HLL.out.2.2.1]; exact HKE.out.2.2.2.2.1) HSA.out.1 HSA.out.2.2.1 (by simp only [List.length_append, HLL.out.1, HLL.out.2.1, HLL.out.2.2.1, HLL.out.2.2.2]; exact HKL.out))
        generalize decide (0 < s ∧ 0 < r) = bb at *
        subst cb
        go_wp2_with (go_at_call 95; refine HR.out.mono ?_; rintro e w2 ⟨rfl, hs2⟩)
        go_meet
        exact hs2
       have cb : decide (0 < s ∧ 0 < r) = false := decide_eq_false c1
       have HE := zH (HE1.out c1)
       generalize decide (0 < s ∧ 0 < r) = bb at *
       subst cb
       go_wp2_with fail
       go_meet
       rw [HE.out]; have h := HST3.out; simpa only [List.append_assoc] using h
      case rest =>
       have HST4 := zH hcut
       clear hcut HST3
       have HLM := zH (Stb.mrg_len (lt := lt) A1 B1)
       have HR0 := zH (show P ++ (Stb.mrg lt A1 B1 ++ (Stb.mrg lt A2 B2 ++ S)) = P ++ (Stb.mrg lt A B ++ S) by rw [HM.out, List.append_assoc])
       go_upto_region 43 with fail
       go_cut [213] (fun u wx => u = .bool (decide (s < A.length ∧ r < B.length)) ∧ wx = wc)
       case first => as_aux_lemma =>
        by_cases c : s < A.length
        ·have c2 : (mid : Int) < (en : Int) := Int.ofNat_lt.2 (HKI.out.2.2.2.2.1.2 c)
         by_cases d : r < B.length
         ·have c3 : (en : Int) < (b : Int) := Int.ofNat_lt.2 (HKI.out.2.2.2.2.2.2 d)
          go_wp2_with fail
          go_meet
          exact ⟨by simp [c, d], rfl⟩
         have c3 : ¬ (en : Int) < (b : Int) := fun h => d (HKI.out.2.2.2.2.2.1 (Int.ofNat_lt.1 h))
         go_wp2_with fail
         go_meet
         exact ⟨by simp [d], rfl⟩
        have c2 : ¬ (mid : Int) < (en : Int) := fun h => c (HKI.out.2.2.2.2.1.1 (Int.ofNat_lt.1 h))
        have c4 : decide ((mid : Int) < (en : Int)) = false := decide_eq_false c2
        go_wp2_with fail
        go_meet
        exact ⟨by simp [c], rfl⟩
       case rest =>
        obtain ⟨rfl, rfl⟩ := hcut
        by_cases c1 : s < A.length ∧ r < B.length
        ·have cb : decide (s < A.length ∧ r < B.length) = true := decide_eq_true c1
         have HR := zH (HIH.out (P ++ Stb.mrg lt A1 B1) A2 B2 S mid en b wc (ne_of_len (by rw [HLL.out.2.1]; omega)) (ne_of_len (by rw [HLL.out.2.2.2]; omega)) (by rw [HLL.out.2.1, HLL.out.2.2.2]; exact HLT.out.2) (by rw [List.append_assoc]; exact HST4.out) (by rw [List.length_append, HLM.out, HLL.out.1, HLL.out.2.2.1]; exact HKE.out.2.2.2.2.2.2.2.1) (by rw [HLL.out.2.1]; exact HKE.out.2.2.2.2.2.1) (by rw [HLL.out.2.2.2]; exact HKE.out.2.2.2.2.2.2.1) HSA.out.2.1 HSA.out.2.2.2 (by have h := HKL.out; simp only [List.length_append, HLM.out, HLL.out.1, HLL.out.2.1, HLL.out.2.2.1, HLL.out.2.2.2]; omega))
         generalize decide (s < A.length ∧ r < B.length) = bb at *
         subst cb
         go_wp2_with (go_at_call 95; refine HR.out.mono ?_; rintro e w2 ⟨rfl, hs2⟩)
         go_end0
         exact ⟨rfl, by rw [← HR0.out, ← List.append_assoc P]; exact hs2⟩
        have cb : decide (s < A.length ∧ r < B.length) = false := decide_eq_false c1
        have HE := zH (HE2.out c1)
        generalize decide (s < A.length ∧ r < B.length) = bb at *
        subst cb
        go_wp2_with fail
        go_end0
        exact ⟨rfl, by rw [← HR0.out, HE.out, List.append_assoc]; exact HST4.out⟩

theorem symMerge_any {α : Type} (enc : α → List Value) (hk : ∀ x, (enc x).length = 8) (h1 : ∀ x, ∀ v, v ∈ enc x → v.oneCell' = true) (lt : α → α → Bool) (W : Stb.Wk lt) (w0 : World) (g cap N : Nat) (T : TypeId) (rest : List Value) (hc : (∀ wr, Own g w0 wr → ∀ x y : α, Calls Tryz.prog 40 #[.agg (enc x).toArray, .agg (enc y).toArray] wr fun e w' => ∃ z : Int, e = .returned (.int .i64 z) ∧ (z < 0 ↔ lt x y = true) ∧ Ext wr w')) (hsz : N ≤ 100000) :
  ∀ (n : Nat) (P A B S : List α) (a m b : Nat) (wr : World), A ≠ [] → B ≠ [] → A.length + B.length ≤ n → Sw w0 wr g T enc rest (P ++ (A ++ (B ++ S))) → P.length = a → a + A.length = m → m + B.length = b → Stb.Srt lt A → Stb.Srt lt B → (P ++ (A ++ (B ++ S))).length = N → Calls Tryz.prog 95 #[.slice (some ⟨g, 0, none⟩) N cap, .int .i64 a, .int .i64 m, .int .i64 b, .func (.func 40) #[] #[]] wr fun e w' => e = .returned (.tuple #[]) ∧ Sw w0 w' g T enc rest (P ++ (Stb.mrg lt A B ++ S)) := by
 intro n
 induction n with
 | zero => intro P A B S a m b wr hA hB hl; exact absurd (List.eq_nil_of_length_eq_zero (by omega)) hA
 | succ n ih =>
  intro P A B S a m b wr hA0 hB0 hl hst ha hm hb hA hB hN
  match A, hA0 with
  | [x], _ => exact symA_any enc hk h1 lt W w0 wr g cap a m b N T rest P B S x hc hst ha hm hb hB hN hsz
  | x :: x2 :: A, hA0 =>
   match B, hB0 with
   | [y], _ => exact symB_any enc hk h1 lt W w0 wr g cap a m b N T rest P (x :: x2 :: A) S y hc hst ha hm hb (by simp) hA hN hsz
   | y :: y2 :: B, hB0 =>
    exact symC_any enc hk h1 lt W w0 wr g cap a m b N T rest P (x :: x2 :: A) (y :: y2 :: B) S hc (fun P' A' B' S' a' m' b' w' q1 q2 q3 q4 q5 q6 q7 q8 q9 q10 => ih P' A' B' S' a' m' b' w' q1 q2 (by omega) q4 q5 q6 q7 q8 q9 q10) hst ha hm hb hA0 hB0 (by simp) (by simp) hA hB hN hsz

set_option maxRecDepth 20000 in
set_option maxHeartbeats 4000000 in
theorem stable_any {α : Type} (enc : α → List Value) (hk : ∀ x, (enc x).length = 8) (h1 : ∀ x, ∀ v, v ∈ enc x → v.oneCell' = true) (lt : α → α → Bool) (W : Stb.Wk lt) (w0 w : World) (g cap N : Nat) (T : TypeId) (rest : List Value) (xs : List α) (hc : (∀ wr, Own g w0 wr → ∀ x y : α, Calls Tryz.prog 40 #[.agg (enc x).toArray, .agg (enc y).toArray] wr fun e w' => ∃ z : Int, e = .returned (.int .i64 z) ∧ (z < 0 ↔ lt x y = true) ∧ Ext wr w')) (hst : Sw w0 w g T enc rest xs) (hN : xs.length = N) (hsz : N ≤ 20000) :
  Calls Tryz.prog 66 #[.slice (some ⟨g, 0, none⟩) N cap, .int .i64 N, .func (.func 40) #[] #[]] w fun e w' => e = .returned (.tuple #[]) ∧ Sw w0 w' g T enc rest (Stb.stab lt xs) := by
 have HC := zH hc
 have HST0 := zH hst
 have HN := zH hN
 clear hst hc hN
 go_enter Tryz.func66, Tryz.ntmps66
 go_wp2_with fail
 go_loopg [7, 8] (N + 20) (fun c u v wr => ∃ (a b : Nat) (row : List α), b = a + 20 ∧ a ≤ N ∧ c = N + 20 - a ∧ u = .int .i64 a ∧ v = .int .i64 b ∧ Stb.Fst lt 20 a xs row ∧ Sw w0 wr g T enc rest row)
 case atStart => exact ⟨0, 20, xs, rfl, Nat.zero_le _, rfl, rfl, rfl, Stb.Fst.start 20 xs, HST0.out⟩
 case round =>
  clear HST0
  obtain ⟨a, b, row, hb, haN, rfl, rfl, rfl, hf, hst⟩ := hrel
  have HST := zH hst
  have HF := zH hf
  clear hst hf
  by_cases hlt : b ≤ N
  ·have hlt2 : (b : Int) ≤ (N : Int) := by omega
   obtain ⟨P, X, S, rfl, hP, hX, hF2⟩ := HF.out.cut (by rw [HN.out]; omega)
   have hlen := HF.out.len
   have HB := zH (insertion_any enc hk h1 lt W w0 wr g cap a b N T rest P X S HC.out HST.out hP (by omega) (by rw [hlen, HN.out]) (by omega))
   have HF2 := zH hF2
   clear hP hX hF2 hlen HST
   obtain ⟨b2, hb2⟩ : ∃ b2, b2 = b + 20 := ⟨_, rfl⟩
   have e1 : (b : Int) + 20 = (b2 : Int) := by omega
   have wb : IntKind.i64.wrap (b2 : Int) = (b2 : Int) := by rw [IntKind.wrap_i64]; omega
   have HB2 := zH (And.intro hb hb2)
   clear hb hb2
   go_wp2_with (go_at_call 94; refine HB.out.mono ?_; rintro e w2 ⟨rfl, hs2⟩)
   go_roundg (N + 20 - b)
   case measure => have := HB2.out; omega
   case rel => exact ⟨b, b2, _, HB2.out.2, hlt, rfl, rfl, rfl, by rw [HB2.out.1]; exact HF2.out, hs2⟩
  have hlt2 : ¬ (b : Int) ≤ (N : Int) := by omega
  obtain ⟨P, X, rfl, hP, hX, hF2⟩ := HF.out.last (by rw [HN.out]; omega)
  have hlen := HF.out.len
  have HB := zH (insertion_any enc hk h1 lt W w0 wr g cap a N N T rest P X [] HC.out HST.out hP (by rw [hX, HN.out]) (by rw [hlen, HN.out]) (by omega))
  have HF2 := zH hF2
  clear hP hX hF2 hlen HST hb
  go_wp2_with (go_at_call 94; refine HB.out.mono ?_; rintro e w2 ⟨rfl, hs2⟩)
  have HS2 := zH hs2
  clear hs2 HB HF
  go_loopg [6] (2 * N) (fun c v wr => ∃ (s : Nat) (row : List α), 20 ≤ s ∧ s ≤ 2 * N + 20 ∧ c = 2 * N + 20 - s ∧ v = .int .i64 s ∧ Stb.Blks lt s xs row ∧ Sw w0 wr g T enc rest row)
  case atStart => exact ⟨20, _, Nat.le_refl _, by omega, by omega, rfl, HF2.out, HS2.out⟩
  case round =>
   clear HS2 HF2 hlt2 hlt
   obtain ⟨s, row, hs20, hs2N, rfl, rfl, hf, hst⟩ := hrel
   have HST := zH hst
   have HF := zH hf
   clear hst hf
   by_cases hlt : s < N
   ·have hlt2 : (s : Int) < (N : Int) := by omega
    obtain ⟨d, hd⟩ : ∃ d, d = 2 * s := ⟨_, rfl⟩
    have e1 : 2 * (s : Int) = (d : Int) := by omega
    have e1b : (s : Int) * 2 = (d : Int) := by omega
    have wd : IntKind.i64.wrap (d : Int) = (d : Int) := by rw [IntKind.wrap_i64]; omega
    have HD := zH hd
    clear hd
    go_wp2_with fail
    go_loopg [7, 8] (N + d) (fun c u v wr => ∃ (a b : Nat) (row : List α), b = a + d ∧ a ≤ N ∧ c = N + d - a ∧ u = .int .i64 a ∧ v = .int .i64 b ∧ Stb.Half lt s a xs row ∧ Sw w0 wr g T enc rest row)
    case atStart => exact ⟨0, d, row, by omega, Nat.zero_le _, rfl, rfl, rfl, HF.out.half, HST.out⟩
    case round =>
     clear HST HF
     obtain ⟨a, b, row2, hb, haN, rfl, rfl, rfl, hf, hst⟩ := hrel
     have HST := zH hst
     have HF := zH hf
     clear hst hf
     by_cases hlb : b ≤ N
     ·have hlb2 : (b : Int) ≤ (N : Int) := by omega
      obtain ⟨P, A, B, S, rfl, hP, hA, hB, hsA, hsB, hF2⟩ := HF.out.cut W (by omega) (by rw [HN.out]; have := HD.out; omega)
      have hlen := HF.out.len
      obtain ⟨m, hm⟩ : ∃ m, m = a + s := ⟨_, rfl⟩
      have e2 : (a : Int) + (s : Int) = (m : Int) := by omega
      have wm : IntKind.i64.wrap (m : Int) = (m : Int) := by rw [IntKind.wrap_i64]; omega
      have HB := zH (symMerge_any enc hk h1 lt W w0 g cap N T rest HC.out (by omega) _ P A B S a m b wr (ne_of_len (by omega)) (ne_of_len (by omega)) (Nat.le_refl _) HST.out hP (by rw [hA, hm]) (by have := HD.out; omega) hsA hsB (by rw [hlen, HN.out]))
      obtain ⟨b2, hb2⟩ : ∃ b2, b2 = b + d := ⟨_, rfl⟩
      have e3 : (b : Int) + (d : Int) = (b2 : Int) := by omega
      have wb : IntKind.i64.wrap (b2 : Int) = (b2 : Int) := by rw [IntKind.wrap_i64]; omega
      have HB2 := zH (And.intro hb hb2)
      have HF2 := zH hF2
      clear hP hA hB hsA hsB hF2 hlen HST hb hb2 hm
      go_wp2_with (go_at_call 95; refine HB.out.mono ?_; rintro e w2 ⟨rfl, hs2⟩)
      go_roundg (N + d - b)
      case measure => have := HB2.out; omega
      case rel => exact ⟨b, b2, _, HB2.out.2, hlb, rfl, rfl, rfl, by rw [HB2.out.1, HD.out]; exact HF2.out, hs2⟩
     have hlb2 : ¬ (b : Int) ≤ (N : Int) := by omega
     obtain ⟨m, hm⟩ : ∃ m, m = a + s := ⟨_, rfl⟩
     have e2 : (a : Int) + (s : Int) = (m : Int) := by omega
     have wm : IntKind.i64.wrap (m : Int) = (m : Int) := by rw [IntKind.wrap_i64]; omega
     by_cases hmN : m < N
     ·have hmN2 : (m : Int) < (N : Int) := by omega
      obtain ⟨P, A, B, rfl, hP, hA, hB, hsA, hsB, hF2⟩ := HF.out.last W (by rw [HN.out]; have := HD.out; omega) (by rw [HN.out]; omega)
      have hlen := HF.out.len
      rw [HN.out] at hB
      have HB := zH (symMerge_any enc hk h1 lt W w0 g cap N T rest HC.out (by omega) _ P A B [] a m N wr (ne_of_len (by omega)) (ne_of_len (by omega)) (Nat.le_refl _) HST.out hP (by rw [hA, hm]) (by omega) hsA hsB (by rw [hlen, HN.out]))
      have HF2 := zH hF2
      clear hP hA hB hsA hsB hF2 hlen HST hb hm
      go_wp2_with (go_at_call 95; refine HB.out.mono ?_; rintro e w2 ⟨rfl, hs2⟩)
      go_roundg (2 * N + 20 - d)
      case measure => have := HD.out; omega
      case rel => exact ⟨d, _, by have := HD.out; omega, by have := HD.out; omega, rfl, rfl, by rw [HD.out]; exact HF2.out, hs2⟩
     have hmN2 : ¬ (m : Int) < (N : Int) := by omega
     have HF2 := zH (HF.out.none (by rw [HN.out]; have := HD.out; omega) (by rw [HN.out]; omega))
     clear hb hm
     go_wp2_with fail
     go_roundg (2 * N + 20 - d)
     case measure => have := HD.out; omega
     case rel => exact ⟨d, _, by have := HD.out; omega, by have := HD.out; omega, rfl, rfl, by rw [HD.out]; exact HF2.out, HST.out⟩
   have hlt2 : ¬ (s : Int) < (N : Int) := by omega
   have HR := zH (HF.out.all (by rw [HN.out]; omega))
   go_wp2_with fail
   go_end0
   exact ⟨rfl, by rw [← HR.out]; exact HST.out⟩

theorem sortStable_any {α : Type} (enc : α → List Value) (hk : ∀ x, (enc x).length = 8) (h1 : ∀ x, ∀ v, v ∈ enc x → v.oneCell' = true) (lt : α → α → Bool) (W : Stb.Wk lt) (w0 w : World) (g cap N : Nat) (T : TypeId) (rest : List Value) (xs : List α) (hc : (∀ wr, Own g w0 wr → ∀ x y : α, Calls Tryz.prog 40 #[.agg (enc x).toArray, .agg (enc y).toArray] wr fun e w' => ∃ z : Int, e = .returned (.int .i64 z) ∧ (z < 0 ↔ lt x y = true) ∧ Ext wr w')) (hst : Sw w0 w g T enc rest xs) (hN : xs.length = N) (hsz : N ≤ 20000) :
  Calls Tryz.prog 39 #[.slice (some ⟨g, 0, none⟩) N cap, .func (.func 40) #[] #[]] w fun e w' => e = .returned (.tuple #[]) ∧ Sw w0 w' g T enc rest (Stb.stab lt xs) := by
 have HB := zH (stable_any enc hk h1 lt W w0 w g cap N T rest xs hc hst hN hsz)
 clear hc hst hN
 go_enter Tryz.func39, Tryz.ntmps39
 go_wp2_with (go_at_call 66; refine HB.out.mono ?_; rintro e w2 ⟨rfl, hs2⟩)
 go_end0
 exact ⟨rfl, hs2⟩

theorem insertion_none (v c : Value) (w : World) : Calls Tryz.prog 94 #[v, .int .i64 0, .int .i64 0, c] w fun e w' => e = .returned (.tuple #[]) ∧ w = w' := by
  go_enter Tryz.func94, Tryz.ntmps94
  go_wp2_with fail
  refine wp_loop_rounds 1 ?_
  rw [rounds_succ]
  go_wp2_with fail
  go_end0
  exact ⟨rfl, rfl⟩
theorem stable_none (v c : Value) (w : World) : Calls Tryz.prog 66 #[v, .int .i64 0, c] w fun e w' => e = .returned (.tuple #[]) ∧ w = w' := by
  go_enter Tryz.func66, Tryz.ntmps66
  go_wp2_with fail
  refine wp_loop_rounds 1 ?_
  rw [rounds_succ]
  go_wp2_with (go_at_call 94; refine (insertion_none _ _ _).mono ?_; rintro e w2 ⟨rfl, rfl⟩)
  refine wp_loop_rounds 1 ?_
  rw [rounds_succ]
  go_wp2_with fail
  go_end0
  exact ⟨rfl, rfl⟩
theorem sortStable_none (A : Option Addr) (cap : Nat) (c : Value) (w : World) : Calls Tryz.prog 39 #[.slice A 0 cap, c] w fun e w' => e = .returned (.tuple #[]) ∧ w = w' := by
  go_enter Tryz.func39, Tryz.ntmps39
  go_wp2_with (go_at_call 66; refine (stable_none _ _ _).mono ?_; rintro e w2 ⟨rfl, rfl⟩)
  go_end0
  exact ⟨rfl, rfl⟩
end Go.Proofs.YtaeeeailoiioaabGreat.spn

namespace Go.Proofs.YtaeeeailoiioaabGreat
open Go.RowKit
attribute [local go_sem ↓] Go.wp_at_zero Go.wp_at_succ run_max_ii run_min_ii

def rvCells (rs : List RV) : List Value := rs.flatMap fun a => [.bool a.n, .slice a.p a.l a.c, .bool a.m, .slice a.p2 a.l2 a.c2]
theorem rvCells_length (rs : List RV) : (rvCells rs).length = rs.length * 4 := by
  induction rs with
  | nil => rfl
  | cons x xs ih => simp only [rvCells, List.flatMap_cons, List.length_append, List.length_cons, List.length_nil] at ih ⊢; omega
theorem rvCells_get (rs : List RV) : ∀ (i j : Nat), i < rs.length → j < 4 → (rvCells rs)[i * 4 + j]? = [.bool (rs.getD i RV.zero).n, .slice (rs.getD i RV.zero).p (rs.getD i RV.zero).l (rs.getD i RV.zero).c, .bool (rs.getD i RV.zero).m, .slice (rs.getD i RV.zero).p2 (rs.getD i RV.zero).l2 (rs.getD i RV.zero).c2][j]? := by
 induction rs with
 | nil => intro i j hi; simp at hi
 | cons x xs ih =>
  intro i j hi hj
  have e : rvCells (x :: xs) = [.bool x.n, .slice x.p x.l x.c, .bool x.m, .slice x.p2 x.l2 x.c2] ++ rvCells xs := by simp [rvCells]
  rw [e]
  cases i with
  | zero => rw [List.getElem?_append_left (by simp; omega), Nat.zero_mul, Nat.zero_add]; rfl
  | succ i =>
   rw [List.getElem?_append_right (by simp; omega)]
   have := ih i j (by simpa using hi) hj
   simp only [List.length_cons, List.length_nil]
   rw [show (i + 1) * 4 + j - (0 + 1 + 1 + 1 + 1) = i * 4 + j by omega, this]
   rfl
def RatsV (L : Nat) (w : World) (v : Value) (qs : List Rat) : Prop :=
  ∃ (A : Option Addr) (cap : Nat) (rs : List RV), v = .slice A qs.length cap ∧ rs.length = qs.length ∧ (∀ i, i < qs.length → (rs.getD i RV.zero).In L w (qs.getD i 0)) ∧
    (0 < qs.length → ∃ g off, A = some ⟨g, off, none⟩ ∧ ∀ i, i < qs.length → w.rangeAt g (off + i * 4) [.bool (rs.getD i RV.zero).n, .slice (rs.getD i RV.zero).p (rs.getD i RV.zero).l (rs.getD i RV.zero).c, .bool (rs.getD i RV.zero).m, .slice (rs.getD i RV.zero).p2 (rs.getD i RV.zero).l2 (rs.getD i RV.zero).c2])
theorem range_ext {w w' : World} {g o : Nat} {cs : List Value} (h : w.rangeAt g o cs) (x : Ext w w') : w'.rangeAt g o cs := fun j v hv => x.get (h j v hv)
theorem RatsV.ext {L : Nat} {w w' : World} {v : Value} {qs : List Rat} (h : RatsV L w v qs) (x : Ext w w') : RatsV L w' v qs := by
  obtain ⟨A, cap, rs, h1, h2, h3, h4⟩ := h
  refine ⟨A, cap, rs, h1, h2, fun i hi => (h3 i hi).ext x, fun h0 => ?_⟩
  obtain ⟨g, off, h5, h6⟩ := h4 h0
  exact ⟨g, off, h5, fun i hi => range_ext (h6 i hi) x⟩
theorem RatsV.of_row {L : Nat} {w : World} {base : Nat} {e : TypeId} {v : Value} {rs : List RV} {qs : List Rat} (h : RowN w base e 4 v rs.length (rvCells rs)) (hl : rs.length = qs.length) (hq : ∀ i, i < qs.length → (rs.getD i RV.zero).In L w (qs.getD i 0)) : RatsV L w v qs := by
 obtain ⟨h1, ⟨rfl, h2⟩ | ⟨g, cap, rest, rfl, _, hg, _⟩⟩ := h
 ·exact ⟨none, 0, rs, by rw [← hl, h2], hl, hq, fun h0 => by omega⟩
 refine ⟨_, cap, rs, by rw [hl], hl, hq, fun h0 => ⟨g, 0, rfl, fun i hi j u hu => ?_⟩⟩
 have hj : j < 4 := (List.getElem?_eq_some_iff.1 hu).1
 rw [Nat.zero_add, hg.cell, List.getElem?_toArray, List.getElem?_append_left (by rw [rvCells_length]; omega), rvCells_get rs i j (by omega) hj]
 exact hu

end Go.Proofs.YtaeeeailoiioaabGreat

namespace Go.Proofs.YtaeeeailoiioaabGreat
open Go.RowKit

abbrev QQ := Rat × Rat
def some2 (ps : List QQ) : List QQ := ps.filter fun p => decide (p.1 < p.2)
def ltQ (a b : QQ) : Bool := decide (a.1 < b.1)
def mstep (out : List QQ) (s : QQ) : List QQ := match out.getLast? with
  | none => out ++ [s]
  | some l => if l.2 < s.1 then out ++ [s] else if l.2 < s.2 then out.dropLast ++ [(l.1, s.2)] else out
def sortedV (ps : List QQ) : List QQ := Stb.stab ltQ (some2 ps)
def mergeV (ps : List QQ) : List QQ := (sortedV ps).foldl mstep []
theorem some2_succ {ps : List QQ} {k : Nat} {p : QQ} (h : ps[k]? = some p) : some2 (ps.take (k + 1)) = if p.1 < p.2 then some2 (ps.take k) ++ [p] else some2 (ps.take k) := by
  obtain ⟨hk, rfl⟩ := List.getElem?_eq_some_iff.1 h
  unfold some2
  rw [List.take_succ_eq_append_getElem hk, List.filter_append]
  by_cases hp : ps[k].1 < ps[k].2
  · rw [if_pos hp]; simp [hp]
  rw [if_neg hp]; simp [hp]
theorem mstep_fold {l : List QQ} {k : Nat} {p : QQ} (h : l[k]? = some p) : (l.take (k + 1)).foldl mstep [] = mstep ((l.take k).foldl mstep []) p := by
  obtain ⟨hk, rfl⟩ := List.getElem?_eq_some_iff.1 h
  rw [List.take_succ_eq_append_getElem hk, List.foldl_append]
  rfl
theorem ins_map {α β : Type} (f : α → β) {lt : α → α → Bool} {lt' : β → β → Bool} (h : ∀ x y, lt x y = lt' (f x) (f y)) (l : List α) (y : α) : (Stb.ins lt l y).map f = Stb.ins lt' (l.map f) (f y) := by
  induction l with
  | nil => rfl
  | cons x l ih =>
    rw [Stb.ins, List.map_cons, Stb.ins, ← h]
    split
    · rfl
    rw [List.map_cons, ih]
theorem stab_map {α β : Type} (f : α → β) {lt : α → α → Bool} {lt' : β → β → Bool} (h : ∀ x y, lt x y = lt' (f x) (f y)) (l : List α) : (Stb.stab lt l).map f = Stb.stab lt' (l.map f) := by
  induction l using Stb.rev_rec with
  | nil => rfl
  | snoc l y ih => rw [Stb.stab_snoc, ins_map f h, ih, List.map_append]; exact (Stb.stab_snoc _ _).symm
theorem wkQ {α : Type} (f : α → Rat) : Stb.Wk (fun x y : α => decide (f x < f y)) := by
  refine ⟨fun x y h => ?_, fun x y z h1 h2 => ?_⟩
  · rw [decide_eq_true_iff] at h
    rw [decide_eq_false_iff_not]
    intro h2
    grind
  rw [decide_eq_false_iff_not] at h1 h2 ⊢
  grind
theorem infoSp : (Tryz.prog.info? 51).map (fun i => (i.zero, i.size, i.bytes)) = some (some (.agg z8), 8, 128) := by kernel_rfl
theorem noUL_zsp : NoUL (Value.agg z8).cells.toList := by intro x hx k; simp [Value.cells] at hx; rcases hx with rfl | rfl | rfl | rfl | rfl | rfl | rfl | rfl <;> simp
theorem new_cells (w : World) (cs : List Value) (t : TypeId) : ∀ (j : Nat) (u : Value), cs[j]? = some u → (w.alloc (.cells cs.toArray t)).cell? ((⟨w.heap.size, 0, none⟩ : Addr).add j) = some u := by
  intro j u hj
  have e3 : (⟨w.heap.size, 0, none⟩ : Addr).add j = ⟨w.heap.size, j, none⟩ := by
    unfold Addr.add
    by_cases hz : j = 0
    · rw [if_pos hz, hz]
    rw [if_neg hz]; simp
  rw [e3, (Blk.new w t cs.toArray).cell j, List.getElem?_toArray]
  exact hj
theorem SpR.snoc {L : Nat} {w w' : World} {base g cap n : Nat} {v : Value} {es : List SpE} {e : SpE} (h : SpR L w base v es) (hn : es.length = n) (he : e.Ok L w) (h2 : RowN w' base 51 8 (.slice (some ⟨g, 0, none⟩) (n + 1) cap) (n + 1) (spCells es ++ e.cells))
    (h4 : ∀ (r : RV) (q : Rat), r.Is w q → r.Is w' q) : SpR L w' base (.slice (some ⟨g, 0, none⟩) (n + 1) cap) (es ++ [e]) := by
  subst hn
  refine ⟨by rw [spCells_snoc, List.length_append]; exact h2, fun x hx => ?_⟩
  rcases List.mem_append.1 hx with hx | hx
  · exact (h.2 x hx).map h4
  simp at hx; rw [hx]; exact he.map h4
theorem grown_of_ext {a b : World} (row : Option Nat) (h : Ext a b) : a.grownBy b row := ⟨h.os, h.tape, h.output, h.size, fun i hi _ => h.block i hi⟩
theorem ext_grown {a b c : World} {row : Option Nat} (h : Ext a b) (k : b.grownBy c row) : a.grownBy c row :=
  ⟨k.os.trans h.os, k.tape.trans h.tape, k.output.trans h.output, Nat.le_trans h.size k.size, fun i hi hn => (k.block i (Nat.lt_of_lt_of_le hi h.size) hn).trans (h.block i hi)⟩
theorem sp_far {L : Nat} {w : World} {base X : Nat} {v : Value} {es : List SpE} (h : SpR L w base v es) (hX : w.heap.size ≤ X) : v.ownBlock ≠ some X := by
  intro e
  rcases h.form with ⟨rfl, _⟩ | ⟨g, cap, rest, rfl, _, hs, _⟩
  · simp [Value.ownBlock] at e
  simp [Value.ownBlock] at e
  have := hs.blk.lt
  omega
theorem row_slice {w : World} {base : Nat} {e : TypeId} {size : Nat} {v : Value} {n : Nat} {xs : List Value} (h : RowN w base e size v n xs) : ∃ A c, v = .slice A n c := by
  obtain ⟨_, ⟨rfl, hz⟩ | ⟨gv, cap, rest, rfl, _⟩⟩ := h
  · exact ⟨none, 0, by rw [hz]⟩
  exact ⟨_, cap, rfl⟩

def ltE (e f : SpE) : Bool := decide (e.p < f.p)
theorem noU_row {es : List SpE} {rest : List Value} (h : NoUL rest) : NoU (spCells es ++ rest).toArray := by
  refine noU_of _ fun v hv x => ?_
  rcases List.mem_append.1 hv with hv | hv
  · exact noUL_sp es v hv x
  exact h v hv x
theorem flat_val {L : Nat} {w : World} : ∀ xs : List {e : SpE // e.Ok L w}, xs.flatMap (fun x => x.1.cells) = spCells (xs.map Subtype.val)
  | [] => rfl
  | x :: xs => by rw [List.flatMap_cons, flat_val xs]; rfl
theorem sortSp_any (L : Nat) (v : Value) (es : List SpE) (base : Nat) (w : World) (h : SpR L w base v es) (hL : L ≤ 60000) (hn : es.length ≤ 20000) :
  Calls Tryz.prog 39 #[v, .func (.func 40) #[] #[]] w fun e w' =>
   e = .returned (.tuple #[]) ∧ SpR L w' base v (Stb.stab ltE es) ∧ w.grownBy w' v.ownBlock := by
 rcases h.form with ⟨rfl, rfl⟩ | ⟨g, cap, rest, rfl, hb, hs, hc1, hc2, hc3, hc4⟩
 ·refine (spn.sortStable_none none 0 _ w).mono ?_
  rintro e w' ⟨rfl, rfl⟩
  exact ⟨rfl, h, World.grownBy.refl _ _⟩
 have hxs : ∃ xs : List {e : SpE // e.Ok L w}, xs.map Subtype.val = es := by
  have h2 := h.2
  clear h hs hc1 hc3 hn
  induction es with
  | nil => exact ⟨[], rfl⟩
  | cons e es ih =>
   obtain ⟨xs, hx⟩ := ih (fun f hf => h2 f (by simp [hf]))
   exact ⟨⟨e, h2 e (by simp)⟩ :: xs, by rw [List.map_cons, hx]⟩
 obtain ⟨xs, rfl⟩ := hxs
 have hnu : NoU (spCells (xs.map Subtype.val) ++ rest).toArray := noU_row hc4
 have hlen : xs.length = (xs.map Subtype.val).length := by rw [List.length_map]
 refine (spn.sortStable_any (fun x : {e : SpE // e.Ok L w} => x.1.cells) (fun _ => rfl) (fun x => x.1.one) (fun x y => decide (x.1.p < y.1.p)) (wkQ fun x : {e : SpE // e.Ok L w} => x.1.p) w w g cap _ 51 rest xs (fun wr o x y => ?_) ⟨by rw [flat_val]; exact hs.blk, Own.refl _ _⟩ hlen hn).mono ?_
 ·have hx : x.1.Ok L wr := x.2.map fun r q hr => hr.own hs.blk hnu o
  have hy : y.1.Ok L wr := y.2.map fun r q hr => hr.own hs.blk hnu o
  refine (mergeCmp_any L _ _ _ _ _ _ wr hx.ptIn hy.ptIn (by omega)).mono ?_
  rintro e w' ⟨rfl, hx2⟩
  exact ⟨_, rfl, by rw [decide_eq_true_iff]; exact rcmp_lt, hx2⟩
 rintro e w' ⟨rfl, hs2⟩
 have hm : (Stb.stab (fun x y : {e : SpE // e.Ok L w} => decide (x.1.p < y.1.p)) xs).map Subtype.val = Stb.stab ltE (xs.map Subtype.val) := stab_map Subtype.val (lt' := ltE) (fun _ _ => rfl) xs
 have hl2 : (Stb.stab ltE (xs.map Subtype.val)).length = (xs.map Subtype.val).length := Stb.stab_len _
 refine ⟨rfl, ⟨⟨spCells_length _, Or.inr ⟨g, cap, rest, by rw [hl2], hb, ?_, by rw [hl2]; exact hc1, hc2, ?_, ?_⟩⟩, fun e he => ?_⟩, ?_⟩
 ·have h3 := hs2.blk
  rw [flat_val, hm] at h3
  exact h3
 ·rw [spCells_length, hl2, ← spCells_length]; exact hc3
 ·exact (noUL_sp _).app hc4
 ·rw [← hm] at he
  obtain ⟨x, _, rfl⟩ := List.mem_map.1 he
  exact x.2.map fun r q hr => hr.own hs.blk hnu hs2.own
 show w.grownBy w' (Value.ownBlock _)
 have := hs2.own
 simpa [Value.ownBlock, Own] using this

theorem half (e : SpE) : e.cells = [.bool e.a.n, .slice e.a.p e.a.l e.a.c, .bool e.a.m, .slice e.a.p2 e.a.l2 e.a.c2] ++ [.bool e.b.n, .slice e.b.p e.b.l e.b.c, .bool e.b.m, .slice e.b.p2 e.b.l2 e.b.c2] := rfl
theorem SpR.turn {L : Nat} {w : World} {base g cap n : Nat} {es : List SpE} {l e : SpE} (h : SpR L w base (.slice (some ⟨g, 0, none⟩) (n + 1) cap) (es ++ [l])) (hn : es.length = n) (he : e.Ok L w) :
  w.there g (n * 8 + 4) 4 ∧ SpR L (w.setCells g (n * 8 + 4) [.bool e.b.n, .slice e.b.p e.b.l e.b.c, .bool e.b.m, .slice e.b.p2 e.b.l2 e.b.c2]) base (.slice (some ⟨g, 0, none⟩) (n + 1) cap) (es ++ [⟨l.a, e.b, l.p, e.q⟩]) ∧
   Own g w (w.setCells g (n * 8 + 4) [.bool e.b.n, .slice e.b.p e.b.l e.b.c, .bool e.b.m, .slice e.b.p2 e.b.l2 e.b.c2]) := by
 obtain ⟨hl, ⟨hv, _⟩ | ⟨g', cap', rest, hv, hb, hg, h3, h4, h5, h6⟩⟩ := h.1
 ·cases hv
 injection hv with e1 e2 e3
 injection e1 with e1
 injection e1 with e1
 subst e1 e3
 have hcells : spCells (es ++ [l]) ++ rest = (spCells es ++ [.bool l.a.n, .slice l.a.p l.a.l l.a.c, .bool l.a.m, .slice l.a.p2 l.a.l2 l.a.c2]) ++ ([.bool l.b.n, .slice l.b.p l.b.l l.b.c, .bool l.b.m, .slice l.b.p2 l.b.l2 l.b.c2] ++ rest) := by
  rw [spCells_snoc, half]; simp
 have hlA : (spCells es ++ ([.bool l.a.n, .slice l.a.p l.a.l l.a.c, .bool l.a.m, .slice l.a.p2 l.a.l2 l.a.c2] : List Value)).length = n * 8 + 4 := by rw [List.length_append, spCells_length, hn]; rfl
 have hnu : NoU (spCells (es ++ [l]) ++ rest).toArray := noU_row h6.right
 have hg0 := hg
 rw [hcells] at hg
 have ht := hg.therePart (n * 8 + 4) 4 (by rw [List.length_append, hlA]; simp)
 have hp := hg.setMid [.bool e.b.n, .slice e.b.p e.b.l e.b.c, .bool e.b.m, .slice e.b.p2 e.b.l2 e.b.c2] (by rfl)
 rw [hlA] at hp
 have ho : Own g w (w.setCells g (n * 8 + 4) [.bool e.b.n, .slice e.b.p e.b.l e.b.c, .bool e.b.m, .slice e.b.p2 e.b.l2 e.b.c2]) := Own.setCells_l _ _ (Own.refl _ _)
 refine ⟨ht, ⟨⟨spCells_length _, Or.inr ⟨g, cap, rest, by rw [List.length_append, hn]; rfl, hb, ?_, by rw [List.length_append] at h3 ⊢; exact h3, h4, ?_, (noUL_sp _).app h6.right⟩⟩, fun x hx => ?_⟩, ho⟩
 ·have e5 : spCells (es ++ [⟨l.a, e.b, l.p, e.q⟩]) ++ rest = (spCells es ++ [.bool l.a.n, .slice l.a.p l.a.l l.a.c, .bool l.a.m, .slice l.a.p2 l.a.l2 l.a.c2]) ++ ([.bool e.b.n, .slice e.b.p e.b.l e.b.c, .bool e.b.m, .slice e.b.p2 e.b.l2 e.b.c2] ++ rest) := by
   rw [spCells_snoc, half]; simp
  rw [e5]
  exact hp
 ·rw [spCells_length, List.length_append] at h5 ⊢; exact h5
 have hmap : ∀ x : SpE, x.Ok L w → x.Ok L (w.setCells g (n * 8 + 4) [.bool e.b.n, .slice e.b.p e.b.l e.b.c, .bool e.b.m, .slice e.b.p2 e.b.l2 e.b.c2]) := fun x hx => hx.map fun r q hr => hr.own hg0 hnu ho
 rcases List.mem_append.1 hx with hx | hx
 ·exact hmap x (h.2 x (by simp [hx]))
 simp at hx
 rw [hx]
 have hl1 := hmap l (h.2 l (by simp))
 have he1 := hmap e he
 exact ⟨hl1.1, he1.2.1, hl1.2.2.1, he1.2.2.2⟩
theorem SpR.grown {L : Nat} {w w' : World} {base : Nat} {v : Value} {es : List SpE} {row : Option Nat} (h : SpR L w base v es) (hg : w.grownBy w' row) (hne : ∀ j, v.ownBlock = some j → row ≠ some j) (hm : ∀ (r : RV) (q : Rat), r.Is w q → r.Is w' q) : SpR L w' base v es := by
  refine ⟨?_, fun e he => (h.2 e he).map hm⟩
  obtain ⟨hl, ⟨hv, hz⟩ | ⟨g, cap, rest, rfl, hb, hB, h3⟩⟩ := h.1
  · exact ⟨hl, Or.inl ⟨hv, hz⟩⟩
  exact ⟨hl, Or.inr ⟨g, cap, rest, rfl, hb, hB.grown hg (hne g (by simp [Value.ownBlock])), h3⟩⟩
theorem SpR.lt {L : Nat} {w : World} {base : Nat} {v : Value} {es : List SpE} (h : SpR L w base v es) : ∀ j, v.ownBlock = some j → j < w.heap.size := fun _ hj => Nat.lt_of_not_le fun hn => sp_far h hn hj
theorem SpR.rowNoU {L : Nat} {w : World} {base g n cap : Nat} {es : List SpE} (h : SpR L w base (.slice (some ⟨g, 0, none⟩) n cap) es) : ∃ cs : Array Value, Blk w g 51 cs ∧ NoU cs := by
  obtain ⟨hl, ⟨hv, _⟩ | ⟨g', cap', rest, hv, hb, hB, h3, h4, h5, h6⟩⟩ := h.1
  · cases hv
  injection hv with e1 _ _
  injection e1 with e1
  injection e1 with e1
  subst e1
  exact ⟨_, hB, noU_row h6.right⟩
theorem mstep_nil (s : QQ) : mstep [] s = [s] := rfl
theorem mstep_app (os : List QQ) (l s : QQ) : mstep (os ++ [l]) s = if l.2 < s.1 then os ++ [l] ++ [s] else if l.2 < s.2 then os ++ [(l.1, s.2)] else os ++ [l] := by
  unfold mstep
  rw [List.getLast?_concat]
  simp only [List.dropLast_concat]
theorem snoc_or {α : Type} (l : List α) : l = [] ∨ ∃ l' x, l = l' ++ [x] := by
  rcases List.eq_nil_or_concat l with h | ⟨a, b, h⟩
  · exact Or.inl h
  exact Or.inr ⟨a, b, by simpa using h⟩
theorem SpR.readEnd {L : Nat} {w : World} {base g cap n : Nat} {es : List SpE} {l : SpE} (h : SpR L w base (.slice (some ⟨g, 0, none⟩) (n + 1) cap) (es ++ [l])) (hn : es.length = n) :
  w.rangeAt g (n * 8 + 4) [.bool l.b.n, .slice l.b.p l.b.l l.b.c, .bool l.b.m, .slice l.b.p2 l.b.l2 l.b.c2] := by
 rcases h.form with ⟨hv, _⟩ | ⟨g', cap', rest, hv, _, hs, _⟩
 ·cases hv
 injection hv with e1 _ _
 injection e1 with e1
 injection e1 with e1
 subst e1
 have hr := hs.read (i := n) (x := l) (by rw [List.getElem?_append_right (by omega), hn, Nat.sub_self]; rfl) SpE.len
 intro j u hj
 have hr2 := hr (4 + j) u (by
  rw [half, List.getElem?_append_right (by simp)]
  simpa using hj)
 rw [Nat.add_assoc]
 exact hr2
theorem NIn.ofb {L : Nat} {w : World} {e : SpE} (h : e.Ok L w) : NIn L w ([.bool e.b.n, .slice e.b.p e.b.l e.b.c, .bool e.b.m, .slice e.b.p2 e.b.l2 e.b.c2] : List Value).toArray e.q := ⟨e.b, rfl, h.2.1.isIn h.2.2.2⟩
theorem SpR.set {L : Nat} {w : World} {base g cap n i : Nat} {es : List SpE} {e : SpE} (h : SpR L w base (.slice (some ⟨g, 0, none⟩) n cap) es) (hi : i < es.length) (he : e.Ok L w) :
  w.there g (i * 8) 8 ∧ SpR L (w.setCells g (i * 8) e.cells) base (.slice (some ⟨g, 0, none⟩) n cap) (es.set i e) ∧ Own g w (w.setCells g (i * 8) e.cells) := by
 obtain ⟨hl, ⟨hv, _⟩ | ⟨g', cap', rest, hv, hb, hB, h3, h4, h5, h6⟩⟩ := h.1
 ·cases hv
 injection hv with e1 e2 e3
 injection e1 with e1
 injection e1 with e1
 subst e1 e3
 have hs : Sw w w g 51 SpE.cells rest es := Sw.refl hB
 have hp := hs.put hi SpE.len e
 have ho : Own g w (w.setCells g (i * 8) e.cells) := hp.own
 have hnu : NoU (spCells es ++ rest).toArray := noU_row h6.right
 have hmap : ∀ x : SpE, x.Ok L w → x.Ok L (w.setCells g (i * 8) e.cells) := fun x hx => hx.map fun r q hr => hr.own hB hnu ho
 refine ⟨hs.there hi SpE.len, ⟨⟨spCells_length _, Or.inr ⟨g, cap, rest, by rw [List.length_set, ← e2], hb, hp.blk, by rw [List.length_set]; exact h3, h4, by rw [spCells_length, List.length_set, ← spCells_length]; exact h5, (noUL_sp _).app h6.right⟩⟩, fun x hx => ?_⟩, ho⟩
 rcases List.mem_or_eq_of_mem_set hx with hx | rfl
 ·exact hmap x (h.2 x hx)
 exact hmap x he
theorem SpR.read {L : Nat} {w : World} {base g n cap i : Nat} {es : List SpE} {e : SpE} (h : SpR L w base (.slice (some ⟨g, 0, none⟩) n cap) es) (he : es[i]? = some e) : w.rangeAt g (i * 8) e.cells := by
  rcases h.form with ⟨hv, _⟩ | ⟨g', cap', rest, hv, _, hs, _⟩
  · cases hv
  injection hv with e1 _ _
  injection e1 with e1
  injection e1 with e1
  subst e1
  exact hs.read he SpE.len
theorem range_left {w : World} {g o : Nat} {a b : List Value} (h : w.rangeAt g o (a ++ b)) : w.rangeAt g o a := fun j v hv => h j v (by rw [List.getElem?_append_left (List.getElem?_eq_some_iff.1 hv).1]; exact hv)
theorem range_right {w : World} {g o n : Nat} {a b : List Value} (h : w.rangeAt g o (a ++ b)) (hn : a.length = n) : w.rangeAt g (o + n) b := fun j v hv => by
  have := h (n + j) v (by rw [List.getElem?_append_right (by omega), show n + j - a.length = j by omega]; exact hv)
  rwa [← Nat.add_assoc] at this
theorem SpansV.at {L : Nat} {w : World} {v : Value} {ps : List QQ} (h : SpansV L w v ps) {k : Nat} {p : QQ} (hp : ps[k]? = some p) :
  ∃ (g off cap : Nat) (e : SpE), v = .slice (some ⟨g, off, none⟩) ps.length cap ∧ w.rangeAt g (off + k * 8) e.cells ∧ e.a.In L w p.1 ∧ e.b.In L w p.2 := by
 obtain ⟨A, cap, rfl, h2⟩ := h
 obtain ⟨g, off, rfl, h4⟩ := h2 (by have := (List.getElem?_eq_some_iff.1 hp).1; omega)
 obtain ⟨cs, h5, a, b, h6, h7, h8⟩ := h4 k p hp
 have e : cs = SpE.cells ⟨a, b, p.1, p.2⟩ := by
  exact congrArg Array.toList h6
 exact ⟨g, off, cap, ⟨a, b, p.1, p.2⟩, rfl, by rw [← e]; exact h5, h7, h8⟩
theorem SpR.same {L : Nat} {w : World} {base g n cap n2 cap2 : Nat} {es : List SpE} (h : SpR L w base (.slice (some ⟨g, 0, none⟩) n cap) es) (hn : n = n2) (hc : cap = cap2) : SpR L w base (.slice (some ⟨g, 0, none⟩) n2 cap2) es := by subst hn hc; exact h
theorem SpR.mono {L : Nat} {w : World} {base base' : Nat} {v : Value} {es : List SpE} (h : SpR L w base v es) (hb : base' ≤ base) : SpR L w base' v es := by
  refine ⟨?_, h.2⟩
  obtain ⟨hl, ⟨hv, hz⟩ | ⟨g, cap, rest, rfl, h2, h3⟩⟩ := h.1
  · exact ⟨hl, Or.inl ⟨hv, hz⟩⟩
  exact ⟨hl, Or.inr ⟨g, cap, rest, rfl, Nat.le_trans hb h2, h3⟩⟩
end Go.Proofs.YtaeeeailoiioaabGreat

namespace Go.Proofs.YtaeeeailoiioaabGreat
open Go.RowKit
attribute [local go_sem ↓] Go.wp_at_zero Go.wp_at_succ run_max_ii run_min_ii
def RV.sm (a : RV) : Bool := decide (a.l ≤ 20) && decide (a.l2 ≤ 20)
def RawV (w : World) (v : Value) (es : List (RV × RV)) : Prop :=
  ∃ (A : Option Addr) (cap : Nat), v = .slice A es.length cap ∧ (0 < es.length → ∃ g off, A = some ⟨g, off, none⟩ ∧ ∀ i x, es[i]? = some x → w.rangeAt g (off + i * 8) (SpE.cells ⟨x.1, x.2, 0, 0⟩))
theorem RawV.ext {w w' : World} {v : Value} {es : List (RV × RV)} (h : RawV w v es) (x : Ext w w') : RawV w' v es := by
  obtain ⟨A, cap, h1, h2⟩ := h
  refine ⟨A, cap, h1, fun h0 => ?_⟩
  obtain ⟨g, off, h3, h4⟩ := h2 h0
  exact ⟨g, off, h3, fun i y hy => range_ext (h4 i y hy) x⟩
def smAll (es : List (RV × RV)) : Bool := es.all fun x => x.1.sm && x.2.sm
theorem smAll_stop {es : List (RV × RV)} {k : Nat} {x : RV × RV} (h : es[k]? = some x) (h2 : (x.1.sm && x.2.sm) = false) : smAll es = false := by
  unfold smAll
  rw [List.all_eq_false]
  exact ⟨x, List.mem_of_getElem? h, by simp [h2]⟩
theorem smAll_end {es : List (RV × RV)} (h : ∀ i x, i < es.length → es[i]? = some x → (x.1.sm && x.2.sm) = true) : smAll es = true := by
  unfold smAll
  rw [List.all_eq_true]
  intro x hx
  obtain ⟨i, hi⟩ := List.mem_iff_getElem?.1 hx
  exact h i x (List.getElem?_eq_some_iff.1 hi).1 hi
set_option maxRecDepth 20000 in
set_option maxHeartbeats 4000000 in
theorem small_is {a : RV} {b : Bool} (h : a.sm = b) (w : World) :
  Calls Tryz.prog 7 #[.agg #[.bool a.n, .slice a.p a.l a.c, .bool a.m, .slice a.p2 a.l2 a.c2]] w fun e w' => e = .returned (.bool b) ∧ Ext w w' := by
 by_cases h1 : a.l ≤ 20
 ·have h1z : (a.l : Int) ≤ 20 := by omega
  by_cases h2 : a.l2 ≤ 20
  ·have h2z : (a.l2 : Int) ≤ 20 := by omega
   have hs : b = true := by rw [← h]; unfold RV.sm; simp [h1, h2]
   subst hs
   clear h
   go_enter Tryz.func7, Tryz.ntmps7
   go_wp2_with fail
   go_ret
   exact ⟨rfl, (Ext.refl _).alloc _⟩
  have h2z : ¬ (a.l2 : Int) ≤ 20 := by omega
  have hs : b = false := by rw [← h]; unfold RV.sm; simp [h2]
  subst hs
  clear h
  go_enter Tryz.func7, Tryz.ntmps7
  go_wp2_with fail
  go_ret
  exact ⟨rfl, (Ext.refl _).alloc _⟩
 have h1z : ¬ (a.l : Int) ≤ 20 := by omega
 have hs : b = false := by rw [← h]; unfold RV.sm; simp [h1]
 subst hs
 clear h
 go_enter Tryz.func7, Tryz.ntmps7
 go_wp2_with fail
 go_ret
 exact ⟨rfl, (Ext.refl _).alloc _⟩
theorem small_any (a : RV) (w : World) : Calls Tryz.prog 7 #[.agg #[.bool a.n, .slice a.p a.l a.c, .bool a.m, .slice a.p2 a.l2 a.c2]] w fun e w' => e = .returned (.bool a.sm) ∧ Ext w w' := small_is rfl w
set_option maxRecDepth 20000 in
set_option maxHeartbeats 4000000 in
theorem smallSpans_any (u : Value) (es : List (RV × RV)) (w : World) (hu : RawV w u es) (hn : es.length ≤ 9223372036854775807) :
  Calls Tryz.prog 6 #[u] w fun e w' => e = .returned (.bool (smAll es && decide (es.length ≤ 60))) ∧ Ext w w' := by
 obtain ⟨A, cu, rfl, hA⟩ := hu
 have HA := zH hA
 clear hA
 go_enter Tryz.func6, Tryz.ntmps6
 go_wp2_with fail
 go_loopg [6] es.length (fun c i wr => ∃ k : Nat, k ≤ es.length ∧ c = es.length - k ∧ i = .int .i64 k ∧ (∀ i x, i < k → es[i]? = some x → (x.1.sm && x.2.sm) = true) ∧ Ext w wr)
 case atStart => exact ⟨0, Nat.zero_le _, rfl, rfl, fun i x h => absurd h (Nat.not_lt_zero _), Ext.refl _⟩
 case round =>
  obtain ⟨k, hk, rfl, rfl, ho, hx⟩ := hrel
  have HO := zH ho
  have HX := zH hx
  clear ho hx
  by_cases hlt : k < es.length
  ·have hlt2 : (k : Int) < (es.length : Int) := by omega
   obtain ⟨x, hxx⟩ : ∃ x, es[k]? = some x := ⟨_, List.getElem?_eq_getElem hlt⟩
   obtain ⟨g, off, rfl, hp⟩ := HA.out (by omega)
   have HR := zH (range_ext (hp k x hxx) HX.out)
   have HXX := zH hxx
   have HLT := zH hlt
   obtain ⟨xa, xb⟩ := x
   clear hp hxx hlt
   go_upto_region 4 with fail
   by_cases h1 : xa.sm = true
   ·by_cases h2 : xb.sm = true
    ·refine wp_region_lit ?_
     refine qV (.slice (some ⟨g, off, none⟩) es.length cu) ?_
     refine zq (.int .i64 k) ?_
     refine qV (.pointer (some ⟨g, off + k * 8, none⟩)) ?_
     refine zq (.pointer (some ⟨g, off + k * 8, none⟩)) ?_
     refine wpList_if (by rfl) (wp_load_mid _ _ (by rfl) g (off + k * 8) (by rfl) [.bool xa.n, .slice xa.p xa.l xa.c, .bool xa.m, .slice xa.p2 xa.l2 xa.c2] _ (range_left (a := [.bool xa.n, .slice xa.p xa.l xa.c, .bool xa.m, .slice xa.p2 xa.l2 xa.c2]) (b := [.bool xb.n, .slice xb.p xb.l xb.c, .bool xb.m, .slice xb.p2 xb.l2 xb.c2]) HR.out) Tryz.underlying27 (by rfl) (by kernel_rfl) ?_)
     try simp only [Act.put, zA, zB, zC]
     refine mv_call (by rfl) (by go_simp) (small_is h1 _) ?_
     rintro e w5 ⟨rfl, hx⟩
     have HEw5 := zH (show Ext wr w5 from ((Ext.refl wr)).trans hx)
     clear hx
     refine ⟨_, rfl, ?_⟩
     try simp only [Act.put, zA, zB, zC]
     refine qV (.bool false) ?_
     refine zq (.bool false) ?_
     refine qV (.slice (some ⟨g, off, none⟩) es.length cu) ?_
     refine zq (.int .i64 k) ?_
     refine qV (.pointer (some ⟨g, off + k * 8, none⟩)) ?_
     refine zq (.pointer (some ⟨g, off + k * 8 + 4, none⟩)) ?_
     refine wpList_if (by rfl) (wp_load_mid _ _ (by rfl) g (off + k * 8 + 4) (by rfl) [.bool xb.n, .slice xb.p xb.l xb.c, .bool xb.m, .slice xb.p2 xb.l2 xb.c2] _ (range_right (a := [.bool xa.n, .slice xa.p xa.l xa.c, .bool xa.m, .slice xa.p2 xa.l2 xa.c2]) (b := [.bool xb.n, .slice xb.p xb.l xb.c, .bool xb.m, .slice xb.p2 xb.l2 xb.c2]) (n := 4) (range_ext HR.out HEw5.out) rfl) Tryz.underlying27 (by rfl) (by kernel_rfl) ?_)
     try simp only [Act.put, zA, zB, zC]
     refine mv_call (by rfl) (by go_simp) (small_is h2 _) ?_
     rintro e w6 ⟨rfl, hx⟩
     have HEw6 := zH (show Ext wr w6 from (HEw5.out).trans hx)
     clear hx
     refine ⟨_, rfl, ?_⟩
     try simp only [Act.put, zA, zB, zC]
     refine qV (.bool false) ?_
     refine zq (.bool false) ?_
     go_wp2_with fail
     go_roundg (es.length - (k + 1))
     case measure => have := HLT.out; omega
     case rel => exact ⟨k + 1, HLT.out, rfl, by go_num, fun i x hi hx2 => by
      rcases Nat.lt_or_ge i k with h | h
      ·exact HO.out i x h hx2
      obtain rfl : i = k := by omega
      rw [HXX.out] at hx2
      injection hx2 with hx2
      rw [← hx2, h1, h2]; rfl, HX.out.trans HEw6.out⟩
    replace h2 : xb.sm = false := eq_false_of_ne_true h2
    refine wp_region_lit ?_
    refine qV (.slice (some ⟨g, off, none⟩) es.length cu) ?_
    refine zq (.int .i64 k) ?_
    refine qV (.pointer (some ⟨g, off + k * 8, none⟩)) ?_
    refine zq (.pointer (some ⟨g, off + k * 8, none⟩)) ?_
    refine wpList_if (by rfl) (wp_load_mid _ _ (by rfl) g (off + k * 8) (by rfl) [.bool xa.n, .slice xa.p xa.l xa.c, .bool xa.m, .slice xa.p2 xa.l2 xa.c2] _ (range_left (a := [.bool xa.n, .slice xa.p xa.l xa.c, .bool xa.m, .slice xa.p2 xa.l2 xa.c2]) (b := [.bool xb.n, .slice xb.p xb.l xb.c, .bool xb.m, .slice xb.p2 xb.l2 xb.c2]) HR.out) Tryz.underlying27 (by rfl) (by kernel_rfl) ?_)
    try simp only [Act.put, zA, zB, zC]
    refine mv_call (by rfl) (by go_simp) (small_is h1 _) ?_
    rintro e w5 ⟨rfl, hx⟩
    have HEw5 := zH (show Ext wr w5 from ((Ext.refl wr)).trans hx)
    clear hx
    refine ⟨_, rfl, ?_⟩
    try simp only [Act.put, zA, zB, zC]
    refine qV (.bool false) ?_
    refine zq (.bool false) ?_
    refine qV (.slice (some ⟨g, off, none⟩) es.length cu) ?_
    refine zq (.int .i64 k) ?_
    refine qV (.pointer (some ⟨g, off + k * 8, none⟩)) ?_
    refine zq (.pointer (some ⟨g, off + k * 8 + 4, none⟩)) ?_
    refine wpList_if (by rfl) (wp_load_mid _ _ (by rfl) g (off + k * 8 + 4) (by rfl) [.bool xb.n, .slice xb.p xb.l xb.c, .bool xb.m, .slice xb.p2 xb.l2 xb.c2] _ (range_right (a := [.bool xa.n, .slice xa.p xa.l xa.c, .bool xa.m, .slice xa.p2 xa.l2 xa.c2]) (b := [.bool xb.n, .slice xb.p xb.l xb.c, .bool xb.m, .slice xb.p2 xb.l2 xb.c2]) (n := 4) (range_ext HR.out HEw5.out) rfl) Tryz.underlying27 (by rfl) (by kernel_rfl) ?_)
    try simp only [Act.put, zA, zB, zC]
    refine mv_call (by rfl) (by go_simp) (small_is h2 _) ?_
    rintro e w6 ⟨rfl, hx⟩
    have HEw6 := zH (show Ext wr w6 from (HEw5.out).trans hx)
    clear hx
    refine ⟨_, rfl, ?_⟩
    try simp only [Act.put, zA, zB, zC]
    refine qV (.bool true) ?_
    refine zq (.bool true) ?_
    go_wp2_with fail
    go_ret
    exact ⟨by rw [smAll_stop HXX.out (by rw [h1, h2]; rfl)]; rfl, HX.out.trans HEw6.out⟩
   replace h1 : xa.sm = false := eq_false_of_ne_true h1
   refine wp_region_lit ?_
   refine qV (.slice (some ⟨g, off, none⟩) es.length cu) ?_
   refine zq (.int .i64 k) ?_
   refine qV (.pointer (some ⟨g, off + k * 8, none⟩)) ?_
   refine zq (.pointer (some ⟨g, off + k * 8, none⟩)) ?_
   refine wpList_if (by rfl) (wp_load_mid _ _ (by rfl) g (off + k * 8) (by rfl) [.bool xa.n, .slice xa.p xa.l xa.c, .bool xa.m, .slice xa.p2 xa.l2 xa.c2] _ (range_left (a := [.bool xa.n, .slice xa.p xa.l xa.c, .bool xa.m, .slice xa.p2 xa.l2 xa.c2]) (b := [.bool xb.n, .slice xb.p xb.l xb.c, .bool xb.m, .slice xb.p2 xb.l2 xb.c2]) HR.out) Tryz.underlying27 (by rfl) (by kernel_rfl) ?_)
   try simp only [Act.put, zA, zB, zC]
   refine mv_call (by rfl) (by go_simp) (small_is h1 _) ?_
   rintro e w5 ⟨rfl, hx⟩
   have HEw5 := zH (show Ext wr w5 from ((Ext.refl wr)).trans hx)
   clear hx
   refine ⟨_, rfl, ?_⟩
   try simp only [Act.put, zA, zB, zC]
   refine qV (.bool true) ?_
   refine zq (.bool true) ?_
   refine zk ?_
   refine zk ?_
   refine zk ?_
   refine zk ?_
   refine zk ?_
   refine zk ?_
   refine zk ?_
   refine zq (.bool true) ?_
   go_wp2_with fail
   go_ret
   exact ⟨by rw [smAll_stop HXX.out (by rw [h1]; rfl)]; rfl, HX.out.trans HEw5.out⟩
  obtain rfl : k = es.length := by omega
  have hge : ¬ (es.length : Int) < (es.length : Int) := by omega
  have HE := zH (smAll_end HO.out)
  have hd : decide ((es.length : Int) ≤ 60) = decide (es.length ≤ 60) := decide_eq_decide.2 (by omega)
  go_wp2_with fail
  go_ret
  exact ⟨by rw [HE.out, Bool.true_and, ← hd]; rfl, HX.out⟩
end Go.Proofs.YtaeeeailoiioaabGreat

namespace Go.Proofs.YtaeeeailoiioaabGreat
open Go.RowKit
attribute [local go_sem ↓] Go.wp_at_zero Go.wp_at_succ run_eql_point run_neq_point

def clampI (n lo hi : Int) : Int := if n < lo then lo else if hi < n then hi else n

theorem clamp_any (n lo hi : Int) (w : World) :
    Calls Tryz.prog 141 #[.int .i64 n, .int .i64 lo, .int .i64 hi] w fun e w' => e = .returned (.int .i64 (clampI n lo hi)) ∧ w = w' := by
  go_enter Tryz.func141, Tryz.ntmps141
  go_wp2_with fail
  all_goals go_ret
  all_goals refine ⟨ret_int ?_, rfl⟩
  all_goals unfold clampI
  · rw [if_pos ‹_›]
  · rw [if_neg (by omega), if_pos ‹_›]
  · rw [if_neg (by omega), if_neg (by omega)]

theorem held_any (n : Int) (w : World) :
    Calls Tryz.prog 139 #[.int .i64 n] w fun e w' => e = .returned (.int .i64 (clampI n (-1048576) 1048576)) ∧ w = w' := by
  go_enter Tryz.func139, Tryz.ntmps139
  go_wp2_with (go_at_call 141; refine (clamp_any _ _ _ _).mono ?_; rintro e w' ⟨rfl, rfl⟩)
  go_ret
  exact ⟨rfl, rfl⟩

theorem hold_any (x y : Int) (w : World) :
    Calls Tryz.prog 136 #[.agg #[.int .i64 x, .int .i64 y]] w fun e w' => e = .returned (.agg #[.int .i64 (clampI x (-1048576) 1048576), .int .i64 (clampI y (-1048576) 1048576)]) ∧ Ext w w' := by
  go_enter Tryz.func136, Tryz.ntmps136
  go_wp2_with fail
  go_region_held3 (fun w' => w'.cell? ⟨w.heap.size, 0, none⟩ = some (.int .i64 x) ∧ w'.cell? ⟨w.heap.size, 1, none⟩ = some (.int .i64 y)) (go_keep)
    (first | (go_at_call 139; refine (held_any _ _).mono ?_; rintro e w' ⟨rfl, rfl⟩))
  go_wp2_with fail
  refine bodyPost_ret (v := .agg #[.int .i64 (clampI x (-1048576) 1048576), .int .i64 (clampI y (-1048576) 1048576)]) (by simp [results, Tryz.results136, go_sem]) rfl ⟨rfl, ?_⟩
  exact ((((Ext.refl _).alloc _).alloc _).drew)

theorem eq_clamp (x : Int) : (clampI x (-1048576) 1048576 == x) = decide (-1048576 ≤ x ∧ x ≤ 1048576) := by
  rw [Bool.eq_iff_iff]
  unfold clampI
  simp only [beq_iff_eq, decide_eq_true_eq]
  split
  · omega
  · split <;> omega

def okPt (x y : Int) : Bool := decide (-1048576 ≤ x ∧ x ≤ 1048576) && decide (-1048576 ≤ y ∧ y ≤ 1048576)

theorem valid_any (x y : Int) (w : World) :
    Calls Tryz.prog 127 #[.agg #[.int .i64 x, .int .i64 y]] w fun e w' => e = .returned (.bool (okPt x y)) ∧ Ext w w' := by
  have h0 : ∀ w', Ext (w.alloc (.cells #[.int .i64 x, .int .i64 y] 53)) w' → w'.cell? ⟨w.heap.size, 0, none⟩ = some (.int .i64 x) := fun w' h => h.get (by simp)
  have h1 : ∀ w', Ext (w.alloc (.cells #[.int .i64 x, .int .i64 y] 53)) w' → w'.cell? ⟨w.heap.size, 1, none⟩ = some (.int .i64 y) := fun w' h => h.get (by simp)
  go_enter Tryz.func127, Tryz.ntmps127
  go_wp2_with fail
  go_region_held3 (fun w' => Ext (w.alloc (.cells #[.int .i64 x, .int .i64 y] 53)) w') (first | assumption | exact Ext.drew (Ext.refl _) | (apply Ext.via; assumption; assumption))
    (first | (go_at_call 136; refine (hold_any _ _ _).mono ?_; rintro e w' ⟨rfl, hb⟩))
  go_wp2_with fail
  go_ret
  refine ⟨?_, ((Ext.refl _).alloc _).trans ‹_›⟩
  rw [eq_clamp, eq_clamp]; rfl

def PtsAt (w : World) (b off : Nat) (ps : List (Int × Int)) : Prop :=
  ∀ i, i < ps.length → w.cell? ⟨b, off + i * 2, none⟩ = some (.int .i64 (ps.getD i (0, 0)).1) ∧ w.cell? ⟨b, off + i * 2 + 1, none⟩ = some (.int .i64 (ps.getD i (0, 0)).2)

theorem PtsAt.ext {w w' : World} {b off : Nat} {ps : List (Int × Int)} (h : PtsAt w b off ps) (e : Ext w w') : PtsAt w' b off ps :=
  fun i hi => ⟨e.get (h i hi).1, e.get (h i hi).2⟩

def okAll (ps : List (Int × Int)) : Bool := ps.all fun p => okPt p.1 p.2

theorem okAll_take_succ (ps : List (Int × Int)) (k : Nat) (hk : k < ps.length) :
    okAll (ps.take (k + 1)) = (okAll (ps.take k) && okPt (ps.getD k (0, 0)).1 (ps.getD k (0, 0)).2) := by
  unfold okAll
  rw [List.take_succ_eq_append_getElem hk, List.all_append]
  simp [List.getD, hk]

theorem okAll_stop (ps : List (Int × Int)) (k : Nat) (hk : k < ps.length) (h : okPt ps[k].1 ps[k].2 = false) : okAll ps = false := by
  unfold okAll
  rw [List.all_eq_false]
  exact ⟨ps[k], List.getElem_mem hk, by simp [h]⟩
theorem okAll_end (ps : List (Int × Int)) (k : Nat) (hk : k ≤ ps.length) (hge : ¬ k < ps.length) (h0 : okAll (ps.take k) = true) : okAll ps = true := by
  rwa [List.take_of_length_le (by omega)] at h0

end Go.Proofs.YtaeeeailoiioaabGreat

namespace Go.Proofs.YtaeeeailoiioaabGreat
open Go.RowKit
attribute [local go_sem ↓] Go.wp_at_zero Go.wp_at_succ run_eql_point run_neq_point run_max_ii run_min_ii

def PtsV (w : World) (v : Value) (ps : List (Int × Int)) : Prop :=
  ∃ (A : Option Addr) (cap : Nat), v = .slice A ps.length cap ∧ (ps ≠ [] → ∃ g off, A = some ⟨g, off, none⟩ ∧ PtsAt w g off ps)
theorem PtsV.ext {w w' : World} {v : Value} {ps : List (Int × Int)} (h : PtsV w v ps) (e : Ext w w') : PtsV w' v ps := by
  obtain ⟨A, cap, hv, ha⟩ := h
  exact ⟨A, cap, hv, fun hn => by obtain ⟨g, off, hA, hp⟩ := ha hn; exact ⟨g, off, hA, hp.ext e⟩⟩
abbrev Ring := List (Int × Int)
def RingsV (w : World) (v : Value) (rs : List Ring) : Prop :=
  ∃ (A : Option Addr) (cap : Nat), v = .slice A rs.length cap ∧ (0 < rs.length → ∃ g off, A = some ⟨g, off, none⟩ ∧ ∀ i r, rs[i]? = some r → ∃ B cb, w.cell? ⟨g, off + i, none⟩ = some (.slice B r.length cb) ∧ PtsV w (.slice B r.length cb) r)
theorem RingsV.ext {w w' : World} {v : Value} {rs : List Ring} (h : RingsV w v rs) (e : Ext w w') : RingsV w' v rs := by
  obtain ⟨A, cap, hv, ha⟩ := h
  refine ⟨A, cap, hv, fun hn => ?_⟩
  obtain ⟨g, off, hA, hp⟩ := ha hn
  refine ⟨g, off, hA, fun i r hr => ?_⟩
  obtain ⟨B, cb, h1, h2⟩ := hp i r hr
  exact ⟨B, cb, e.get h1, h2.ext e⟩
def tot (rs : List Ring) : Nat := rs.foldl (fun n r => n + r.length) 0
theorem tot_succ {rs : List Ring} {k : Nat} {r : Ring} (h : rs[k]? = some r) : tot (rs.take (k + 1)) = tot (rs.take k) + r.length := by
  obtain ⟨hk, rfl⟩ := List.getElem?_eq_some_iff.1 h
  unfold tot
  rw [List.take_succ_eq_append_getElem hk, List.foldl_append]
  rfl
theorem foldl_tot (rs : List Ring) (n : Nat) : rs.foldl (fun n r => n + r.length) n = n + tot rs := by
  induction rs generalizing n with
  | nil => rfl
  | cons r rs ih =>
    show rs.foldl (fun n r => n + r.length) (n + r.length) = n + rs.foldl (fun n r => n + r.length) (0 + r.length)
    rw [ih, ih (0 + r.length)]
    omega
theorem tot_app (a b : List Ring) : tot (a ++ b) = tot a + tot b := by
  have h := foldl_tot b (tot a)
  rw [← h]
  unfold tot
  rw [List.foldl_append]
theorem tot_take (rs : List Ring) (k : Nat) : tot (rs.take k) ≤ tot rs := by
  have h := tot_app (rs.take k) (rs.drop k)
  rw [List.take_append_drop] at h
  omega
def okR (rs : List Ring) : Bool := decide (tot rs ≤ 4096) && rs.all okAll
theorem okR_stop {rs : List Ring} {k : Nat} {r : Ring} (h : rs[k]? = some r) (h2 : 4096 < tot (rs.take (k + 1)) ∨ okAll r = false) : okR rs = false := by
  unfold okR
  rcases h2 with h2 | h2
  · have h3 : decide (tot rs ≤ 4096) = false := by
      rw [decide_eq_false_iff_not]
      have := tot_take rs (k + 1)
      omega
    rw [h3]; rfl
  · have h3 : rs.all okAll = false := by
      rw [List.all_eq_false]
      exact ⟨r, List.mem_of_getElem? h, by simp [h2]⟩
    rw [h3, Bool.and_false]
theorem okR_end {rs : List Ring} (h1 : tot rs ≤ 4096) (h2 : ∀ i r, i < rs.length → rs[i]? = some r → okAll r = true) : okR rs = true := by
  unfold okR
  rw [decide_eq_true h1, Bool.true_and, List.all_eq_true]
  intro r hr
  obtain ⟨i, hi⟩ := List.mem_iff_getElem?.1 hr
  exact h2 i r (List.getElem?_eq_some_iff.1 hi).1 hi

theorem pvc_any (x y : Int) (w : World) :
    Calls Tryz.prog 135 #[.agg #[.int .i64 x, .int .i64 y]] w fun e w' => e = .returned (.bool (!okPt x y)) ∧ Ext w w' := by
  go_enter Tryz.func135, Tryz.ntmps135
  go_wp2_with (go_at_call 127; refine (valid_any _ _ _).mono ?_; rintro e w2 ⟨rfl, hx⟩)
  go_ret
  exact ⟨rfl, ((Ext.refl _).alloc _).trans hx⟩

theorem mvc_any (x y : Int) (w : World) :
    Calls Tryz.prog 126 #[.agg #[.int .i64 x, .int .i64 y]] w fun e w' => e = .returned (.bool (!okPt x y)) ∧ Ext w w' := by
  go_enter Tryz.func126, Tryz.ntmps126
  go_wp2_with (go_at_call 127; refine (valid_any _ _ _).mono ?_; rintro e w2 ⟨rfl, hx⟩)
  go_ret
  exact ⟨rfl, ((Ext.refl _).alloc _).trans hx⟩

set_option maxRecDepth 20000 in
theorem pvi_any (u : Value) (ps : List (Int × Int)) (w : World) (hu : PtsV w u ps) (hn : ps.length ≤ 100000) :
    Calls Tryz.prog 137 #[u, .func (.func 135) #[] #[]] w fun e w' => ∃ z : Int, e = .returned (.int .i64 z) ∧ (decide (0 ≤ z)) = (!okAll ps) ∧ Ext w w' := by
  obtain ⟨A, cu, rfl, hA⟩ := hu
  have HA := zH hA
  clear hA
  go_enter Tryz.func137, Tryz.ntmps137
  go_wp2_with fail
  go_loopg [8] ps.length (fun c i wr => ∃ k : Nat, k ≤ ps.length ∧ c = ps.length - k ∧ i = .int .i64 k ∧ okAll (ps.take k) = true ∧ Ext w wr)
  case atStart => exact ⟨0, Nat.zero_le _, rfl, rfl, rfl, Ext.refl _⟩
  case round =>
    obtain ⟨k, hk, rfl, rfl, ho, hx⟩ := hrel
    have HO := zH ho
    have HX := zH hx
    clear ho hx
    by_cases hlt : k < ps.length
    · obtain ⟨g, off, rfl, hp⟩ := HA.out (by rintro rfl; simp at hlt)
      obtain ⟨c0, c1⟩ := (hp.ext HX.out) k hlt
      have HSU := zH (okAll_take_succ ps k hlt)
      have HST := zH (fun h => okAll_stop ps k hlt h)
      have hgd : ps.getD k (0, 0) = ps[k] := by simp [List.getD, hlt]
      rw [hgd] at c0 c1 HSU
      have hlt2 : (k : Int) < (ps.length : Int) := by omega
      have HLT := zH hlt
      generalize ps[k] = x at *
      clear hp hgd hlt
      by_cases hx : okPt x.1 x.2 = true
      · have hb : (!okPt x.1 x.2) = false := by rw [hx]; rfl
        go_upto_if 16 with (go_at_call 135; refine (pvc_any _ _ _).mono ?_; rintro e w2 ⟨rfl, hx2⟩)
        go_wp2_with fail
        go_roundg (ps.length - (k + 1))
        case measure => have := HLT.out; omega
        case rel => exact ⟨k + 1, HLT.out, rfl, by go_num, by rw [HSU.out, HO.out, hx]; rfl, HX.out.trans hx2⟩
      · have hb : (!okPt x.1 x.2) = true := by rw [eq_false_of_ne_true hx]; rfl
        go_upto_if 16 with (go_at_call 135; refine (pvc_any _ _ _).mono ?_; rintro e w2 ⟨rfl, hx2⟩)
        go_wp2_with fail
        go_ret
        exact ⟨_, rfl, by rw [HST.out (eq_false_of_ne_true hx)]; simp, HX.out.trans hx2⟩
    · have HE := zH (okAll_end ps k hk hlt HO.out)
      have hge : ¬ (k : Int) < (ps.length : Int) := by omega
      go_wp2_with fail
      go_ret
      exact ⟨_, rfl, by rw [HE.out]; simp, HX.out⟩
theorem pviC_any (u : Value) (ps : List (Int × Int)) (w : World) (hu : PtsV w u ps) (hn : ps.length ≤ 100000) :
    Calls Tryz.prog 125 #[u, .func (.func 135) #[] #[]] w fun e w' => e = .returned (.bool (!okAll ps)) ∧ Ext w w' := by
  have HC := zH (pvi_any u ps w hu hn)
  clear hu
  go_enter Tryz.func125, Tryz.ntmps125
  go_wp2_with (go_at_call 137; refine HC.out.mono ?_; rintro e w2 ⟨z, rfl, hz, hx2⟩)
  go_ret
  exact ⟨by rw [← hz]; rfl, hx2⟩

set_option maxRecDepth 20000 in
theorem mvi_any (u : Value) (ps : List (Int × Int)) (w : World) (hu : PtsV w u ps) (hn : ps.length ≤ 100000) :
    Calls Tryz.prog 137 #[u, .func (.func 126) #[] #[]] w fun e w' => ∃ z : Int, e = .returned (.int .i64 z) ∧ (decide (0 ≤ z)) = (!okAll ps) ∧ Ext w w' := by
  obtain ⟨A, cu, rfl, hA⟩ := hu
  have HA := zH hA
  clear hA
  go_enter Tryz.func137, Tryz.ntmps137
  go_wp2_with fail
  go_loopg [8] ps.length (fun c i wr => ∃ k : Nat, k ≤ ps.length ∧ c = ps.length - k ∧ i = .int .i64 k ∧ okAll (ps.take k) = true ∧ Ext w wr)
  case atStart => exact ⟨0, Nat.zero_le _, rfl, rfl, rfl, Ext.refl _⟩
  case round =>
    obtain ⟨k, hk, rfl, rfl, ho, hx⟩ := hrel
    have HO := zH ho
    have HX := zH hx
    clear ho hx
    by_cases hlt : k < ps.length
    · obtain ⟨g, off, rfl, hp⟩ := HA.out (by rintro rfl; simp at hlt)
      obtain ⟨c0, c1⟩ := (hp.ext HX.out) k hlt
      have HSU := zH (okAll_take_succ ps k hlt)
      have HST := zH (fun h => okAll_stop ps k hlt h)
      have hgd : ps.getD k (0, 0) = ps[k] := by simp [List.getD, hlt]
      rw [hgd] at c0 c1 HSU
      have hlt2 : (k : Int) < (ps.length : Int) := by omega
      have HLT := zH hlt
      generalize ps[k] = x at *
      clear hp hgd hlt
      by_cases hx : okPt x.1 x.2 = true
      · have hb : (!okPt x.1 x.2) = false := by rw [hx]; rfl
        go_upto_if 16 with (go_at_call 126; refine (mvc_any _ _ _).mono ?_; rintro e w2 ⟨rfl, hx2⟩)
        go_wp2_with fail
        go_roundg (ps.length - (k + 1))
        case measure => have := HLT.out; omega
        case rel => exact ⟨k + 1, HLT.out, rfl, by go_num, by rw [HSU.out, HO.out, hx]; rfl, HX.out.trans hx2⟩
      · have hb : (!okPt x.1 x.2) = true := by rw [eq_false_of_ne_true hx]; rfl
        go_upto_if 16 with (go_at_call 126; refine (mvc_any _ _ _).mono ?_; rintro e w2 ⟨rfl, hx2⟩)
        go_wp2_with fail
        go_ret
        exact ⟨_, rfl, by rw [HST.out (eq_false_of_ne_true hx)]; simp, HX.out.trans hx2⟩
    · have HE := zH (okAll_end ps k hk hlt HO.out)
      have hge : ¬ (k : Int) < (ps.length : Int) := by omega
      go_wp2_with fail
      go_ret
      exact ⟨_, rfl, by rw [HE.out]; simp, HX.out⟩
theorem mviC_any (u : Value) (ps : List (Int × Int)) (w : World) (hu : PtsV w u ps) (hn : ps.length ≤ 100000) :
    Calls Tryz.prog 125 #[u, .func (.func 126) #[] #[]] w fun e w' => e = .returned (.bool (!okAll ps)) ∧ Ext w w' := by
  have HC := zH (mvi_any u ps w hu hn)
  clear hu
  go_enter Tryz.func125, Tryz.ntmps125
  go_wp2_with (go_at_call 137; refine HC.out.mono ?_; rintro e w2 ⟨z, rfl, hz, hx2⟩)
  go_ret
  exact ⟨by rw [← hz]; rfl, hx2⟩

set_option maxRecDepth 20000 in
set_option maxHeartbeats 1000000 in
theorem polyValid_any (u : Value) (rs : List Ring) (w : World) (hu : RingsV w u rs) (hn : rs.length ≤ 100000) (hr : ∀ r, r ∈ rs → r.length ≤ 100000) :
    Calls Tryz.prog 123 #[u] w fun e w' => e = .returned (.bool (okR rs)) ∧ Ext w w' := by
  obtain ⟨A, cu, rfl, hA⟩ := hu
  have HA := zH hA
  have HR := zH hr
  clear hA hr
  go_enter Tryz.func123, Tryz.ntmps123
  go_wp2_with fail
  go_loopg [3, 8] rs.length (fun c n i wr => ∃ k m : Nat, k ≤ rs.length ∧ c = rs.length - k ∧ i = .int .i64 k ∧ n = .int .i64 m ∧ m = tot (rs.take k) ∧ m ≤ 4096 ∧ (∀ i r, i < k → rs[i]? = some r → okAll r = true) ∧ Ext w wr)
  case atStart => exact ⟨0, 0, Nat.zero_le _, rfl, rfl, rfl, rfl, Nat.zero_le _, fun i r h => absurd h (Nat.not_lt_zero _), Ext.refl _⟩
  case round =>
    obtain ⟨k, m, hk, rfl, rfl, rfl, hm, hm2, ho, hx⟩ := hrel
    have HO := zH ho
    have HX := zH hx
    have HM := zH hm
    clear ho hx hm
    by_cases hlt : k < rs.length
    · obtain ⟨r, hr⟩ : ∃ r, rs[k]? = some r := ⟨_, List.getElem?_eq_getElem hlt⟩
      obtain ⟨g, off, rfl, hp⟩ := HA.out (by omega)
      obtain ⟨B, cb, h1, h2⟩ := hp k r hr
      have c1 := HX.out.get h1
      have HP := zH (h2.ext HX.out)
      have HRL := zH (HR.out r (List.mem_of_getElem? hr))
      have HRK := zH hr
      have HTS := zH (tot_succ hr)
      have hlt2 : (k : Int) < (rs.length : Int) := by omega
      have HLT := zH hlt
      have hrl := HRL.out
      obtain ⟨m2, hm3⟩ : ∃ m2, m2 = m + r.length := ⟨_, rfl⟩
      have e1 : (m : Int) + (r.length : Int) = (m2 : Int) := by omega
      have wm : IntKind.i64.wrap (m2 : Int) = (m2 : Int) := by rw [IntKind.wrap_i64]; omega
      have HM2 := zH (show m2 = tot (rs.take (k + 1)) by rw [HTS.out, ← HM.out]; exact hm3)
      clear hp h1 h2 hr hlt hm3
      by_cases hbig : 4096 < m2
      · have hbz : (4096 : Int) < (m2 : Int) := by omega
        have HF := zH (okR_stop HRK.out (Or.inl (by rw [← HM2.out]; exact hbig)))
        go_wp2_with fail
        go_ret
        exact ⟨by rw [HF.out]; rfl, HX.out⟩
      · have hbz : ¬ (4096 : Int) < (m2 : Int) := by omega
        by_cases hok : okAll r = true
        · have hb : (!okAll r) = false := by rw [hok]; rfl
          go_upto_region 6 with fail
          go_upto_if 21 with (go_at_call 125; refine (pviC_any _ r _ HP.out hrl).mono ?_; rintro e w2 ⟨rfl, hx2⟩)
          go_wp2_with fail
          go_roundg (rs.length - (k + 1))
          case measure => have := HLT.out; omega
          case rel => exact ⟨k + 1, m2, HLT.out, rfl, by go_num, rfl, HM2.out, by omega, fun i r2 hi hr2 => by
            rcases Nat.lt_or_ge i k with h | h
            · exact HO.out i r2 h hr2
            · obtain rfl : i = k := by omega
              rw [HRK.out] at hr2
              injection hr2 with hr2
              rw [← hr2]; exact hok, HX.out.trans hx2⟩
        · have hb : (!okAll r) = true := by rw [eq_false_of_ne_true hok]; rfl
          have HF := zH (okR_stop HRK.out (Or.inr (eq_false_of_ne_true hok)))
          go_upto_region 6 with fail
          go_upto_if 21 with (go_at_call 125; refine (pviC_any _ r _ HP.out hrl).mono ?_; rintro e w2 ⟨rfl, hx2⟩)
          go_wp2_with fail
          go_ret
          exact ⟨by rw [HF.out]; rfl, HX.out.trans hx2⟩
    · obtain rfl : k = rs.length := by omega
      have HF := zH (okR_end (rs := rs) (by have h := HM.out; rw [List.take_of_length_le (Nat.le_refl _)] at h; omega) HO.out)
      have hge : ¬ (rs.length : Int) < (rs.length : Int) := by omega
      go_wp2_with fail
      go_ret
      exact ⟨by rw [HF.out]; rfl, HX.out⟩
theorem may_any (u : Value) (ps : List (Int × Int)) (w : World) (hu : PtsV w u ps) (hn : ps.length ≤ 100000) :
    Calls Tryz.prog 98 #[u] w fun e w' => e = .returned (.bool (okAll ps)) ∧ Ext w w' := by
  have HC := zH (mviC_any u ps w hu hn)
  clear hu
  go_enter Tryz.func98, Tryz.ntmps98
  go_wp2_with (go_at_call 125; refine HC.out.mono ?_; rintro e w2 ⟨rfl, hx2⟩)
  go_ret
  exact ⟨by simp, hx2⟩
end Go.Proofs.YtaeeeailoiioaabGreat

namespace Go.Proofs.YtaeeeailoiioaabGreat
open Go.ChangeShapes Go.WideShapes Go.ChangeAt Go.RowKit

theorem cells_spanQ : Tryz.prog.cellsOf 51 = 8 := by kernel_rfl
theorem cells_rat2Q : Tryz.prog.cellsOf 28 = 8 := by kernel_rfl
instance : Inhabited RV := ⟨⟨false, none, 0, 0, false, none, 0, 0⟩⟩
def RawL (w : World) (es : List (RV × RV)) : Prop := ∀ x, x ∈ es → x.1.Raw w ∧ x.2.Raw w
section
variable {H : Type} {enc : TypeId × Value → H} {w : World} {base : Nat} {held : Bool}
theorem span_openQ {fuel : Nat} {cs : List Value} {x : DataW H × List MemPlace} (h : DataW.trod enc Tryz.prog w base (fun _ => true) held fuel 51 cs = some x) :
    ∃ e : RV × RV, cs = SpE.cells ⟨e.1, e.2, 0, 0⟩ ∧ e.1.Raw w ∧ e.2.Raw w := by
  obtain ⟨y0, y1, n, _, hl, h0, h1⟩ := trod_struct2 Tryz.underlying51 h
  rw [cells_spanQ] at hl
  rw [cells_rat] at h0 h1
  obtain ⟨a, e0, r0⟩ := rat_open h0
  obtain ⟨b, e1, r1⟩ := rat_open h1
  match cs, hl with
  | [c0, c1, c2, c3, c4, c5, c6, c7], _ =>
    simp at e0 e1
    refine ⟨(a, b), ?_, r0, r1⟩
    simp [SpE.cells, e0, e1]
theorem spans_openQ {fuel : Nat} {cs : List Value} {x : DataW H × List MemPlace} (h : DataW.trod enc Tryz.prog w base (fun _ => true) held fuel 22 cs = some x) :
  ∃ (A : Option Addr) (l : List (RV × RV)) (cap : Nat), cs = [.slice A l.length cap] ∧ l.length ≤ maxLen ∧ RawV w (.slice A l.length cap) l ∧ RawL w l := by
 obtain ⟨A, len, cap, rfl, hl, hm, hx⟩ := slice_open Tryz.underlying22 (by rw [cells_spanQ]; decide) h
 by_cases h0 : 0 < len
 ·obtain ⟨g, off, rfl, hx'⟩ := hx h0
  rw [cells_spanQ] at hx'
  obtain ⟨l, rfl, hl2⟩ := list_of (α := RV × RV) len (fun i s => (∀ j u, (SpE.cells ⟨s.1, s.2, 0, 0⟩)[j]? = some u → w.cell? ⟨g, off + i * 8 + j, none⟩ = some u) ∧ s.1.Raw w ∧ s.2.Raw w) (fun i hi => by
   obtain ⟨cs', n, y, _, h2, h3⟩ := hx' i hi
   obtain ⟨s, rfl, r1, r2⟩ := span_openQ h3
   exact ⟨s, h2, r1, r2⟩)
  refine ⟨_, l, cap, rfl, by omega, ⟨_, cap, rfl, fun _ => ⟨g, off, rfl, fun i x hx => ?_⟩⟩, fun x hx => ?_⟩
  ·have hi := (List.getElem?_eq_some_iff.1 hx).1
   have h := (hl2 i default hi).1
   rw [List.getD_eq_getElem?_getD, hx] at h
   exact h
  obtain ⟨i, hi⟩ := List.mem_iff_getElem?.1 hx
  have h := (hl2 i default (List.getElem?_eq_some_iff.1 hi).1).2
  rw [List.getD_eq_getElem?_getD, hi] at h
  exact h
 obtain rfl : len = 0 := by omega
 exact ⟨A, [], cap, rfl, Nat.zero_le _, ⟨A, cap, rfl, fun hn => absurd hn (by simp)⟩, fun x hx => by simp at hx⟩
theorem rat2_openQ {fuel : Nat} {cs : List Value} {x : DataW H × List MemPlace} (h : DataW.trod enc Tryz.prog w base (fun _ => true) held fuel 28 cs = some x) :
  ∃ a b : RV, cs = [.bool a.n, .slice a.p a.l a.c, .bool a.m, .slice a.p2 a.l2 a.c2, .bool b.n, .slice b.p b.l b.c, .bool b.m, .slice b.p2 b.l2 b.c2] ∧ a.Raw w ∧ b.Raw w := by
 obtain ⟨xs, m, _, _, hl, hx, hi⟩ := DataW.trod_array Tryz.underlying28 h
 rw [cells_rat2Q] at hl
 rw [cells_rat] at hi
 match xs, hx with
 | [x0, x1], _ =>
  obtain ⟨a, ea, ra⟩ := rat_open (show DataW.trod enc Tryz.prog w base (fun _ => true) held m 27 _ = some x0 from hi 0 (by omega))
  obtain ⟨b, eb, rb⟩ := rat_open (show DataW.trod enc Tryz.prog w base (fun _ => true) held m 27 _ = some x1 from hi 1 (by omega))
  match cs, hl with
  | [c0, c1, c2, c3, c4, c5, c6, c7], _ =>
   simp at ea eb
   exact ⟨a, b, by simp [ea, eb], ra, rb⟩
end
theorem RawV.spans2 {w : World} {v : Value} {es : List (RV × RV)} (h : RawV w v es) (hr : RawL w es) (hs : smAll es = true) : ∃ ps : List (Rat × Rat), ps.length = es.length ∧ SpansV 20 w v ps ∧ ∀ (i : Nat) (x : RV × RV) (p : Rat × Rat), es[i]? = some x → ps[i]? = some p → x.1.In 20 w p.1 ∧ x.2.In 20 w p.2 := by
 obtain ⟨A, cap, rfl, h2⟩ := h
 obtain ⟨ps, hl, hp⟩ := list_of (α := Rat × Rat) es.length (fun i p => ∀ x, es[i]? = some x → x.1.In 20 w p.1 ∧ x.2.In 20 w p.2) (fun i hi => by
  have hm := List.getElem_mem hi
  obtain ⟨r1, r2⟩ := hr _ hm
  obtain ⟨q1, k1⟩ := r1.val
  obtain ⟨q2, k2⟩ := r2.val
  have hb := List.all_eq_true.1 hs _ hm
  simp only [RV.sm, Bool.and_eq_true, decide_eq_true_eq] at hb
  refine ⟨(q1, q2), fun x hx => ?_⟩
  obtain rfl : es[i] = x := by rw [List.getElem?_eq_getElem hi] at hx; injection hx
  exact ⟨k1 20 hb.1.1 hb.1.2, k2 20 hb.2.1 hb.2.2⟩)
 refine ⟨ps, hl, ⟨A, cap, by rw [hl], fun h0 => ?_⟩, fun i x p hx hpi => by
  have h5 := hp i (0, 0) (List.getElem?_eq_some_iff.1 hx).1 _ hx
  rwa [List.getD_eq_getElem?_getD, hpi] at h5⟩
 obtain ⟨g, off, h3, h4⟩ := h2 (by omega)
 refine ⟨g, off, h3, fun i p hip => ?_⟩
 have hi := (List.getElem?_eq_some_iff.1 hip).1
 have hi2 : i < es.length := by omega
 have hx := List.getElem?_eq_getElem hi2
 have h5 := hp i (0, 0) hi2 _ hx
 rw [List.getD_eq_getElem?_getD, hip] at h5
 exact ⟨_, h4 i _ hx, es[i].1, es[i].2, rfl, h5.1, h5.2⟩
theorem RawV.spans {w : World} {v : Value} {es : List (RV × RV)} (h : RawV w v es) (hr : RawL w es) (hs : smAll es = true) : ∃ ps : List (Rat × Rat), ps.length = es.length ∧ SpansV 20 w v ps := by
  obtain ⟨ps, h1, h2, _⟩ := h.spans2 hr hs
  exact ⟨ps, h1, h2⟩
theorem RV.sm_in {w : World} {a : RV} (h : a.Raw w) (hs : a.sm = true) : ∃ q : Rat, a.In 20 w q := by
  obtain ⟨q, k⟩ := h.val
  simp only [RV.sm, Bool.and_eq_true, decide_eq_true_eq] at hs
  exact ⟨q, k 20 hs.1 hs.2⟩
end Go.Proofs.YtaeeeailoiioaabGreat

namespace Go.Proofs.YtaeeeailoiioaabGreat
open Go.RowKit
attribute [local go_sem ↓] Go.wp_at_zero Go.wp_at_succ run_max_ii run_min_ii
def IntsV (w : World) (u : Value) (xs : List Int) : Prop := ∃ A c, u = .slice A xs.length c ∧ ∀ (k : Nat) (x : Int), xs[k]? = some x → ∃ g off, A = some ⟨g, off, none⟩ ∧ w.cell? ⟨g, off + k, none⟩ = some (.int .i64 x)
theorem IntsV.map {w w' : World} {u : Value} {xs : List Int} (h : IntsV w u xs) (k : Ext w w') : IntsV w' u xs := by
  obtain ⟨A, c, rfl, h⟩ := h
  refine ⟨A, c, rfl, fun i x hx => ?_⟩
  obtain ⟨g, off, rfl, h2⟩ := h i x hx
  exact ⟨g, off, rfl, k.get h2⟩
end Go.Proofs.YtaeeeailoiioaabGreat

namespace Go.Proofs.YtaeeeailoiioaabGreat
open Go.RowKit
attribute [local go_sem ↓] Go.wp_at_zero Go.wp_at_succ
theorem isNaN_any (n : Int) (w : World) : Calls Tryz.prog 103 #[.int .i64 n] w fun e w' => e = .returned (.bool false) ∧ Ext w w' := by
  have hne : (n != n) = false := by simp
  go_enter Tryz.func103, Tryz.ntmps103
  go_wp2_with fail
  go_ret
  exact ⟨by first | rfl | simp, Ext.refl _⟩
def cmpI (a b : Int) : Int := if a < b then -1 else if b < a then 1 else 0
theorem compare_any (a b : Int) (w : World) : Calls Tryz.prog 72 #[.int .i64 a, .int .i64 b] w fun e w' => e = .returned (.int .i64 (cmpI a b)) ∧ Ext w w' := by
 by_cases h1 : a < b
 ·have e : cmpI a b = -1 := by unfold cmpI; rw [if_pos h1]
  rw [e]
  go_enter Tryz.func72, Tryz.ntmps72
  go_wp2_with (go_at_call 103; refine (isNaN_any _ _).mono ?_; rintro e w2 ⟨rfl, hx2⟩)
  go_ret
  exact ⟨rfl, (Ext.refl _).trans (by first | assumption | (apply Ext.trans <;> assumption))⟩
 by_cases h2 : b < a
 ·have e : cmpI a b = 1 := by unfold cmpI; rw [if_neg h1, if_pos h2]
  rw [e]
  go_enter Tryz.func72, Tryz.ntmps72
  go_wp2_with (go_at_call 103; refine (isNaN_any _ _).mono ?_; rintro e w2 ⟨rfl, hx2⟩)
  go_ret
  exact ⟨rfl, (Ext.refl _).trans (by first | assumption | (apply Ext.trans <;> assumption))⟩
 have e : cmpI a b = 0 := by unfold cmpI; rw [if_neg h1, if_neg h2]
 rw [e]
 go_enter Tryz.func72, Tryz.ntmps72
 go_wp2_with (go_at_call 103; refine (isNaN_any _ _).mono ?_; rintro e w2 ⟨rfl, hx2⟩)
 go_ret
 exact ⟨rfl, (Ext.refl _).trans (by first | assumption | (apply Ext.trans <;> assumption))⟩
def orI (a b : Int) : Int := if a = 0 then b else a
theorem or_any (g off c : Nat) (a b : Int) (w : World) (h0 : w.cell? ⟨g, off, none⟩ = some (.int .i64 a)) (h1 : w.cell? ⟨g, off + 1, none⟩ = some (.int .i64 b)) :
  Calls Tryz.prog 71 #[.slice (some ⟨g, off, none⟩) 2 c] w fun e w' => e = .returned (.int .i64 (orI a b)) ∧ Ext w w' := by
 go_enter Tryz.func71, Tryz.ntmps71
 go_wp2_with fail
 go_loopg [8] 2 (fun d i wr => ∃ k : Nat, k ≤ 2 ∧ d = 2 - k ∧ i = .int .i64 k ∧ (0 < k → a = 0) ∧ (1 < k → b = 0) ∧ Ext w wr)
 case atStart => exact ⟨0, by omega, rfl, rfl, by omega, by omega, Ext.refl _⟩
 case round =>
  obtain ⟨k, hk, rfl, rfl, ha, hb, hx⟩ := hrel
  have HX := zH hx
  have k0 := hx.get h0
  have k1 := hx.get h1
  clear hx
  rcases (show k = 0 ∨ k = 1 ∨ k = 2 by omega) with rfl | rfl | rfl
  ·by_cases hz : a = 0
   ·subst hz
    go_wp2_with fail
    go_roundg 1
    case measure => omega
    case rel => exact ⟨1, by omega, rfl, by first | rfl | go_num, by simp, by omega, HX.out⟩
   clear ha hb
   go_wp2_with fail
   go_ret
   exact ⟨by simp [orI, hz], HX.out⟩
  ·have hz := ha (by omega)
   subst hz
   by_cases hz : b = 0
   ·subst hz
    clear ha hb
    go_wp2_with fail
    go_roundg 0
    case measure => omega
    case rel => exact ⟨2, by omega, rfl, by first | rfl | go_num, by simp, by simp, HX.out⟩
   clear ha hb
   go_wp2_with fail
   go_ret
   exact ⟨by simp [orI], HX.out⟩
  have hz := ha (by omega)
  have hz2 := hb (by omega)
  subst hz
  subst hz2
  clear ha hb
  go_wp2_with fail
  go_ret
  exact ⟨by simp [orI], HX.out⟩
end Go.Proofs.YtaeeeailoiioaabGreat

namespace Go.Proofs.YtaeeeailoiioaabGreat
open Go.RowKit
attribute [local go_sem ↓] Go.wp_at_zero Go.wp_at_succ run_max_ii run_min_ii

theorem noUn : NoU z4 := noU_of _ (by simp)
theorem NIs.own {w w' : World} {cs : Array Value} {q : Rat} (h : NIs w cs q) {g : Nat} {t : TypeId} {zs : Array Value} (hb : Blk w g t zs) (hn : NoU zs) (o : Own g w w') : NIs w' cs q := by
  obtain ⟨a, h1, h2⟩ := h
  exact ⟨a, h1, h2.own hb hn o⟩
theorem rlI (k : Int) (h : k.natAbs < 4294967296) : Nm.rl (k : Rat) ≤ 1 := by
  unfold Nm.rl
  rw [Rat.num_intCast, Rat.den_intCast]
  have h1 : Nm.nl k.natAbs ≤ 1 := Nm.nl_le (by omega)
  have h2 : Nm.nl 1 ≤ 1 := Nm.nl_le (by decide)
  omega
theorem pFromInts (a b : Int) (w : World) (h1 : -9223372036854775808 ≤ a) (h2 : a ≤ 9223372036854775807) (h3 : -9223372036854775808 ≤ b) (h4 : b ≤ 9223372036854775807) (hb : b ≠ 0) :
    Calls Tryz.prog 128 #[.int .i64 a, .int .i64 b] w fun e w' => ∃ c, e = .returned (.tuple #[.agg c, .int .i64 0]) ∧ NIs w' c ((a : Rat) / (b : Rat)) ∧ Ext w w' := by
  refine (rfromInts_any a b w h1 h2 h3 h4 hb).mono fun e w' h => ?_
  obtain ⟨c, rfl, h3, h4⟩ := RetRE.v h
  exact ⟨_, rfl, ⟨c, rfl, by rw [← Rat.divInt_eq_div]; exact h3⟩, h4⟩
set_option maxRecDepth 20000 in
set_option maxHeartbeats 8000000 in
theorem by_any (n d : Int) (w : World) (h1 : -9223372036854775808 ≤ n) (h2 : n ≤ 9223372036854775807) (h3 : -9223372036854775808 ≤ d) (h4 : d ≤ 9223372036854775807) (hd : d ≠ 0) :
  Calls Tryz.prog 100 #[.int .i64 n, .int .i64 d] w fun e w' => ∃ c, e = .returned (.agg c) ∧ NIs w' c ((n : Rat) / (d : Rat)) ∧ Ext w w' := by
 go_enter Tryz.func100, Tryz.ntmps100
 go_upto_region 1 with fail
 have hR0 : Blk (w.alloc (.cells z4 27)) (w.heap.size) 27 z4 := Blk.ext (Blk.new_at w _ (by simp) _ _) (Ext.refl _)
 have hE : Ext w (w.alloc (.cells z4 27)) := ((Ext.refl _).alloc _)
 have gR0 : w.heap.size ≤ w.heap.size := by omega
 generalize (w.alloc (.cells z4 27)) = wa at *
 have E1 : Hid (Ext w wa) := hE
 have FR0 := zH hR0
 clear hE hR0
 refine wp_region_lit ?_
 refine pV (w' := wa) ?_
 try simp only [Act.put, zA, zB, zC]
 refine pV (w' := wa) ?_
 try simp only [Act.put, zA, zB, zC]
 refine mv_call (by rfl) (by go_simp) (pFromInts n d _ h1 h2 h3 h4 hd) ?_
 rintro e w2 ⟨cf, rfl, hc, hx⟩
 have E2 : Hid (Ext wa w2) := hx
 have Fr := zH hc
 have ZF := hc.size
 have OF := hc.one
 clear hc
 clear hx
 refine ⟨_, rfl, ?_⟩
 try simp only [Act.put, zA, zB, zC]
 refine pV (w' := w2) ?_
 try simp only [Act.put, zA, zB, zC]
 refine pV (w' := w2) ?_
 try simp only [Act.put, zA, zB, zC]
 refine pV (w' := w2) ?_
 try simp only [Act.put, zA, zB, zC]
 refine zp (w' := w2.alloc (.cells z4 27)) (.pointer (some ⟨w2.heap.size, 0, none⟩)) (by go_simp) ?_
 refine pO cf (Blk.new w2 _ _) (Eq.trans ZF rfl) (by rw [show (cf : Array Value).size = 4 from ZF]; kernel_rfl) OF ?_
 (try simp only [Act.put])
 have nV5_R0 : w2.heap.size ≠ w.heap.size := Nat.ne_of_gt (Blk.lt (FR0.out.ext E2.out))
 obtain ⟨xq1, xq2⟩ := new_var w2 27 z4 cf (Eq.trans ZF rfl)
 generalize (w2.alloc (.cells z4 27)).setCells w2.heap.size 0 (cf : Array Value).toList = w3 at *
 generalize w2.heap.size = X3 at *
 have E3 : Hid (Ext w2 w3) := xq1
 have FV5 := zH xq2
 clear xq1 xq2
 refine pV (w' := w3) ?_
 try simp only [Act.put, zA, zB, zC]
 go_upto_region 2 with fail
 refine wp_region_lit ?_
 refine pL FV5.out Tryz.underlying27 (by rw [show (cf : Array Value).size = 4 from ZF]; kernel_rfl) ?_
 try simp only [Act.put, zA, zB, zC]
 have o1 := Own.setCells w3 w.heap.size cf
 have kb1 := (FR0.out.ext (tr E2 E3).out)
 refine pO cf kb1 (Eq.trans ZF rfl) (by rw [show (cf : Array Value).size = 4 from ZF]; kernel_rfl) OF ?_
 (try simp only [Act.put])
 have kc1 := kb1.setCells cf (Eq.trans ZF rfl)
 go_wp2_with fail
 refine bodyPost_ret (v := .agg cf) ?_ rfl ⟨_, rfl, ((Fr.out.ext E3.out).own kb1 noUn o1), (o1.ext (tr E1 (tr E2 E3)).out gR0)⟩
 exact results_cell1 rfl rfl (kc1.loadVar rfl rfl (by rw [ZF]; rfl))
set_option maxRecDepth 20000 in
set_option maxHeartbeats 8000000 in
theorem along_any (L : Nat) (a b : Int) (ct : Array Value) (T : Rat) (w : World) (hT : NIn L w ct T) (h1L : 1 ≤ L) (hL : L ≤ 20000) (ha : -10000000 ≤ a ∧ a ≤ 10000000) (hb : -10000000 ≤ b ∧ b ≤ 10000000) :
  Calls Tryz.prog 101 #[.int .i64 a, .int .i64 b, .agg ct] w fun e w' => ∃ c, e = .returned (.agg c) ∧ NIs w' c ((a : Rat) + T * ((b - a : Int) : Rat)) ∧ Ext w w' := by
 have wd : IntKind.i64.wrap (b - a) = b - a := by rw [IntKind.wrap_i64]; omega
 have rT := hT.rl h1L
 have q0 := rlI a (by omega)
 have q1 := rlI (b - a) (by omega)
 have q2 := Nm.rl_mul T ((b - a : Int) : Rat)
 have ZT := hT.size
 have FT := zH hT
 clear hT
 go_enter Tryz.func101, Tryz.ntmps101
 go_upto_region 1 with fail
 have hbx0 : Blk ((w.alloc (.cells ct 27)).alloc (.cells z4 27)) (w.heap.size) 27 ct := Blk.ext (Blk.new_at w _ (by simp) _ _) ((Ext.refl _).alloc _)
 have hR0 : Blk ((w.alloc (.cells ct 27)).alloc (.cells z4 27)) (w.heap.size + 1) 27 z4 := Blk.ext (Blk.new_at (w.alloc (.cells ct 27)) _ (by simp) _ _) (Ext.refl _)
 have hE : Ext w ((w.alloc (.cells ct 27)).alloc (.cells z4 27)) := (((Ext.refl _).alloc _).alloc _)
 have gR0 : w.heap.size ≤ w.heap.size + 1 := by omega
 have nbx0_R0 : w.heap.size ≠ w.heap.size + 1 := by omega
 generalize ((w.alloc (.cells ct 27)).alloc (.cells z4 27)) = wa at *
 generalize w.heap.size + 1 = R0 at *
 have E1 : Hid (Ext w wa) := hE
 have Fbx0 := zH hbx0
 have FR0 := zH hR0
 clear hE hbx0 hR0
 refine wp_region_held_drew (S := fun x => Own R0 wa x) (by kernel_rfl) (Own.of_ext (Ext.refl _).drew) (fun _ => ?_)
 have E2 := zH (show Ext wa wa.drew from (Ext.refl _).drew)
 refine mV 0 (bs 10 1) (Own.of_ext E2.out) ?_
 refine zl 2 (bs 10 5) (fun x hx => (Fbx0.out).own hx nbx0_R0) Tryz.underlying27 (by rw [show (ct : Array Value).size = 4 from ZT]; kernel_rfl) (Own.of_ext E2.out) ?_
 refine zv 3 (bs 10 13) (Own.of_ext E2.out) ?_
 refine zv 4 (bs 10 29) (Own.of_ext E2.out) ?_
 refine zv 5 (bs 10 61) (Own.of_ext E2.out) ?_
 refine mC 1 (bs 10 63) (pFrom a _ (by omega) (by omega)) ?_
 rintro e w3 ⟨c1, rfl, hc, hx⟩
 have E3 : Hid (Ext wa.drew w3) := hx
 have FFc1 := zH hc
 clear hc
 clear hx
 refine ⟨_, rfl, (Own.of_ext (tr E2 E3).out), ?_⟩
 try simp only [Act.put, zA, zB, zC]
 refine mC 6 (bs 10 127) (pFrom (b - a) _ (by omega) (by omega)) ?_
 rintro e w4 ⟨c2, rfl, hc, hx⟩
 have E4 : Hid (Ext w3 w4) := hx
 have FFc2 := zH hc
 clear hc
 clear hx
 refine ⟨_, rfl, (Own.of_ext (tr E2 (tr E3 E4)).out), ?_⟩
 try simp only [Act.put, zA, zB, zC]
 refine mC 7 (bs 10 255) (pMul (L := L + 2) ((FT.out.ext (tr E1 (tr E2 (tr E3 E4))).out).mono (by omega)) (FFc2.out.isIn (by omega)) (by omega)) ?_
 rintro e w5 ⟨c3, rfl, hc, hx⟩
 have E5 : Hid (Ext w4 w5) := hx
 have FM := zH hc
 clear hc
 clear hx
 refine ⟨_, rfl, (Own.of_ext (tr E2 (tr E3 (tr E4 E5))).out), ?_⟩
 try simp only [Act.put, zA, zB, zC]
 refine mC 8 (bs 10 511) (pAdd (L := 2 * L + 8) ((FFc1.out.ext (tr E4 E5).out).isIn (by omega)) (FM.out.isIn (by omega)) (by omega)) ?_
 rintro e w6 ⟨c4, rfl, hc, hx⟩
 have E6 : Hid (Ext w5 w6) := hx
 have Fr := zH hc
 have Z4 := hc.size
 have O4 := hc.one
 clear hc
 clear hx
 refine ⟨_, rfl, (Own.of_ext (tr E2 (tr E3 (tr E4 (tr E5 E6)))).out), ?_⟩
 try simp only [Act.put, zA, zB, zC]
 have o1 := Own.setCells w6 R0 c4
 have kb1 := (FR0.out.ext (tr E2 (tr E3 (tr E4 (tr E5 E6)))).out)
 have hs1 : Own R0 wa (w6.setCells R0 0 (c4 : Array Value).toList) := (Own.then_ext' (tr E2 (tr E3 (tr E4 (tr E5 E6)))).out o1)
 refine mO 9 (bs 10 1023) c4 kb1 (Eq.trans Z4 rfl) (by rw [show (c4 : Array Value).size = 4 from Z4]; kernel_rfl) O4 hs1 ?_
 (try simp only [Act.put])
 have kc1 := kb1.setCells c4 (Eq.trans Z4 rfl)
 refine wpAnyH_done (by kernel_rfl) ?_ _
 go_wp2_with fail
 refine bodyPost_ret (v := .agg c4) ?_ rfl ⟨_, rfl, (Fr.out.own kb1 noUn o1), (o1.ext (tr E1 (tr E2 (tr E3 (tr E4 (tr E5 E6))))).out gR0)⟩
 exact results_cell1 rfl rfl (kc1.loadVar rfl rfl (by rw [Z4]; rfl))

theorem rcmp_le_i {q r : Rat} : rcmp q r ≤ 0 ↔ q ≤ r := by rw [← Rat.not_lt, ← rcmp_gt]; omega
theorem rcmp_ge_i {q r : Rat} : 0 ≤ rcmp q r ↔ r ≤ q := by rw [← Rat.not_lt, ← rcmp_lt]; omega
set_option maxRecDepth 20000 in
set_option maxHeartbeats 4000000 in
theorem lower_a (L : Nat) (ca cb : Array Value) (p q : Rat) (w : World) (ha : NIs w ca p) (hb : NIs w cb q) (h1 : Nm.rl p ≤ L) (h2 : Nm.rl q ≤ L) (hL : L ≤ 60000) (hz : (rcmp p q ≤ 0)) :
  Calls Tryz.prog 26 #[.agg ca, .agg cb] w fun e w' => ∃ c, e = .returned (.agg c) ∧ NIs w' c p ∧ Ext w w' := by
 have ZA := ha.size
 have ZB := hb.size
 have OA := ha.one
 have OB := hb.one
 have Fa := zH ha
 have Fb := zH hb
 clear ha hb
 go_enter Tryz.func26, Tryz.ntmps26
 go_upto_region 1 with fail
 have hbx0 : Blk (((w.alloc (.cells ca 27)).alloc (.cells cb 27)).alloc (.cells z4 27)) (w.heap.size) 27 ca := Blk.ext (Blk.new_at w _ (by simp) _ _) (((Ext.refl _).alloc _).alloc _)
 have hbx1 : Blk (((w.alloc (.cells ca 27)).alloc (.cells cb 27)).alloc (.cells z4 27)) (w.heap.size + 1) 27 cb := Blk.ext (Blk.new_at (w.alloc (.cells ca 27)) _ (by simp) _ _) ((Ext.refl _).alloc _)
 have hR0 : Blk (((w.alloc (.cells ca 27)).alloc (.cells cb 27)).alloc (.cells z4 27)) (w.heap.size + 1 + 1) 27 z4 := Blk.ext (Blk.new_at ((w.alloc (.cells ca 27)).alloc (.cells cb 27)) _ (by simp) _ _) (Ext.refl _)
 have hE : Ext w (((w.alloc (.cells ca 27)).alloc (.cells cb 27)).alloc (.cells z4 27)) := ((((Ext.refl _).alloc _).alloc _).alloc _)
 have gR0 : w.heap.size ≤ w.heap.size + 1 + 1 := by omega
 have nbx0_R0 : w.heap.size ≠ w.heap.size + 1 + 1 := by omega
 have nbx1_R0 : w.heap.size + 1 ≠ w.heap.size + 1 + 1 := by omega
 generalize (((w.alloc (.cells ca 27)).alloc (.cells cb 27)).alloc (.cells z4 27)) = wa at *
 generalize w.heap.size + 1 + 1 = R0 at *
 generalize w.heap.size + 1 = bx1 at *
 have E1 : Hid (Ext w wa) := hE
 have Fbx0 := zH hbx0
 have Fbx1 := zH hbx1
 have FR0 := zH hR0
 clear hE hbx0 hbx1 hR0
 refine wp_region_lit ?_
 refine pL Fbx0.out Tryz.underlying27 (by rw [show (ca : Array Value).size = 4 from ZA]; kernel_rfl) ?_
 try simp only [Act.put, zA, zB, zC]
 refine pL Fbx1.out Tryz.underlying27 (by rw [show (cb : Array Value).size = 4 from ZB]; kernel_rfl) ?_
 try simp only [Act.put, zA, zB, zC]
 refine mv_call (by rfl) (by go_simp) (pCmp ((Fa.out.ext E1.out).isIn h1) ((Fb.out.ext E1.out).isIn h2) (by omega)) ?_
 rintro e w2 ⟨rfl, hx⟩
 have E2 : Hid (Ext wa w2) := hx
 clear hx
 refine ⟨_, rfl, ?_⟩
 try simp only [Act.put, zA, zB, zC]
 refine pV (w' := w2) ?_
 try simp only [Act.put, zA, zB, zC]
 go_upto_region 2 with fail
 refine wp_region_lit ?_
 refine pL (Fbx0.out.ext E2.out) Tryz.underlying27 (by rw [show (ca : Array Value).size = 4 from ZA]; kernel_rfl) ?_
 try simp only [Act.put, zA, zB, zC]
 have o1 := Own.setCells w2 R0 ca
 have kb1 := (FR0.out.ext E2.out)
 refine pO ca kb1 (Eq.trans ZA rfl) (by rw [show (ca : Array Value).size = 4 from ZA]; kernel_rfl) OA ?_
 (try simp only [Act.put])
 have kc1 := kb1.setCells ca (Eq.trans ZA rfl)
 go_wp2_with fail
 refine bodyPost_ret (v := .agg ca) ?_ rfl ⟨_, rfl, ((Fa.out.ext (tr E1 E2).out).own kb1 noUn o1), (o1.ext (tr E1 E2).out gR0)⟩
 exact results_cell1 rfl rfl (kc1.loadVar rfl rfl (by rw [ZA]; rfl))
set_option maxRecDepth 20000 in
set_option maxHeartbeats 4000000 in
theorem lower_b (L : Nat) (ca cb : Array Value) (p q : Rat) (w : World) (ha : NIs w ca p) (hb : NIs w cb q) (h1 : Nm.rl p ≤ L) (h2 : Nm.rl q ≤ L) (hL : L ≤ 60000) (hz : ¬ (rcmp p q ≤ 0)) :
  Calls Tryz.prog 26 #[.agg ca, .agg cb] w fun e w' => ∃ c, e = .returned (.agg c) ∧ NIs w' c q ∧ Ext w w' := by
 have ZA := ha.size
 have ZB := hb.size
 have OA := ha.one
 have OB := hb.one
 have Fa := zH ha
 have Fb := zH hb
 clear ha hb
 go_enter Tryz.func26, Tryz.ntmps26
 go_upto_region 1 with fail
 have hbx0 : Blk (((w.alloc (.cells ca 27)).alloc (.cells cb 27)).alloc (.cells z4 27)) (w.heap.size) 27 ca := Blk.ext (Blk.new_at w _ (by simp) _ _) (((Ext.refl _).alloc _).alloc _)
 have hbx1 : Blk (((w.alloc (.cells ca 27)).alloc (.cells cb 27)).alloc (.cells z4 27)) (w.heap.size + 1) 27 cb := Blk.ext (Blk.new_at (w.alloc (.cells ca 27)) _ (by simp) _ _) ((Ext.refl _).alloc _)
 have hR0 : Blk (((w.alloc (.cells ca 27)).alloc (.cells cb 27)).alloc (.cells z4 27)) (w.heap.size + 1 + 1) 27 z4 := Blk.ext (Blk.new_at ((w.alloc (.cells ca 27)).alloc (.cells cb 27)) _ (by simp) _ _) (Ext.refl _)
 have hE : Ext w (((w.alloc (.cells ca 27)).alloc (.cells cb 27)).alloc (.cells z4 27)) := ((((Ext.refl _).alloc _).alloc _).alloc _)
 have gR0 : w.heap.size ≤ w.heap.size + 1 + 1 := by omega
 have nbx0_R0 : w.heap.size ≠ w.heap.size + 1 + 1 := by omega
 have nbx1_R0 : w.heap.size + 1 ≠ w.heap.size + 1 + 1 := by omega
 generalize (((w.alloc (.cells ca 27)).alloc (.cells cb 27)).alloc (.cells z4 27)) = wa at *
 generalize w.heap.size + 1 + 1 = R0 at *
 generalize w.heap.size + 1 = bx1 at *
 have E1 : Hid (Ext w wa) := hE
 have Fbx0 := zH hbx0
 have Fbx1 := zH hbx1
 have FR0 := zH hR0
 clear hE hbx0 hbx1 hR0
 refine wp_region_lit ?_
 refine pL Fbx0.out Tryz.underlying27 (by rw [show (ca : Array Value).size = 4 from ZA]; kernel_rfl) ?_
 try simp only [Act.put, zA, zB, zC]
 refine pL Fbx1.out Tryz.underlying27 (by rw [show (cb : Array Value).size = 4 from ZB]; kernel_rfl) ?_
 try simp only [Act.put, zA, zB, zC]
 refine mv_call (by rfl) (by go_simp) (pCmp ((Fa.out.ext E1.out).isIn h1) ((Fb.out.ext E1.out).isIn h2) (by omega)) ?_
 rintro e w2 ⟨rfl, hx⟩
 have E2 : Hid (Ext wa w2) := hx
 clear hx
 refine ⟨_, rfl, ?_⟩
 try simp only [Act.put, zA, zB, zC]
 refine pV (w' := w2) ?_
 try simp only [Act.put, zA, zB, zC]
 go_upto_region 3 with fail
 refine wp_region_lit ?_
 refine pL (Fbx1.out.ext E2.out) Tryz.underlying27 (by rw [show (cb : Array Value).size = 4 from ZB]; kernel_rfl) ?_
 try simp only [Act.put, zA, zB, zC]
 have o1 := Own.setCells w2 R0 cb
 have kb1 := (FR0.out.ext E2.out)
 refine pO cb kb1 (Eq.trans ZB rfl) (by rw [show (cb : Array Value).size = 4 from ZB]; kernel_rfl) OB ?_
 (try simp only [Act.put])
 have kc1 := kb1.setCells cb (Eq.trans ZB rfl)
 go_wp2_with fail
 refine bodyPost_ret (v := .agg cb) ?_ rfl ⟨_, rfl, ((Fb.out.ext (tr E1 E2).out).own kb1 noUn o1), (o1.ext (tr E1 E2).out gR0)⟩
 exact results_cell1 rfl rfl (kc1.loadVar rfl rfl (by rw [ZB]; rfl))
set_option maxRecDepth 20000 in
set_option maxHeartbeats 4000000 in
theorem upper_a (L : Nat) (ca cb : Array Value) (p q : Rat) (w : World) (ha : NIs w ca p) (hb : NIs w cb q) (h1 : Nm.rl p ≤ L) (h2 : Nm.rl q ≤ L) (hL : L ≤ 60000) (hz : (0 ≤ rcmp p q)) :
  Calls Tryz.prog 25 #[.agg ca, .agg cb] w fun e w' => ∃ c, e = .returned (.agg c) ∧ NIs w' c p ∧ Ext w w' := by
 have ZA := ha.size
 have ZB := hb.size
 have OA := ha.one
 have OB := hb.one
 have Fa := zH ha
 have Fb := zH hb
 clear ha hb
 go_enter Tryz.func25, Tryz.ntmps25
 go_upto_region 1 with fail
 have hbx0 : Blk (((w.alloc (.cells ca 27)).alloc (.cells cb 27)).alloc (.cells z4 27)) (w.heap.size) 27 ca := Blk.ext (Blk.new_at w _ (by simp) _ _) (((Ext.refl _).alloc _).alloc _)
 have hbx1 : Blk (((w.alloc (.cells ca 27)).alloc (.cells cb 27)).alloc (.cells z4 27)) (w.heap.size + 1) 27 cb := Blk.ext (Blk.new_at (w.alloc (.cells ca 27)) _ (by simp) _ _) ((Ext.refl _).alloc _)
 have hR0 : Blk (((w.alloc (.cells ca 27)).alloc (.cells cb 27)).alloc (.cells z4 27)) (w.heap.size + 1 + 1) 27 z4 := Blk.ext (Blk.new_at ((w.alloc (.cells ca 27)).alloc (.cells cb 27)) _ (by simp) _ _) (Ext.refl _)
 have hE : Ext w (((w.alloc (.cells ca 27)).alloc (.cells cb 27)).alloc (.cells z4 27)) := ((((Ext.refl _).alloc _).alloc _).alloc _)
 have gR0 : w.heap.size ≤ w.heap.size + 1 + 1 := by omega
 have nbx0_R0 : w.heap.size ≠ w.heap.size + 1 + 1 := by omega
 have nbx1_R0 : w.heap.size + 1 ≠ w.heap.size + 1 + 1 := by omega
 generalize (((w.alloc (.cells ca 27)).alloc (.cells cb 27)).alloc (.cells z4 27)) = wa at *
 generalize w.heap.size + 1 + 1 = R0 at *
 generalize w.heap.size + 1 = bx1 at *
 have E1 : Hid (Ext w wa) := hE
 have Fbx0 := zH hbx0
 have Fbx1 := zH hbx1
 have FR0 := zH hR0
 clear hE hbx0 hbx1 hR0
 refine wp_region_lit ?_
 refine pL Fbx0.out Tryz.underlying27 (by rw [show (ca : Array Value).size = 4 from ZA]; kernel_rfl) ?_
 try simp only [Act.put, zA, zB, zC]
 refine pL Fbx1.out Tryz.underlying27 (by rw [show (cb : Array Value).size = 4 from ZB]; kernel_rfl) ?_
 try simp only [Act.put, zA, zB, zC]
 refine mv_call (by rfl) (by go_simp) (pCmp ((Fa.out.ext E1.out).isIn h1) ((Fb.out.ext E1.out).isIn h2) (by omega)) ?_
 rintro e w2 ⟨rfl, hx⟩
 have E2 : Hid (Ext wa w2) := hx
 clear hx
 refine ⟨_, rfl, ?_⟩
 try simp only [Act.put, zA, zB, zC]
 refine pV (w' := w2) ?_
 try simp only [Act.put, zA, zB, zC]
 go_upto_region 2 with fail
 refine wp_region_lit ?_
 refine pL (Fbx0.out.ext E2.out) Tryz.underlying27 (by rw [show (ca : Array Value).size = 4 from ZA]; kernel_rfl) ?_
 try simp only [Act.put, zA, zB, zC]
 have o1 := Own.setCells w2 R0 ca
 have kb1 := (FR0.out.ext E2.out)
 refine pO ca kb1 (Eq.trans ZA rfl) (by rw [show (ca : Array Value).size = 4 from ZA]; kernel_rfl) OA ?_
 (try simp only [Act.put])
 have kc1 := kb1.setCells ca (Eq.trans ZA rfl)
 go_wp2_with fail
 refine bodyPost_ret (v := .agg ca) ?_ rfl ⟨_, rfl, ((Fa.out.ext (tr E1 E2).out).own kb1 noUn o1), (o1.ext (tr E1 E2).out gR0)⟩
 exact results_cell1 rfl rfl (kc1.loadVar rfl rfl (by rw [ZA]; rfl))
set_option maxRecDepth 20000 in
set_option maxHeartbeats 4000000 in
theorem upper_b (L : Nat) (ca cb : Array Value) (p q : Rat) (w : World) (ha : NIs w ca p) (hb : NIs w cb q) (h1 : Nm.rl p ≤ L) (h2 : Nm.rl q ≤ L) (hL : L ≤ 60000) (hz : ¬ (0 ≤ rcmp p q)) :
  Calls Tryz.prog 25 #[.agg ca, .agg cb] w fun e w' => ∃ c, e = .returned (.agg c) ∧ NIs w' c q ∧ Ext w w' := by
 have ZA := ha.size
 have ZB := hb.size
 have OA := ha.one
 have OB := hb.one
 have Fa := zH ha
 have Fb := zH hb
 clear ha hb
 go_enter Tryz.func25, Tryz.ntmps25
 go_upto_region 1 with fail
 have hbx0 : Blk (((w.alloc (.cells ca 27)).alloc (.cells cb 27)).alloc (.cells z4 27)) (w.heap.size) 27 ca := Blk.ext (Blk.new_at w _ (by simp) _ _) (((Ext.refl _).alloc _).alloc _)
 have hbx1 : Blk (((w.alloc (.cells ca 27)).alloc (.cells cb 27)).alloc (.cells z4 27)) (w.heap.size + 1) 27 cb := Blk.ext (Blk.new_at (w.alloc (.cells ca 27)) _ (by simp) _ _) ((Ext.refl _).alloc _)
 have hR0 : Blk (((w.alloc (.cells ca 27)).alloc (.cells cb 27)).alloc (.cells z4 27)) (w.heap.size + 1 + 1) 27 z4 := Blk.ext (Blk.new_at ((w.alloc (.cells ca 27)).alloc (.cells cb 27)) _ (by simp) _ _) (Ext.refl _)
 have hE : Ext w (((w.alloc (.cells ca 27)).alloc (.cells cb 27)).alloc (.cells z4 27)) := ((((Ext.refl _).alloc _).alloc _).alloc _)
 have gR0 : w.heap.size ≤ w.heap.size + 1 + 1 := by omega
 have nbx0_R0 : w.heap.size ≠ w.heap.size + 1 + 1 := by omega
 have nbx1_R0 : w.heap.size + 1 ≠ w.heap.size + 1 + 1 := by omega
 generalize (((w.alloc (.cells ca 27)).alloc (.cells cb 27)).alloc (.cells z4 27)) = wa at *
 generalize w.heap.size + 1 + 1 = R0 at *
 generalize w.heap.size + 1 = bx1 at *
 have E1 : Hid (Ext w wa) := hE
 have Fbx0 := zH hbx0
 have Fbx1 := zH hbx1
 have FR0 := zH hR0
 clear hE hbx0 hbx1 hR0
 refine wp_region_lit ?_
 refine pL Fbx0.out Tryz.underlying27 (by rw [show (ca : Array Value).size = 4 from ZA]; kernel_rfl) ?_
 try simp only [Act.put, zA, zB, zC]
 refine pL Fbx1.out Tryz.underlying27 (by rw [show (cb : Array Value).size = 4 from ZB]; kernel_rfl) ?_
 try simp only [Act.put, zA, zB, zC]
 refine mv_call (by rfl) (by go_simp) (pCmp ((Fa.out.ext E1.out).isIn h1) ((Fb.out.ext E1.out).isIn h2) (by omega)) ?_
 rintro e w2 ⟨rfl, hx⟩
 have E2 : Hid (Ext wa w2) := hx
 clear hx
 refine ⟨_, rfl, ?_⟩
 try simp only [Act.put, zA, zB, zC]
 refine pV (w' := w2) ?_
 try simp only [Act.put, zA, zB, zC]
 go_upto_region 3 with fail
 refine wp_region_lit ?_
 refine pL (Fbx1.out.ext E2.out) Tryz.underlying27 (by rw [show (cb : Array Value).size = 4 from ZB]; kernel_rfl) ?_
 try simp only [Act.put, zA, zB, zC]
 have o1 := Own.setCells w2 R0 cb
 have kb1 := (FR0.out.ext E2.out)
 refine pO cb kb1 (Eq.trans ZB rfl) (by rw [show (cb : Array Value).size = 4 from ZB]; kernel_rfl) OB ?_
 (try simp only [Act.put])
 have kc1 := kb1.setCells cb (Eq.trans ZB rfl)
 go_wp2_with fail
 refine bodyPost_ret (v := .agg cb) ?_ rfl ⟨_, rfl, ((Fb.out.ext (tr E1 E2).out).own kb1 noUn o1), (o1.ext (tr E1 E2).out gR0)⟩
 exact results_cell1 rfl rfl (kc1.loadVar rfl rfl (by rw [ZB]; rfl))
theorem lower_any (L : Nat) (ca cb : Array Value) (p q : Rat) (w : World) (ha : NIs w ca p) (hb : NIs w cb q) (h1 : Nm.rl p ≤ L) (h2 : Nm.rl q ≤ L) (hL : L ≤ 60000) :
    Calls Tryz.prog 26 #[.agg ca, .agg cb] w fun e w' => ∃ c, e = .returned (.agg c) ∧ NIs w' c (if q < p then q else p) ∧ Ext w w' := by
  by_cases h : q < p
  · rw [if_pos h]
    exact lower_b L ca cb p q w ha hb h1 h2 hL (fun k => by have := rcmp_le_i.1 k; grind)
  rw [if_neg h]
  exact lower_a L ca cb p q w ha hb h1 h2 hL (rcmp_le_i.2 (by grind))
theorem upper_any (L : Nat) (ca cb : Array Value) (p q : Rat) (w : World) (ha : NIs w ca p) (hb : NIs w cb q) (h1 : Nm.rl p ≤ L) (h2 : Nm.rl q ≤ L) (hL : L ≤ 60000) :
    Calls Tryz.prog 25 #[.agg ca, .agg cb] w fun e w' => ∃ c, e = .returned (.agg c) ∧ NIs w' c (if p < q then q else p) ∧ Ext w w' := by
  by_cases h : p < q
  · rw [if_pos h]
    exact upper_b L ca cb p q w ha hb h1 h2 hL (fun k => by have := rcmp_ge_i.1 k; grind)
  rw [if_neg h]
  exact upper_a L ca cb p q w ha hb h1 h2 hL (rcmp_ge_i.2 (by grind))
theorem NIn.own {L : Nat} {w w' : World} {cs : Array Value} {q : Rat} (h : NIn L w cs q) {g : Nat} {t : TypeId} {zs : Array Value} (hb : Blk w g t zs) (hn : NoU zs) (o : Own g w w') : NIn L w' cs q := by
  obtain ⟨a, h1, h2⟩ := h
  exact ⟨a, h1, h2.own hb hn o⟩
set_option maxRecDepth 20000 in
set_option maxHeartbeats 4000000 in
theorem inner_a (L : Nat) (ca cb : Array Value) (p q : Rat) (k : Int) (w : World) (ha : NIn L w ca p) (hb : NIn L w cb q) (hL : L ≤ 60000) (hz : (rcmp p q = k)) :
  Calls Tryz.prog 30 #[.agg ca, .agg cb, .int .i64 k] w fun e w' => ∃ c, e = .returned (.agg c) ∧ NIn L w' c p ∧ Ext w w' := by
 have ZA := ha.size
 have ZB := hb.size
 have OA := ha.one
 have OB := hb.one
 have Fa := zH ha
 have Fb := zH hb
 clear ha hb
 go_enter Tryz.func30, Tryz.ntmps30
 go_upto_region 1 with fail
 have hbx0 : Blk (((w.alloc (.cells ca 27)).alloc (.cells cb 27)).alloc (.cells z4 27)) (w.heap.size) 27 ca := Blk.ext (Blk.new_at w _ (by simp) _ _) (((Ext.refl _).alloc _).alloc _)
 have hbx1 : Blk (((w.alloc (.cells ca 27)).alloc (.cells cb 27)).alloc (.cells z4 27)) (w.heap.size + 1) 27 cb := Blk.ext (Blk.new_at (w.alloc (.cells ca 27)) _ (by simp) _ _) ((Ext.refl _).alloc _)
 have hR0 : Blk (((w.alloc (.cells ca 27)).alloc (.cells cb 27)).alloc (.cells z4 27)) (w.heap.size + 1 + 1) 27 z4 := Blk.ext (Blk.new_at ((w.alloc (.cells ca 27)).alloc (.cells cb 27)) _ (by simp) _ _) (Ext.refl _)
 have hE : Ext w (((w.alloc (.cells ca 27)).alloc (.cells cb 27)).alloc (.cells z4 27)) := ((((Ext.refl _).alloc _).alloc _).alloc _)
 have gR0 : w.heap.size ≤ w.heap.size + 1 + 1 := by omega
 have nbx0_R0 : w.heap.size ≠ w.heap.size + 1 + 1 := by omega
 have nbx1_R0 : w.heap.size + 1 ≠ w.heap.size + 1 + 1 := by omega
 generalize (((w.alloc (.cells ca 27)).alloc (.cells cb 27)).alloc (.cells z4 27)) = wa at *
 generalize w.heap.size + 1 + 1 = R0 at *
 generalize w.heap.size + 1 = bx1 at *
 have E1 : Hid (Ext w wa) := hE
 have Fbx0 := zH hbx0
 have Fbx1 := zH hbx1
 have FR0 := zH hR0
 clear hE hbx0 hbx1 hR0
 refine wp_region_lit ?_
 refine pL Fbx0.out Tryz.underlying27 (by rw [show (ca : Array Value).size = 4 from ZA]; kernel_rfl) ?_
 try simp only [Act.put, zA, zB, zC]
 refine pL Fbx1.out Tryz.underlying27 (by rw [show (cb : Array Value).size = 4 from ZB]; kernel_rfl) ?_
 try simp only [Act.put, zA, zB, zC]
 refine mv_call (by rfl) (by go_simp) (pCmp (Fa.out.ext E1.out) (Fb.out.ext E1.out) (by omega)) ?_
 rintro e w2 ⟨rfl, hx⟩
 have E2 : Hid (Ext wa w2) := hx
 clear hx
 refine ⟨_, rfl, ?_⟩
 try simp only [Act.put, zA, zB, zC]
 refine pV (w' := w2) ?_
 try simp only [Act.put, zA, zB, zC]
 refine pV (w' := w2) ?_
 try simp only [Act.put, zA, zB, zC]
 go_upto_region 2 with fail
 refine wp_region_lit ?_
 refine pL (Fbx0.out.ext E2.out) Tryz.underlying27 (by rw [show (ca : Array Value).size = 4 from ZA]; kernel_rfl) ?_
 try simp only [Act.put, zA, zB, zC]
 have o1 := Own.setCells w2 R0 ca
 have kb1 := (FR0.out.ext E2.out)
 refine pO ca kb1 (Eq.trans ZA rfl) (by rw [show (ca : Array Value).size = 4 from ZA]; kernel_rfl) OA ?_
 (try simp only [Act.put])
 have kc1 := kb1.setCells ca (Eq.trans ZA rfl)
 go_wp2_with fail
 refine bodyPost_ret (v := .agg ca) ?_ rfl ⟨_, rfl, ((Fa.out.ext (tr E1 E2).out).own kb1 noUn o1), (o1.ext (tr E1 E2).out gR0)⟩
 exact results_cell1 rfl rfl (kc1.loadVar rfl rfl (by rw [ZA]; rfl))
set_option maxRecDepth 20000 in
set_option maxHeartbeats 4000000 in
theorem inner_b (L : Nat) (ca cb : Array Value) (p q : Rat) (k : Int) (w : World) (ha : NIn L w ca p) (hb : NIn L w cb q) (hL : L ≤ 60000) (hz : ¬ (rcmp p q = k)) :
  Calls Tryz.prog 30 #[.agg ca, .agg cb, .int .i64 k] w fun e w' => ∃ c, e = .returned (.agg c) ∧ NIn L w' c q ∧ Ext w w' := by
 have ZA := ha.size
 have ZB := hb.size
 have OA := ha.one
 have OB := hb.one
 have Fa := zH ha
 have Fb := zH hb
 clear ha hb
 go_enter Tryz.func30, Tryz.ntmps30
 go_upto_region 1 with fail
 have hbx0 : Blk (((w.alloc (.cells ca 27)).alloc (.cells cb 27)).alloc (.cells z4 27)) (w.heap.size) 27 ca := Blk.ext (Blk.new_at w _ (by simp) _ _) (((Ext.refl _).alloc _).alloc _)
 have hbx1 : Blk (((w.alloc (.cells ca 27)).alloc (.cells cb 27)).alloc (.cells z4 27)) (w.heap.size + 1) 27 cb := Blk.ext (Blk.new_at (w.alloc (.cells ca 27)) _ (by simp) _ _) ((Ext.refl _).alloc _)
 have hR0 : Blk (((w.alloc (.cells ca 27)).alloc (.cells cb 27)).alloc (.cells z4 27)) (w.heap.size + 1 + 1) 27 z4 := Blk.ext (Blk.new_at ((w.alloc (.cells ca 27)).alloc (.cells cb 27)) _ (by simp) _ _) (Ext.refl _)
 have hE : Ext w (((w.alloc (.cells ca 27)).alloc (.cells cb 27)).alloc (.cells z4 27)) := ((((Ext.refl _).alloc _).alloc _).alloc _)
 have gR0 : w.heap.size ≤ w.heap.size + 1 + 1 := by omega
 have nbx0_R0 : w.heap.size ≠ w.heap.size + 1 + 1 := by omega
 have nbx1_R0 : w.heap.size + 1 ≠ w.heap.size + 1 + 1 := by omega
 generalize (((w.alloc (.cells ca 27)).alloc (.cells cb 27)).alloc (.cells z4 27)) = wa at *
 generalize w.heap.size + 1 + 1 = R0 at *
 generalize w.heap.size + 1 = bx1 at *
 have E1 : Hid (Ext w wa) := hE
 have Fbx0 := zH hbx0
 have Fbx1 := zH hbx1
 have FR0 := zH hR0
 clear hE hbx0 hbx1 hR0
 refine wp_region_lit ?_
 refine pL Fbx0.out Tryz.underlying27 (by rw [show (ca : Array Value).size = 4 from ZA]; kernel_rfl) ?_
 try simp only [Act.put, zA, zB, zC]
 refine pL Fbx1.out Tryz.underlying27 (by rw [show (cb : Array Value).size = 4 from ZB]; kernel_rfl) ?_
 try simp only [Act.put, zA, zB, zC]
 refine mv_call (by rfl) (by go_simp) (pCmp (Fa.out.ext E1.out) (Fb.out.ext E1.out) (by omega)) ?_
 rintro e w2 ⟨rfl, hx⟩
 have E2 : Hid (Ext wa w2) := hx
 clear hx
 refine ⟨_, rfl, ?_⟩
 try simp only [Act.put, zA, zB, zC]
 refine pV (w' := w2) ?_
 try simp only [Act.put, zA, zB, zC]
 refine pV (w' := w2) ?_
 try simp only [Act.put, zA, zB, zC]
 go_upto_region 3 with fail
 refine wp_region_lit ?_
 refine pL (Fbx1.out.ext E2.out) Tryz.underlying27 (by rw [show (cb : Array Value).size = 4 from ZB]; kernel_rfl) ?_
 try simp only [Act.put, zA, zB, zC]
 have o1 := Own.setCells w2 R0 cb
 have kb1 := (FR0.out.ext E2.out)
 refine pO cb kb1 (Eq.trans ZB rfl) (by rw [show (cb : Array Value).size = 4 from ZB]; kernel_rfl) OB ?_
 (try simp only [Act.put])
 have kc1 := kb1.setCells cb (Eq.trans ZB rfl)
 go_wp2_with fail
 refine bodyPost_ret (v := .agg cb) ?_ rfl ⟨_, rfl, ((Fb.out.ext (tr E1 E2).out).own kb1 noUn o1), (o1.ext (tr E1 E2).out gR0)⟩
 exact results_cell1 rfl rfl (kc1.loadVar rfl rfl (by rw [ZB]; rfl))
theorem rcmp_one {q r : Rat} : rcmp q r = 1 ↔ r < q := by rw [← rcmp_gt]; unfold rcmp; rw [Int.sign_eq_one_iff_pos, Int.sign_pos_iff]
theorem rcmp_mone {q r : Rat} : rcmp q r = -1 ↔ q < r := by rw [← rcmp_lt]; unfold rcmp; rw [Int.sign_eq_neg_one_iff_neg, Int.sign_neg_iff]
theorem inner_low (L : Nat) (ca cb : Array Value) (p f : Rat) (w : World) (ha : NIn L w ca p) (hb : NIn L w cb f) (hL : L ≤ 60000) :
    Calls Tryz.prog 30 #[.agg ca, .agg cb, .int .i64 1] w fun e w' => ∃ c, e = .returned (.agg c) ∧ NIn L w' c (if p < f then f else p) ∧ Ext w w' := by
  by_cases h : rcmp p f = 1
  · have h2 := rcmp_one.1 h
    rw [if_neg (by grind)]
    exact inner_a L ca cb p f 1 w ha hb hL h
  have h2 : ¬ f < p := fun k => h (rcmp_one.2 k)
  have e : (if p < f then f else p) = f := by grind
  rw [e]
  exact inner_b L ca cb p f 1 w ha hb hL h
theorem inner_high (L : Nat) (ca cb : Array Value) (q t : Rat) (w : World) (ha : NIn L w ca q) (hb : NIn L w cb t) (hL : L ≤ 60000) :
    Calls Tryz.prog 30 #[.agg ca, .agg cb, .int .i64 (-1)] w fun e w' => ∃ c, e = .returned (.agg c) ∧ NIn L w' c (if t < q then t else q) ∧ Ext w w' := by
  by_cases h : rcmp q t = -1
  · have h2 := rcmp_mone.1 h
    rw [if_neg (by grind)]
    exact inner_a L ca cb q t (-1) w ha hb hL h
  have h2 : ¬ q < t := fun k => h (rcmp_mone.2 k)
  have e : (if t < q then t else q) = t := by grind
  rw [e]
  exact inner_b L ca cb q t (-1) w ha hb hL h

def beforeV (p : Rat) (i : Int) (q : Rat) (j : Int) : Bool := decide (p < q) || (decide (p = q) && decide (j < i))
end Go.Proofs.YtaeeeailoiioaabGreat

namespace Go.Proofs.YtaeeeailoiioaabGreat
theorem cmpI_neg {a b : Int} : cmpI a b < 0 ↔ a < b := by
  unfold cmpI
  split
  · omega
  split <;> omega
theorem ord_lt (p q : Rat) (i j : Int) : decide (orI (rcmp p q) (cmpI j i) < 0) = beforeV p i q j := by
 unfold orI beforeV
 by_cases h1 : rcmp p q = 0
 ·have h2 := rcmp_eq.1 h1
  subst h2
  rw [if_pos h1]
  have h3 : ¬ p < p := by grind
  by_cases h4 : j < i
  ·have h5 : cmpI j i < 0 := cmpI_neg.2 h4
   simp [h4, h5]
  have h5 : ¬ cmpI j i < 0 := fun k => h4 (cmpI_neg.1 k)
  simp [h3, h4, h5]
 have h2 : ¬ p = q := fun k => h1 (rcmp_eq.2 k)
 rw [if_neg h1]
 by_cases h3 : p < q
 ·have h4 := rcmp_lt.2 h3
  simp [h3, h4]
 have h4 : ¬ rcmp p q < 0 := fun k => h3 (rcmp_lt.1 k)
 simp [h2, h3, h4]
abbrev QI := Rat × Int
def ltM (a b : QI) : Bool := beforeV a.1 a.2 b.1 b.2
theorem ltM_iff {a b : QI} : ltM a b = true ↔ a.1 < b.1 ∨ (a.1 = b.1 ∧ b.2 < a.2) := by
  unfold ltM beforeV
  simp
theorem wkM : Stb.Wk ltM := by
  refine ⟨fun x y h => ?_, fun x y z h1 h2 => ?_⟩
  · rw [Bool.eq_false_iff]
    intro k
    have h := ltM_iff.1 h
    have k := ltM_iff.1 k
    grind
  rw [Bool.eq_false_iff] at h1 h2 ⊢
  intro k
  have k := ltM_iff.1 k
  have h1 : ¬ _ := fun q => h1 (ltM_iff.2 q)
  have h2 : ¬ _ := fun q => h2 (ltM_iff.2 q)
  grind

def Cov (l : List QQ) (x : Rat) : Prop := ∃ p, p ∈ l ∧ p.1 ≤ x ∧ x ≤ p.2
def Sep (l : List QQ) : Prop := l.Pairwise (fun a b => a.2 < b.1) ∧ ∀ p, p ∈ l → p.1 < p.2
theorem sep_nil : Sep [] := ⟨List.Pairwise.nil, by simp⟩
theorem Sep.tail {a : QQ} {l : List QQ} (h : Sep (a :: l)) : Sep l := ⟨(List.pairwise_cons.1 h.1).2, fun p hp => h.2 p (List.mem_cons_of_mem _ hp)⟩
theorem Sep.far {a : QQ} {l : List QQ} (h : Sep (a :: l)) {p : QQ} (hp : p ∈ l) : a.2 < p.1 := (List.pairwise_cons.1 h.1).1 p hp
theorem Sep.head {a : QQ} {l : List QQ} (h : Sep (a :: l)) : a.1 < a.2 := h.2 a (List.mem_cons_self ..)
theorem cov_cons {a : QQ} {l : List QQ} {x : Rat} : Cov (a :: l) x ↔ (a.1 ≤ x ∧ x ≤ a.2) ∨ Cov l x := by
  constructor
  · rintro ⟨p, hp, h⟩
    rcases List.mem_cons.1 hp with rfl | hp
    · exact Or.inl h
    exact Or.inr ⟨p, hp, h⟩
  rintro (h | ⟨p, hp, h⟩)
  · exact ⟨a, List.mem_cons_self .., h⟩
  exact ⟨p, List.mem_cons_of_mem _ hp, h⟩
theorem cov_snoc {a : QQ} {l : List QQ} {x : Rat} : Cov (l ++ [a]) x ↔ Cov l x ∨ (a.1 ≤ x ∧ x ≤ a.2) := by
  constructor
  · rintro ⟨p, hp, h⟩
    rcases List.mem_append.1 hp with hp | hp
    · exact Or.inl ⟨p, hp, h⟩
    rw [List.mem_singleton] at hp
    subst hp
    exact Or.inr h
  rintro (⟨p, hp, h⟩ | h)
  · exact ⟨p, List.mem_append.2 (Or.inl hp), h⟩
  exact ⟨a, List.mem_append.2 (Or.inr (List.mem_singleton.2 rfl)), h⟩
theorem not_cov_nil {x : Rat} : ¬ Cov [] x := by rintro ⟨p, hp, _⟩; simp at hp
theorem Sep.tail_cov {a : QQ} {l : List QQ} (h : Sep (a :: l)) {x : Rat} : Cov l x ↔ Cov (a :: l) x ∧ a.2 < x := by
  constructor
  · rintro ⟨p, hp, h1, h2⟩
    refine ⟨cov_cons.2 (Or.inr ⟨p, hp, h1, h2⟩), ?_⟩
    have := h.far hp
    grind
  rintro ⟨hc, hx⟩
  rcases cov_cons.1 hc with h1 | h1
  · grind
  exact h1
theorem Sep.first_le {a : QQ} {l : List QQ} (h : Sep (a :: l)) {x : Rat} (hc : Cov (a :: l) x) : a.1 ≤ x := by
  rcases cov_cons.1 hc with h1 | ⟨p, hp, h1, _⟩
  · exact h1.1
  have := h.far hp
  have := h.head
  grind
theorem Sep.gap {a : QQ} {l : List QQ} (h : Sep (a :: l)) {y : Rat} (hy : a.2 < y) : ∃ x, a.2 < x ∧ x < y ∧ ¬ Cov (a :: l) x := by
 have hm : ∃ z, a.2 < z ∧ z ≤ y ∧ ∀ p, p ∈ l → z ≤ p.1 := by
  cases l with
  | nil => exact ⟨y, hy, by grind, by simp⟩
  | cons b l =>
   have hab := h.far (List.mem_cons_self (a := b) (l := l))
   have ht := h.tail
   have hb : ∀ p, p ∈ b :: l → b.1 ≤ p.1 := by
    intro p hp
    rcases List.mem_cons.1 hp with rfl | hp
    ·grind
    have := ht.far hp
    have := ht.head
    grind
   by_cases hyb : y ≤ b.1
   ·exact ⟨y, hy, by grind, fun p hp => by have := hb p hp; grind⟩
   exact ⟨b.1, hab, by grind, hb⟩
 obtain ⟨z, hz1, hz2, hz3⟩ := hm
 refine ⟨(a.2 + z) / 2, by grind, by grind, ?_⟩
 intro hc
 rcases cov_cons.1 hc with h1 | ⟨p, hp, h1, _⟩
 ·grind
 have := hz3 p hp
 grind
theorem sep_unique : ∀ {l m : List QQ}, Sep l → Sep m → (∀ x, Cov l x ↔ Cov m x) → l = m
 | [], [], _, _, _ => rfl
 | [], b :: m, _, hm, h => by
  have := (h b.1).2 (cov_cons.2 (Or.inl ⟨by grind, by have := hm.head; grind⟩))
  exact (not_cov_nil this).elim
 | a :: l, [], hl, _, h => by
  have := (h a.1).1 (cov_cons.2 (Or.inl ⟨by grind, by have := hl.head; grind⟩))
  exact (not_cov_nil this).elim
 | a :: l, b :: m, hl, hm, h => by
  have ha := hl.head
  have hb := hm.head
  have e1 : a.1 = b.1 := by
   have h1 := hm.first_le ((h a.1).1 (cov_cons.2 (Or.inl ⟨by grind, by grind⟩)))
   have h2 := hl.first_le ((h b.1).2 (cov_cons.2 (Or.inl ⟨by grind, by grind⟩)))
   grind
  have e2 : a.2 = b.2 := by
   by_cases h1 : a.2 < b.2
   ·obtain ⟨x, hx1, hx2, hx3⟩ := hl.gap h1
    exact (hx3 ((h x).2 (cov_cons.2 (Or.inl ⟨by grind, by grind⟩)))).elim
   by_cases h2 : b.2 < a.2
   ·obtain ⟨x, hx1, hx2, hx3⟩ := hm.gap h2
    exact (hx3 ((h x).1 (cov_cons.2 (Or.inl ⟨by grind, by grind⟩)))).elim
   grind
  have e : a = b := Prod.ext e1 e2
  subst e
  rw [sep_unique hl.tail hm.tail (fun x => by rw [hl.tail_cov, hm.tail_cov, h])]

theorem cov_perm {l m : List QQ} (h : ∀ p, p ∈ l ↔ p ∈ m) (x : Rat) : Cov l x ↔ Cov m x :=
  ⟨fun ⟨p, hp, k⟩ => ⟨p, (h p).1 hp, k⟩, fun ⟨p, hp, k⟩ => ⟨p, (h p).2 hp, k⟩⟩
theorem last_of {l : List QQ} {a : QQ} (h : l.getLast? = some a) : l = l.dropLast ++ [a] := by
  obtain ⟨ys, rfl⟩ := List.getLast?_eq_some_iff.1 h
  simp
theorem sep_snoc {l : List QQ} {a : QQ} : Sep (l ++ [a]) ↔ Sep l ∧ a.1 < a.2 ∧ ∀ p, p ∈ l → p.2 < a.1 := by
 constructor
 ·rintro ⟨h1, h2⟩
  rw [List.pairwise_append] at h1
  exact ⟨⟨h1.1, fun p hp => h2 p (List.mem_append.2 (Or.inl hp))⟩, h2 a (by simp), fun p hp => h1.2.2 p hp a (by simp)⟩
 rintro ⟨h1, h2, h3⟩
 refine ⟨List.pairwise_append.2 ⟨h1.1, List.pairwise_singleton .., fun p hp q hq => ?_⟩, fun p hp => ?_⟩
 ·rw [List.mem_singleton] at hq
  subst hq
  exact h3 p hp
 rcases List.mem_append.1 hp with hp | hp
 ·exact h1.2 p hp
 rw [List.mem_singleton] at hp
 subst hp
 exact h2
theorem mstep_law {out : List QQ} {s : QQ} (h : Sep out) (hs : s.1 < s.2) (hl : ∀ p, p ∈ out → p.1 ≤ s.1) :
  Sep (mstep out s) ∧ (∀ x, Cov (mstep out s) x ↔ Cov out x ∨ (s.1 ≤ x ∧ x ≤ s.2)) ∧ ∀ p, p ∈ mstep out s → p.1 ≤ s.1 := by
 unfold mstep
 split
 ·rename_i h0
  rw [List.getLast?_eq_none_iff] at h0
  subst h0
  refine ⟨sep_snoc.2 ⟨sep_nil, hs, by simp⟩, fun x => cov_snoc, ?_⟩
  intro p hp
  simp at hp
  subst hp
  grind
 rename_i l h0
 have e := last_of h0
 generalize out.dropLast = o at e
 subst e
 obtain ⟨k1, k2, k3⟩ := sep_snoc.1 h
 have hls := hl l (by simp)
 split
 ·rename_i h1
  refine ⟨sep_snoc.2 ⟨h, hs, ?_⟩, fun x => cov_snoc, ?_⟩
  ·intro p hp
   rcases List.mem_append.1 hp with hp | hp
   ·have := k3 p hp
    grind
   rw [List.mem_singleton] at hp
   subst hp
   exact h1
  intro p hp
  rcases List.mem_append.1 hp with hp | hp
  ·exact hl p hp
  rw [List.mem_singleton] at hp
  subst hp
  grind
 rename_i h1
 split
 ·rename_i h2
  refine ⟨sep_snoc.2 ⟨k1, by show l.1 < s.2; grind, k3⟩, fun x => ?_, ?_⟩
  ·rw [cov_snoc, cov_snoc]
   show Cov o x ∨ (l.1 ≤ x ∧ x ≤ s.2) ↔ (Cov o x ∨ (l.1 ≤ x ∧ x ≤ l.2)) ∨ (s.1 ≤ x ∧ x ≤ s.2)
   grind
  intro p hp
  rcases List.mem_append.1 hp with hp | hp
  ·exact hl p (List.mem_append.2 (Or.inl hp))
  rw [List.mem_singleton] at hp
  subst hp
  exact hls
 rename_i h2
 refine ⟨h, fun x => ?_, hl⟩
 rw [cov_snoc]
 grind
theorem fold_law (l : List QQ) : ∀ (out : List QQ), Sep out → (∀ p, p ∈ l → p.1 < p.2) → l.Pairwise (fun a b => a.1 ≤ b.1) → (∀ p, p ∈ out → ∀ q, q ∈ l → p.1 ≤ q.1) →
  Sep (l.foldl mstep out) ∧ ∀ x, Cov (l.foldl mstep out) x ↔ Cov out x ∨ Cov l x := by
 induction l with
 | nil => intro out h _ _ _; exact ⟨h, fun x => ⟨Or.inl, fun k => k.elim id fun k => (not_cov_nil k).elim⟩⟩
 | cons s l ih =>
  intro out h h1 h2 h3
  obtain ⟨a1, a2, a3⟩ := mstep_law h (h1 s (List.mem_cons_self ..)) (fun p hp => h3 p hp s (List.mem_cons_self ..))
  obtain ⟨p1, p2⟩ := List.pairwise_cons.1 h2
  obtain ⟨b1, b2⟩ := ih (mstep out s) a1 (fun p hp => h1 p (List.mem_cons_of_mem _ hp)) p2 (fun p hp q hq => by have := a3 p hp; have := p1 q hq; grind)
  refine ⟨b1, fun x => ?_⟩
  rw [List.foldl_cons, b2, a2, cov_cons, or_assoc]
theorem mem_some2 {ps : List QQ} {p : QQ} : p ∈ some2 ps ↔ p ∈ ps ∧ p.1 < p.2 := by unfold some2; simp
theorem mergeV_law (ps : List QQ) : Sep (mergeV ps) ∧ ∀ x, Cov (mergeV ps) x ↔ Cov (some2 ps) x := by
  have hs : Stb.Srt ltQ (sortedV ps) := Stb.stab_srt (wkQ fun p : QQ => p.1) _
  have hm : ∀ p, p ∈ sortedV ps ↔ p ∈ some2 ps := fun p => Stb.mem_stab
  obtain ⟨a, b⟩ := fold_law (sortedV ps) [] sep_nil (fun p hp => (mem_some2.1 ((hm p).1 hp)).2) (List.Pairwise.imp (fun {x y} h => by unfold ltQ at h; rw [decide_eq_false_iff_not] at h; grind) hs) (by simp)
  refine ⟨a, fun x => ?_⟩
  unfold mergeV
  rw [b, cov_perm hm]
  exact ⟨fun k => k.elim (fun k => (not_cov_nil k).elim) id, Or.inr⟩
theorem mergeV_cov {ps qs : List QQ} (h : ∀ x, Cov (some2 ps) x ↔ Cov (some2 qs) x) : mergeV ps = mergeV qs :=
  sep_unique (mergeV_law ps).1 (mergeV_law qs).1 (fun x => by rw [(mergeV_law ps).2, (mergeV_law qs).2, h])
theorem some2_sep {l : List QQ} (h : Sep l) : some2 l = l := by
  unfold some2
  rw [List.filter_eq_self]
  intro p hp
  rw [decide_eq_true_iff]
  exact h.2 p hp
theorem mergeV_sep {l : List QQ} (h : Sep l) : mergeV l = l := sep_unique (mergeV_law l).1 h (fun x => by rw [(mergeV_law l).2, some2_sep h])
theorem mergeV_idem (ps : List QQ) : mergeV (mergeV ps) = mergeV ps := mergeV_sep (mergeV_law ps).1

def cut2 (a b : QQ) : QQ := (if a.1 < b.1 then b.1 else a.1, if b.2 < a.2 then b.2 else a.2)
def interV : List QQ → List QQ → List QQ
  | a :: x, b :: y => (if (cut2 a b).1 < (cut2 a b).2 then [cut2 a b] else []) ++ (if a.2 < b.2 then interV x (b :: y) else interV (a :: x) y)
  | [], _ => []
  | _ :: _, [] => []
termination_by x y => x.length + y.length
def rinterV (p q : List QQ) : List QQ := sortedV (p.flatMap fun a => q.map fun b => cut2 a b)
theorem cut2_1 (a b : QQ) : a.1 ≤ (cut2 a b).1 ∧ b.1 ≤ (cut2 a b).1 ∧ (cut2 a b).2 ≤ a.2 ∧ (cut2 a b).2 ≤ b.2 := by
  unfold cut2
  dsimp only
  grind
def Apart (c d : QQ) : Prop := c.1 < c.2 → d.1 < d.2 → c.2 < d.1 ∨ d.2 < c.1
theorem Apart.symm {c d : QQ} (h : Apart c d) : Apart d c := fun h1 h2 => (h h2 h1).symm
theorem apart_right {a b1 b2 : QQ} (h : b1.2 < b2.1) : Apart (cut2 a b1) (cut2 a b2) := fun _ _ => by
  have h1 := cut2_1 a b1
  have h2 := cut2_1 a b2
  exact Or.inl (by grind)
theorem apart_left {a1 a2 b1 b2 : QQ} (h : a1.2 < a2.1) : Apart (cut2 a1 b1) (cut2 a2 b2) := fun _ _ => by
  have h1 := cut2_1 a1 b1
  have h2 := cut2_1 a2 b2
  exact Or.inl (by grind)
theorem ins_pair {α : Type} {lt : α → α → Bool} {R : α → α → Prop} (hs : ∀ x y, R x y → R y x) {l : List α} {y : α} (h : l.Pairwise R) (hy : ∀ x, x ∈ l → R x y) : (Stb.ins lt l y).Pairwise R := by
 induction l with
 | nil => exact List.pairwise_singleton ..
 | cons x l ih =>
  obtain ⟨h1, h2⟩ := List.pairwise_cons.1 h
  rw [Stb.ins]
  split
  ·exact List.pairwise_cons.2 ⟨fun z hz => hs _ _ (hy z hz), h⟩
  refine List.pairwise_cons.2 ⟨fun z hz => ?_, ih h2 fun z hz => hy z (List.mem_cons_of_mem _ hz)⟩
  rcases Stb.mem_ins.1 hz with rfl | hz
  ·exact hy x (List.mem_cons_self ..)
  exact h1 z hz
theorem stab_pair {α : Type} {lt : α → α → Bool} {R : α → α → Prop} (hs : ∀ x y, R x y → R y x) (l : List α) (h : l.Pairwise R) : (Stb.stab lt l).Pairwise R := by
  induction l using Stb.rev_rec with
  | nil => exact List.Pairwise.nil
  | snoc l y ih =>
    rw [List.pairwise_append] at h
    rw [Stb.stab_snoc]
    exact ins_pair hs (ih h.1) fun x hx => h.2.2 x (Stb.mem_stab.1 hx) y (by simp)
theorem sortedV_sep {l : List QQ} (h : l.Pairwise Apart) : Sep (sortedV l) := by
 have hs : Stb.Srt ltQ (sortedV l) := Stb.stab_srt (wkQ fun p : QQ => p.1) _
 have hm : ∀ p, p ∈ sortedV l ↔ p ∈ some2 l := fun p => Stb.mem_stab
 have hp : (sortedV l).Pairwise Apart := stab_pair (fun _ _ => Apart.symm) _ (List.Pairwise.filter _ h)
 have hne : ∀ p, p ∈ sortedV l → p.1 < p.2 := fun p hp => (mem_some2.1 ((hm p).1 hp)).2
 refine ⟨?_, hne⟩
 have hb := List.Pairwise.and hs hp
 refine List.Pairwise.imp_of_mem (fun {a b} ha hb2 hab => ?_) hb
 obtain ⟨h1, h2⟩ := hab
 unfold ltQ at h1
 rw [decide_eq_false_iff_not] at h1
 have e1 := hne a ha
 have e2 := hne b hb2
 rcases h2 e1 e2 with h3 | h3
 ·exact h3
 grind
theorem flat_apart {p q : List QQ} (hp : Sep p) (hq : Sep q) : (p.flatMap fun a => q.map fun b => cut2 a b).Pairwise Apart := by
  rw [List.pairwise_flatMap]
  refine ⟨fun a _ => List.pairwise_map.2 (List.Pairwise.imp (fun h => apart_right h) hq.1), List.Pairwise.imp (fun {a1 a2} h x hx y hy => ?_) hp.1⟩
  obtain ⟨b1, _, rfl⟩ := List.mem_map.1 hx
  obtain ⟨b2, _, rfl⟩ := List.mem_map.1 hy
  exact apart_left h
theorem rinterV_mem {p q : List QQ} {c : QQ} : c ∈ rinterV p q ↔ ∃ a, a ∈ p ∧ ∃ b, b ∈ q ∧ c = cut2 a b ∧ c.1 < c.2 := by
  unfold rinterV sortedV
  rw [Stb.mem_stab, mem_some2, List.mem_flatMap]
  constructor
  · rintro ⟨⟨a, ha, h⟩, hc⟩
    obtain ⟨b, hb, rfl⟩ := List.mem_map.1 h
    exact ⟨a, ha, b, hb, rfl, hc⟩
  rintro ⟨a, ha, b, hb, rfl, hc⟩
  exact ⟨⟨a, ha, List.mem_map.2 ⟨b, hb, rfl⟩⟩, hc⟩
theorem interV_law (n : Nat) : ∀ (x y : List QQ), x.length + y.length = n → Sep x → Sep y → Sep (interV x y) ∧ (∀ c, c ∈ interV x y ↔ ∃ a, a ∈ x ∧ ∃ b, b ∈ y ∧ c = cut2 a b ∧ c.1 < c.2) := by
 induction n with
 | zero =>
  intro x y h _ _
  obtain rfl : x = [] := List.length_eq_zero_iff.1 (by omega)
  rw [interV]
  exact ⟨sep_nil, by simp⟩
 | succ n ih =>
  intro x y h hx hy
  match x, y, h, hx, hy with
  | [], y, _, _, _ => rw [interV]; exact ⟨sep_nil, by simp⟩
  | a :: x, [], _, _, _ => rw [interV]; exact ⟨sep_nil, by simp⟩
  | a :: x, b :: y, h, hx, hy =>
   rw [interV]
   have ha := hx.head
   have hb := hy.head
   have hfa : ∀ p, p ∈ x → a.2 < p.1 := fun p hp => hx.far hp
   have hfb : ∀ p, p ∈ y → b.2 < p.1 := fun p hp => hy.far hp
   have key : ∀ (r : List QQ), Sep r → (∀ c, c ∈ r → (cut2 a b).2 < c.1) → Sep ((if (cut2 a b).1 < (cut2 a b).2 then [cut2 a b] else []) ++ r) := by
    intro r hr hc
    split
    ·rename_i h1
     refine ⟨List.pairwise_cons.2 ⟨hc, hr.1⟩, fun p hp => ?_⟩
     rcases List.mem_cons.1 hp with rfl | hp
     ·exact h1
     exact hr.2 p hp
    exact hr
   have c0 := cut2_1 a b
   by_cases hab : a.2 < b.2
   ·rw [if_pos hab]
    obtain ⟨s1, s2⟩ := ih x (b :: y) (by simp at h ⊢; omega) hx.tail hy
    refine ⟨key _ s1 fun c hc => ?_, fun c => ?_⟩
    ·obtain ⟨a', ha', b', hb', rfl, _⟩ := (s2 c).1 hc
     have c1 := cut2_1 a' b'
     have := hfa a' ha'
     grind
    rw [List.mem_append, s2]
    constructor
    ·rintro (h1 | ⟨a', ha', k⟩)
     ·split at h1
      ·rw [List.mem_singleton] at h1
       subst h1
       exact ⟨a, List.mem_cons_self .., b, List.mem_cons_self .., rfl, ‹_›⟩
      simp at h1
     exact ⟨a', List.mem_cons_of_mem _ ha', k⟩
    rintro ⟨a', ha', b', hb', rfl, hc⟩
    rcases List.mem_cons.1 ha' with rfl | ha'
    ·rcases List.mem_cons.1 hb' with rfl | hb'
     ·exact Or.inl (by rw [if_pos hc]; simp)
     have c1 := cut2_1 a' b'
     have := hfb b' hb'
     exact absurd hc (by grind)
    exact Or.inr ⟨a', ha', b', hb', rfl, hc⟩
   rw [if_neg hab]
   obtain ⟨s1, s2⟩ := ih (a :: x) y (by simp at h ⊢; omega) hx hy.tail
   refine ⟨key _ s1 fun c hc => ?_, fun c => ?_⟩
   ·obtain ⟨a', ha', b', hb', rfl, _⟩ := (s2 c).1 hc
    have c1 := cut2_1 a' b'
    have := hfb b' hb'
    grind
   rw [List.mem_append, s2]
   constructor
   ·rintro (h1 | ⟨a', ha', b', hb', k⟩)
    ·split at h1
     ·rw [List.mem_singleton] at h1
      subst h1
      exact ⟨a, List.mem_cons_self .., b, List.mem_cons_self .., rfl, ‹_›⟩
     simp at h1
    exact ⟨a', ha', b', List.mem_cons_of_mem _ hb', k⟩
   rintro ⟨a', ha', b', hb', rfl, hc⟩
   rcases List.mem_cons.1 hb' with rfl | hb'
   ·rcases List.mem_cons.1 ha' with rfl | ha'
    ·exact Or.inl (by rw [if_pos hc]; simp)
    have c1 := cut2_1 a' b'
    have := hfa a' ha'
    exact absurd hc (by grind)
   exact Or.inr ⟨a', ha', b', hb', rfl, hc⟩
theorem interV_eq {x y : List QQ} (hx : Sep x) (hy : Sep y) : interV x y = rinterV x y := by
  obtain ⟨s1, s2⟩ := interV_law _ x y rfl hx hy
  exact sep_unique s1 (sortedV_sep (flat_apart hx hy)) (cov_perm fun c => by rw [s2, rinterV_mem])
theorem interV_sep {x y : List QQ} (hx : Sep x) (hy : Sep y) : Sep (interV x y) := (interV_law _ x y rfl hx hy).1

def cutsV (e : Rat) : Rat → List QQ → List QQ
  | f, [] => [(f, e)]
  | f, c :: cs => if f < c.2 ∧ c.1 < e then (f, c.1) :: cutsV e c.2 cs else cutsV e f cs
def subL (x y : List QQ) : List QQ := x.flatMap fun s => cutsV s.2 s.1 y
def subV (x y : List QQ) : List QQ := some2 (subL x y)
theorem some2_cons (p : QQ) (l : List QQ) : some2 (p :: l) = if p.1 < p.2 then p :: some2 l else some2 l := by
  unfold some2
  by_cases h : p.1 < p.2 <;> simp [h]
theorem some2_app (l m : List QQ) : some2 (l ++ m) = some2 l ++ some2 m := by unfold some2; simp
theorem cutsV_law (e : Rat) : ∀ (cs : List QQ) (f : Rat), Sep cs → Sep (some2 (cutsV e f cs)) ∧ ∀ p, p ∈ some2 (cutsV e f cs) → f ≤ p.1 ∧ p.2 ≤ e
  | [], f, _ => by
    rw [cutsV, some2_cons]
    split
    · refine ⟨⟨List.pairwise_singleton .., fun p hp => ?_⟩, fun p hp => ?_⟩
      · rw [show some2 ([] : List QQ) = [] from rfl, List.mem_singleton] at hp
        subst hp
        assumption
      rw [show some2 ([] : List QQ) = [] from rfl, List.mem_singleton] at hp
      subst hp
      exact ⟨by grind, by grind⟩
    exact ⟨sep_nil, by simp [some2]⟩
  | c :: cs, f, h => by
    have hc := h.head
    rw [cutsV]
    split
    · rename_i h1
      obtain ⟨k1, k2⟩ := cutsV_law e cs c.2 h.tail
      rw [some2_cons]
      split
      · rename_i h2
        refine ⟨⟨List.pairwise_cons.2 ⟨fun p hp => ?_, k1.1⟩, fun p hp => ?_⟩, fun p hp => ?_⟩
        · have := (k2 p hp).1
          show c.1 < p.1
          grind
        · rcases List.mem_cons.1 hp with rfl | hp
          · exact h2
          exact k1.2 p hp
        rcases List.mem_cons.1 hp with rfl | hp
        · exact ⟨by grind, by grind⟩
        have := k2 p hp
        exact ⟨by grind, this.2⟩
      exact ⟨k1, fun p hp => by have := k2 p hp; exact ⟨by grind, this.2⟩⟩
    exact cutsV_law e cs f h.tail
theorem sep_append {l m : List QQ} (hl : Sep l) (hm : Sep m) (h : ∀ p, p ∈ l → ∀ q, q ∈ m → p.2 < q.1) : Sep (l ++ m) :=
  ⟨List.pairwise_append.2 ⟨hl.1, hm.1, h⟩, fun p hp => (List.mem_append.1 hp).elim (hl.2 p) (hm.2 p)⟩
theorem subV_law (y : List QQ) (hy : Sep y) : ∀ (x : List QQ), Sep x → Sep (subV x y) ∧ ∀ p, p ∈ subV x y → ∃ a, a ∈ x ∧ a.1 ≤ p.1 ∧ p.2 ≤ a.2
 | [], _ => ⟨sep_nil, by simp [subV, subL, some2]⟩
 | a :: x, hx => by
  obtain ⟨k1, k2⟩ := subV_law y hy x hx.tail
  obtain ⟨c1, c2⟩ := cutsV_law a.2 y a.1 hy
  have e : subV (a :: x) y = some2 (cutsV a.2 a.1 y) ++ subV x y := by unfold subV subL; rw [List.flatMap_cons, some2_app]
  rw [e]
  refine ⟨sep_append c1 k1 fun p hp q hq => ?_, fun p hp => ?_⟩
  ·obtain ⟨b, hb, h1, _⟩ := k2 q hq
   have h2 := (c2 p hp).2
   have h3 := hx.far hb
   grind
  rcases List.mem_append.1 hp with hp | hp
  ·exact ⟨a, List.mem_cons_self .., c2 p hp⟩
  obtain ⟨b, hb, k⟩ := k2 p hp
  exact ⟨b, List.mem_cons_of_mem _ hb, k⟩
theorem Sep.apart {l : List QQ} (h : Sep l) : l.Pairwise Apart := List.Pairwise.imp (fun h _ _ => Or.inl h) h.1
theorem subV_sep {x y : List QQ} (hx : Sep x) (hy : Sep y) : Sep (subV x y) := (subV_law y hy x hx).1

def len1 (f t : Rat) (p : QQ) : Rat :=
  if (if p.1 < f then f else p.1) < (if t < p.2 then t else p.2) then (if t < p.2 then t else p.2) - (if p.1 < f then f else p.1) else 0
def lenV (f t : Rat) (l : List QQ) : Rat := (l.map (len1 f t)).sum
theorem lenV_nil (f t : Rat) : lenV f t [] = 0 := rfl
theorem lenV_cons (f t : Rat) (p : QQ) (l : List QQ) : lenV f t (p :: l) = len1 f t p + lenV f t l := by unfold lenV; rw [List.map_cons, List.sum_cons]
theorem lenV_app (f t : Rat) (l m : List QQ) : lenV f t (l ++ m) = lenV f t l + lenV f t m := by
  induction l with
  | nil => rw [lenV_nil, List.nil_append]; grind
  | cons p l ih => rw [List.cons_append, lenV_cons, lenV_cons, ih]; grind
theorem len1_empty {f t : Rat} {p : QQ} (h : ¬ p.1 < p.2) : len1 f t p = 0 := by unfold len1; grind
theorem lenV_some2 (f t : Rat) (l : List QQ) : lenV f t (some2 l) = lenV f t l := by
  induction l with
  | nil => rfl
  | cons p l ih =>
    rw [some2_cons]
    split
    · rw [lenV_cons, lenV_cons, ih]
    rename_i h
    rw [lenV_cons, len1_empty h, ih]
    grind
end Go.Proofs.YtaeeeailoiioaabGreat
