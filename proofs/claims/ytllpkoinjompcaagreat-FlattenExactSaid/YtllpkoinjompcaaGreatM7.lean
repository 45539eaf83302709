/- In order: The reference's EvalQuad, EvalCubic. · Small functions of vec and intmath, and of the references 11 and 15. · Loops over points: pieces, may, allValid, segments. · QuadSegments and CubicSegments of the program. · The reference's QuadSegments and CubicSegments. -/
import Derived.Test.YtllpkoinjompcaaGreatM6
namespace Go.Proofs.YtllpkoinjompcaaGreat
open Go.RowKit
attribute [local go_sem ↓] Go.wp_at_zero Go.wp_at_succ run_max_ii run_min_ii

theorem one_cast : ((1 : Int) : Rat) = 1 := rfl
theorem two_cast : ((2 : Int) : Rat) = 2 := rfl
theorem three_cast : ((3 : Int) : Rat) = 3 := rfl
theorem zero_cast : ((0 : Int) : Rat) = 0 := rfl
theorem rlk (k : Int) (h : k.natAbs < 4294967296) : Nm.rl (k : Rat) ≤ 1 := by
  unfold Nm.rl
  rw [Rat.num_intCast, Rat.den_intCast]
  have h1 : Nm.nl k.natAbs ≤ 1 := Nm.nl_le (by omega)
  have h2 : Nm.nl 1 ≤ 1 := Nm.nl_le (by decide)
  omega
theorem ev3 (A B C S : Rat) : sumTo (prods [(((1 : Int) : Rat) - S) * (((1 : Int) : Rat) - S), ((2 : Int) : Rat) * (S * (((1 : Int) : Rat) - S)), S * S] [A, B, C]) [(((1 : Int) : Rat) - S) * (((1 : Int) : Rat) - S), ((2 : Int) : Rat) * (S * (((1 : Int) : Rat) - S)), S * S].length = quadV A B C S := by
  show (((((0 : Int) : Rat) + (((1 : Int) : Rat) - S) * (((1 : Int) : Rat) - S) * A) + ((2 : Int) : Rat) * (S * (((1 : Int) : Rat) - S)) * B) + S * S * C) = _
  rw [one_cast, two_cast, zero_cast]
  simp only [quadV, lerpV]
  grind
theorem ev4 (A B C D S : Rat) : sumTo (prods [(((1 : Int) : Rat) - S) * ((((1 : Int) : Rat) - S) * (((1 : Int) : Rat) - S)), ((3 : Int) : Rat) * (S * ((((1 : Int) : Rat) - S) * (((1 : Int) : Rat) - S))), ((3 : Int) : Rat) * ((S * S) * (((1 : Int) : Rat) - S)), S * (S * S)] [A, B, C, D]) [(((1 : Int) : Rat) - S) * ((((1 : Int) : Rat) - S) * (((1 : Int) : Rat) - S)), ((3 : Int) : Rat) * (S * ((((1 : Int) : Rat) - S) * (((1 : Int) : Rat) - S))), ((3 : Int) : Rat) * ((S * S) * (((1 : Int) : Rat) - S)), S * (S * S)].length = cubicV A B C D S := by
  show ((((((0 : Int) : Rat) + (((1 : Int) : Rat) - S) * ((((1 : Int) : Rat) - S) * (((1 : Int) : Rat) - S)) * A) + ((3 : Int) : Rat) * (S * ((((1 : Int) : Rat) - S) * (((1 : Int) : Rat) - S))) * B) + ((3 : Int) : Rat) * ((S * S) * (((1 : Int) : Rat) - S)) * C) + S * (S * S) * D) = _
  rw [one_cast, three_cast, zero_cast]
  simp only [cubicV, lerpV]
  grind

theorem x3from (k : Int) (w : World) (h1 : -9223372036854775808 ≤ k) (h2 : k ≤ 9223372036854775807) : Calls Tryz.prog 36 #[.int .i64 k] w (RetV (k : Rat) w) := (r3fromInt_any k w h1 h2).mono fun _ _ h => RetR.v h
theorem x3sub {L : Nat} {w : World} {a b : RV} {q r : Rat} (h : a.In L w q) (h' : b.In L w r) (hL : L ≤ 69000) : Calls Tryz.prog 35 #[.agg #[.bool a.n, .slice a.p a.l a.c, .bool a.m, .slice a.p2 a.l2 a.c2], .agg #[.bool b.n, .slice b.p b.l b.c, .bool b.m, .slice b.p2 b.l2 b.c2]] w (RetV (q - r) w) := (r3sub_any _ _ _ _ _ _ _ _ L q r w h h' hL).mono fun _ _ h => RetR.v h

set_option maxRecDepth 20000 in
set_option maxHeartbeats 8000000 in
theorem revalQuad_any (L : Nat) (cp ct : Array Value) (A0 A1 B0 B1 C0 C1 S : Rat) (w : World) (hP : Q3In L w cp A0 A1 B0 B1 C0 C1) (hS : NIn L w ct S) (h1 : 1 ≤ L) (hL : L ≤ 20) :
    Calls Tryz.prog 15 #[.agg cp, .agg ct] w fun e w' => ∃ c, e = .returned (.agg c) ∧ PtIs w' c (quadV A0 B0 C0 S) (quadV A1 B1 C1 S) ∧ Ext w w' := by
  have rS := hS.rl h1
  obtain ⟨a0, a1, b0, b1, c0, c1, rfl, ha0, ha1, hb0, hb1, hc0, hc1⟩ := hP
  obtain ⟨t, rfl, ht⟩ := hS
  have Fa0 := Lib.hid ha0
  have Fa1 := Lib.hid ha1
  have Fb0 := Lib.hid hb0
  have Fb1 := Lib.hid hb1
  have Fc0 := Lib.hid hc0
  have Fc1 := Lib.hid hc1
  have Ft := Lib.hid ht
  clear ha0 ha1 hb0 hb1 hc0 hc1 ht
  have rl1 := rlk 1 (by decide)
  have q1 := Nm.rl_sub ((1 : Int) : Rat) S
  go_enter Tryz.func15, Tryz.ntmps15
  go_upto_region 1 with fail
  have hbx0 : Blk (((w.alloc (.cells #[.bool a0.n, .slice a0.p a0.l a0.c, .bool a0.m, .slice a0.p2 a0.l2 a0.c2, .bool a1.n, .slice a1.p a1.l a1.c, .bool a1.m, .slice a1.p2 a1.l2 a1.c2, .bool b0.n, .slice b0.p b0.l b0.c, .bool b0.m, .slice b0.p2 b0.l2 b0.c2, .bool b1.n, .slice b1.p b1.l b1.c, .bool b1.m, .slice b1.p2 b1.l2 b1.c2, .bool c0.n, .slice c0.p c0.l c0.c, .bool c0.m, .slice c0.p2 c0.l2 c0.c2, .bool c1.n, .slice c1.p c1.l c1.c, .bool c1.m, .slice c1.p2 c1.l2 c1.c2] 32)).alloc (.cells #[.bool t.n, .slice t.p t.l t.c, .bool t.m, .slice t.p2 t.l2 t.c2] 26)).alloc (.cells #[.bool false, .slice none 0 0, .bool false, .slice none 0 0, .bool false, .slice none 0 0, .bool false, .slice none 0 0] 27)) (w.heap.size) 32 #[.bool a0.n, .slice a0.p a0.l a0.c, .bool a0.m, .slice a0.p2 a0.l2 a0.c2, .bool a1.n, .slice a1.p a1.l a1.c, .bool a1.m, .slice a1.p2 a1.l2 a1.c2, .bool b0.n, .slice b0.p b0.l b0.c, .bool b0.m, .slice b0.p2 b0.l2 b0.c2, .bool b1.n, .slice b1.p b1.l b1.c, .bool b1.m, .slice b1.p2 b1.l2 b1.c2, .bool c0.n, .slice c0.p c0.l c0.c, .bool c0.m, .slice c0.p2 c0.l2 c0.c2, .bool c1.n, .slice c1.p c1.l c1.c, .bool c1.m, .slice c1.p2 c1.l2 c1.c2] := Blk.ext (Blk.new_at w _ (by simp) _ _) (((Ext.refl _).alloc _).alloc _)
  have hbx1 : Blk (((w.alloc (.cells #[.bool a0.n, .slice a0.p a0.l a0.c, .bool a0.m, .slice a0.p2 a0.l2 a0.c2, .bool a1.n, .slice a1.p a1.l a1.c, .bool a1.m, .slice a1.p2 a1.l2 a1.c2, .bool b0.n, .slice b0.p b0.l b0.c, .bool b0.m, .slice b0.p2 b0.l2 b0.c2, .bool b1.n, .slice b1.p b1.l b1.c, .bool b1.m, .slice b1.p2 b1.l2 b1.c2, .bool c0.n, .slice c0.p c0.l c0.c, .bool c0.m, .slice c0.p2 c0.l2 c0.c2, .bool c1.n, .slice c1.p c1.l c1.c, .bool c1.m, .slice c1.p2 c1.l2 c1.c2] 32)).alloc (.cells #[.bool t.n, .slice t.p t.l t.c, .bool t.m, .slice t.p2 t.l2 t.c2] 26)).alloc (.cells #[.bool false, .slice none 0 0, .bool false, .slice none 0 0, .bool false, .slice none 0 0, .bool false, .slice none 0 0] 27)) (w.heap.size + 1) 26 #[.bool t.n, .slice t.p t.l t.c, .bool t.m, .slice t.p2 t.l2 t.c2] := Blk.ext (Blk.new_at (w.alloc (.cells #[.bool a0.n, .slice a0.p a0.l a0.c, .bool a0.m, .slice a0.p2 a0.l2 a0.c2, .bool a1.n, .slice a1.p a1.l a1.c, .bool a1.m, .slice a1.p2 a1.l2 a1.c2, .bool b0.n, .slice b0.p b0.l b0.c, .bool b0.m, .slice b0.p2 b0.l2 b0.c2, .bool b1.n, .slice b1.p b1.l b1.c, .bool b1.m, .slice b1.p2 b1.l2 b1.c2, .bool c0.n, .slice c0.p c0.l c0.c, .bool c0.m, .slice c0.p2 c0.l2 c0.c2, .bool c1.n, .slice c1.p c1.l c1.c, .bool c1.m, .slice c1.p2 c1.l2 c1.c2] 32)) _ (by simp) _ _) ((Ext.refl _).alloc _)
  have hR0 : Blk (((w.alloc (.cells #[.bool a0.n, .slice a0.p a0.l a0.c, .bool a0.m, .slice a0.p2 a0.l2 a0.c2, .bool a1.n, .slice a1.p a1.l a1.c, .bool a1.m, .slice a1.p2 a1.l2 a1.c2, .bool b0.n, .slice b0.p b0.l b0.c, .bool b0.m, .slice b0.p2 b0.l2 b0.c2, .bool b1.n, .slice b1.p b1.l b1.c, .bool b1.m, .slice b1.p2 b1.l2 b1.c2, .bool c0.n, .slice c0.p c0.l c0.c, .bool c0.m, .slice c0.p2 c0.l2 c0.c2, .bool c1.n, .slice c1.p c1.l c1.c, .bool c1.m, .slice c1.p2 c1.l2 c1.c2] 32)).alloc (.cells #[.bool t.n, .slice t.p t.l t.c, .bool t.m, .slice t.p2 t.l2 t.c2] 26)).alloc (.cells #[.bool false, .slice none 0 0, .bool false, .slice none 0 0, .bool false, .slice none 0 0, .bool false, .slice none 0 0] 27)) (w.heap.size + 1 + 1) 27 #[.bool false, .slice none 0 0, .bool false, .slice none 0 0, .bool false, .slice none 0 0, .bool false, .slice none 0 0] := Blk.ext (Blk.new_at ((w.alloc (.cells #[.bool a0.n, .slice a0.p a0.l a0.c, .bool a0.m, .slice a0.p2 a0.l2 a0.c2, .bool a1.n, .slice a1.p a1.l a1.c, .bool a1.m, .slice a1.p2 a1.l2 a1.c2, .bool b0.n, .slice b0.p b0.l b0.c, .bool b0.m, .slice b0.p2 b0.l2 b0.c2, .bool b1.n, .slice b1.p b1.l b1.c, .bool b1.m, .slice b1.p2 b1.l2 b1.c2, .bool c0.n, .slice c0.p c0.l c0.c, .bool c0.m, .slice c0.p2 c0.l2 c0.c2, .bool c1.n, .slice c1.p c1.l c1.c, .bool c1.m, .slice c1.p2 c1.l2 c1.c2] 32)).alloc (.cells #[.bool t.n, .slice t.p t.l t.c, .bool t.m, .slice t.p2 t.l2 t.c2] 26)) _ (by simp) _ _) (Ext.refl _)
  have hE : Ext w (((w.alloc (.cells #[.bool a0.n, .slice a0.p a0.l a0.c, .bool a0.m, .slice a0.p2 a0.l2 a0.c2, .bool a1.n, .slice a1.p a1.l a1.c, .bool a1.m, .slice a1.p2 a1.l2 a1.c2, .bool b0.n, .slice b0.p b0.l b0.c, .bool b0.m, .slice b0.p2 b0.l2 b0.c2, .bool b1.n, .slice b1.p b1.l b1.c, .bool b1.m, .slice b1.p2 b1.l2 b1.c2, .bool c0.n, .slice c0.p c0.l c0.c, .bool c0.m, .slice c0.p2 c0.l2 c0.c2, .bool c1.n, .slice c1.p c1.l c1.c, .bool c1.m, .slice c1.p2 c1.l2 c1.c2] 32)).alloc (.cells #[.bool t.n, .slice t.p t.l t.c, .bool t.m, .slice t.p2 t.l2 t.c2] 26)).alloc (.cells #[.bool false, .slice none 0 0, .bool false, .slice none 0 0, .bool false, .slice none 0 0, .bool false, .slice none 0 0] 27)) := ((((Ext.refl _).alloc _).alloc _).alloc _)
  have gR0 : w.heap.size ≤ w.heap.size + 1 + 1 := by omega
  have nbx0_R0 : w.heap.size ≠ w.heap.size + 1 + 1 := by omega
  have nbx1_R0 : w.heap.size + 1 ≠ w.heap.size + 1 + 1 := by omega
  generalize (((w.alloc (.cells #[.bool a0.n, .slice a0.p a0.l a0.c, .bool a0.m, .slice a0.p2 a0.l2 a0.c2, .bool a1.n, .slice a1.p a1.l a1.c, .bool a1.m, .slice a1.p2 a1.l2 a1.c2, .bool b0.n, .slice b0.p b0.l b0.c, .bool b0.m, .slice b0.p2 b0.l2 b0.c2, .bool b1.n, .slice b1.p b1.l b1.c, .bool b1.m, .slice b1.p2 b1.l2 b1.c2, .bool c0.n, .slice c0.p c0.l c0.c, .bool c0.m, .slice c0.p2 c0.l2 c0.c2, .bool c1.n, .slice c1.p c1.l c1.c, .bool c1.m, .slice c1.p2 c1.l2 c1.c2] 32)).alloc (.cells #[.bool t.n, .slice t.p t.l t.c, .bool t.m, .slice t.p2 t.l2 t.c2] 26)).alloc (.cells #[.bool false, .slice none 0 0, .bool false, .slice none 0 0, .bool false, .slice none 0 0, .bool false, .slice none 0 0] 27)) = wa at *
  generalize w.heap.size + 1 + 1 = R0 at *
  generalize w.heap.size + 1 = bx1 at *
  have E1 := Lib.hid (show Ext w wa from hE)
  have Fbx0 := Lib.hid hbx0
  have Fbx1 := Lib.hid hbx1
  have FR0 := Lib.hid hR0
  clear hE hbx0 hbx1 hR0
  have rl2 := rlk 2 (by decide)
  have rl3 := rlk 3 (by decide)
  have rl_m1 := Nm.rl_mul (((1 : Int) : Rat) - S) (((1 : Int) : Rat) - S)
  have rl_ts := Nm.rl_mul S (((1 : Int) : Rat) - S)
  have rl_m2 := Nm.rl_mul ((2 : Int) : Rat) (S * (((1 : Int) : Rat) - S))
  have rl_m3 := Nm.rl_mul S S
  go_cut [5] (fun s wx => ∃ (X : Nat) (r : RV), s = .pointer (some ⟨X, 0, none⟩) ∧ wa.heap.size ≤ X ∧ r.Is wx (((1 : Int) : Rat) - S) ∧ Blk wx X 26 #[.bool r.n, .slice r.p r.l r.c, .bool r.m, .slice r.p2 r.l2 r.c2] ∧ Ext wa wx)
  case first =>
    refine wp_region_held_drew (S := fun x => Ext wa x) (by kernel_rfl) (Ext.refl _).drew (fun _ => ?_)
    have E2 := Lib.hid (show Ext wa wa.drew from (Ext.refl _).drew)
    refine md_range (i := 1) (listed' := #[false, true, false, false, false]) (by rfl) (by kernel_rfl) (by kernel_rfl) (by kernel_rfl) _ _ (by rfl) bx1 0 [.bool t.n, .slice t.p t.l t.c, .bool t.m, .slice t.p2 t.l2 t.c2] _ (by intro _ _ _ h; exact h) (by rfl) (by rfl) (fun x hx => ((Fbx1.out).ext hx).part 0 4) Tryz.underlying26 (by rfl) (by kernel_rfl) E2.out (by kernel_rfl) ?_
    (try simp only [Act.put, List.setIfInBounds_toArray, List.set_cons_zero, List.set_cons_succ])
    refine md_call_or (i := 0) (j := 3) (listed' := #[true, true, false, false, false]) (lj := #[false, true, false, true, false]) (u := .pointer (some ⟨wa.drew.heap.size, 0, none⟩)) (wj := (wa.drew.alloc (.cells #[.bool false, .slice none 0 0, .bool false, .slice none 0 0] 26))) (by rfl) (by rfl) (by kernel_rfl) (by rfl) (by go_simp) (x3from 1 _ (by omega) (by omega)) (by kernel_rfl) (by rfl) (by go_simp) (E2.out.alloc _) (by kernel_rfl) ?_ ?_
    · rintro e w3 ⟨k1, rfl, hc, hx⟩
      have E3 := Lib.hid (show Ext wa.drew w3 from hx)
      have Fk1 := Lib.hid hc
      clear hc
      clear hx
      refine ⟨_, rfl, (E2.out.trans E3.out), ?_⟩
      (try simp only [Act.put, List.setIfInBounds_toArray, List.set_cons_zero, List.set_cons_succ])
      refine md_call_or (i := 2) (j := 3) (listed' := #[true, true, true, false, false]) (lj := #[true, true, false, true, false]) (u := .pointer (some ⟨w3.heap.size, 0, none⟩)) (wj := (w3.alloc (.cells #[.bool false, .slice none 0 0, .bool false, .slice none 0 0] 26))) (by rfl) (by rfl) (by kernel_rfl) (by rfl) (by go_simp) (x3sub (L := L + 1) (Fk1.out.isIn (by omega)) ((Ft.out.ext (E1.out.trans (E2.out.trans E3.out))).mono (by omega)) (by omega)) (by kernel_rfl) (by rfl) (by go_simp) ((E2.out.trans E3.out).alloc _) (by kernel_rfl) ?_ ?_
      · rintro e w4 ⟨sv, rfl, hc, hx⟩
        have E4 := Lib.hid (show Ext w3 w4 from hx)
        have Fsv := Lib.hid hc
        clear hc
        clear hx
        refine ⟨_, rfl, (E2.out.trans (E3.out.trans E4.out)), ?_⟩
        (try simp only [Act.put, List.setIfInBounds_toArray, List.set_cons_zero, List.set_cons_succ])
        refine md_one (i := 3) (listed' := #[true, true, true, true, false]) (v := .pointer (some ⟨w4.heap.size, 0, none⟩)) (w' := (w4.alloc (.cells #[.bool false, .slice none 0 0, .bool false, .slice none 0 0] 26))) (by rfl) (by kernel_rfl) (by rfl) (by go_simp) ((E2.out.trans (E3.out.trans E4.out)).alloc _) (by kernel_rfl) ?_
        (try simp only [Act.put, List.setIfInBounds_toArray, List.set_cons_zero, List.set_cons_succ])
        have E5 := Lib.hid (show Ext w4 (w4.alloc (.cells #[.bool false, .slice none 0 0, .bool false, .slice none 0 0] 26)) from (Ext.refl _).alloc _)
        have Fnb3 := Lib.hid (Blk.new w4 26 #[.bool false, .slice none 0 0, .bool false, .slice none 0 0])
        have hbx := Fnb3.out
        have ob := Own.setCells (w4.alloc (.cells #[.bool false, .slice none 0 0, .bool false, .slice none 0 0] 26)) w4.heap.size #[.bool sv.n, .slice sv.p sv.l sv.c, .bool sv.m, .slice sv.p2 sv.l2 sv.c2]
        have hgb : wa.heap.size ≤ w4.heap.size := (E2.out.trans (E3.out.trans E4.out)).size
        have hS8 : Ext wa ((w4.alloc (.cells #[.bool false, .slice none 0 0, .bool false, .slice none 0 0] 26)).setCells w4.heap.size 0 (#[.bool sv.n, .slice sv.p sv.l sv.c, .bool sv.m, .slice sv.p2 sv.l2 sv.c2] : Array Value).toList) := ob.ext (E2.out.trans (E3.out.trans (E4.out.trans E5.out))) hgb
        refine md_store (i := 4) (listed' := #[true, true, true, true, true]) (by rfl) (by kernel_rfl) (by rfl) _ _ _ (by rfl) w4.heap.size 26 #[.bool false, .slice none 0 0, .bool false, .slice none 0 0] #[.bool sv.n, .slice sv.p sv.l sv.c, .bool sv.m, .slice sv.p2 sv.l2 sv.c2] (by rfl) (by rfl) hbx (by rw [show (#[.bool sv.n, .slice sv.p sv.l sv.c, .bool sv.m, .slice sv.p2 sv.l2 sv.c2] : Array Value).size = 4 from rfl]; rfl) (by rw [show (#[.bool sv.n, .slice sv.p sv.l sv.c, .bool sv.m, .slice sv.p2 sv.l2 sv.c2] : Array Value).size = 4 from rfl]; kernel_rfl) (all_oneCell_toArray (by simp [Value.oneCell'])) hS8 (by kernel_rfl) ?_
        (try simp only [Act.put, List.setIfInBounds_toArray, List.set_cons_zero, List.set_cons_succ])
        refine wpAnyH_done (by kernel_rfl) ?_ _
        go_wp2_with fail
        go_meet
        exact ⟨_, sv, rfl, hgb, ((Fsv.out.ext E5.out)).own hbx (noU_of _ (by simp)) ob, hbx.setCells #[.bool sv.n, .slice sv.p sv.l sv.c, .bool sv.m, .slice sv.p2 sv.l2 sv.c2] rfl, hS8⟩
      · (try simp only [Act.put, List.setIfInBounds_toArray, List.set_cons_zero, List.set_cons_succ])
        have E4 := Lib.hid (show Ext w3 (w3.alloc (.cells #[.bool false, .slice none 0 0, .bool false, .slice none 0 0] 26)) from (Ext.refl _).alloc _)
        have Fnb3 := Lib.hid (Blk.new w3 26 #[.bool false, .slice none 0 0, .bool false, .slice none 0 0])
        refine md_call (i := 2) (listed' := #[true, true, true, true, false]) (by rfl) (by kernel_rfl) (by rfl) (by go_simp) (x3sub (L := L + 1) ((Fk1.out.ext E4.out).isIn (by omega)) ((Ft.out.ext (E1.out.trans (E2.out.trans (E3.out.trans E4.out)))).mono (by omega)) (by omega)) (by kernel_rfl) ?_
        rintro e w5 ⟨sv, rfl, hc, hx⟩
        have E5 := Lib.hid (show Ext (w3.alloc (.cells #[.bool false, .slice none 0 0, .bool false, .slice none 0 0] 26)) w5 from hx)
        have Fsv := Lib.hid hc
        clear hc
        clear hx
        refine ⟨_, rfl, (E2.out.trans (E3.out.trans (E4.out.trans E5.out))), ?_⟩
        (try simp only [Act.put, List.setIfInBounds_toArray, List.set_cons_zero, List.set_cons_succ])
        have hbx := (Fnb3.out.ext E5.out)
        have ob := Own.setCells w5 w3.heap.size #[.bool sv.n, .slice sv.p sv.l sv.c, .bool sv.m, .slice sv.p2 sv.l2 sv.c2]
        have hgb : wa.heap.size ≤ w3.heap.size := (E2.out.trans E3.out).size
        have hS8 : Ext wa (w5.setCells w3.heap.size 0 (#[.bool sv.n, .slice sv.p sv.l sv.c, .bool sv.m, .slice sv.p2 sv.l2 sv.c2] : Array Value).toList) := ob.ext (E2.out.trans (E3.out.trans (E4.out.trans E5.out))) hgb
        refine md_store (i := 4) (listed' := #[true, true, true, true, true]) (by rfl) (by kernel_rfl) (by rfl) _ _ _ (by rfl) w3.heap.size 26 #[.bool false, .slice none 0 0, .bool false, .slice none 0 0] #[.bool sv.n, .slice sv.p sv.l sv.c, .bool sv.m, .slice sv.p2 sv.l2 sv.c2] (by rfl) (by rfl) hbx (by rw [show (#[.bool sv.n, .slice sv.p sv.l sv.c, .bool sv.m, .slice sv.p2 sv.l2 sv.c2] : Array Value).size = 4 from rfl]; rfl) (by rw [show (#[.bool sv.n, .slice sv.p sv.l sv.c, .bool sv.m, .slice sv.p2 sv.l2 sv.c2] : Array Value).size = 4 from rfl]; kernel_rfl) (all_oneCell_toArray (by simp [Value.oneCell'])) hS8 (by kernel_rfl) ?_
        (try simp only [Act.put, List.setIfInBounds_toArray, List.set_cons_zero, List.set_cons_succ])
        refine wpAnyH_done (by kernel_rfl) ?_ _
        go_wp2_with fail
        go_meet
        exact ⟨_, sv, rfl, hgb, (Fsv.out).own hbx (noU_of _ (by simp)) ob, hbx.setCells #[.bool sv.n, .slice sv.p sv.l sv.c, .bool sv.m, .slice sv.p2 sv.l2 sv.c2] rfl, hS8⟩
    · (try simp only [Act.put, List.setIfInBounds_toArray, List.set_cons_zero, List.set_cons_succ])
      have E3 := Lib.hid (show Ext wa.drew (wa.drew.alloc (.cells #[.bool false, .slice none 0 0, .bool false, .slice none 0 0] 26)) from (Ext.refl _).alloc _)
      have Fnb3 := Lib.hid (Blk.new wa.drew 26 #[.bool false, .slice none 0 0, .bool false, .slice none 0 0])
      refine md_call (i := 0) (listed' := #[true, true, false, true, false]) (by rfl) (by kernel_rfl) (by rfl) (by go_simp) (x3from 1 _ (by omega) (by omega)) (by kernel_rfl) ?_
      rintro e w4 ⟨k1, rfl, hc, hx⟩
      have E4 := Lib.hid (show Ext (wa.drew.alloc (.cells #[.bool false, .slice none 0 0, .bool false, .slice none 0 0] 26)) w4 from hx)
      have Fk1 := Lib.hid hc
      clear hc
      clear hx
      refine ⟨_, rfl, (E2.out.trans (E3.out.trans E4.out)), ?_⟩
      (try simp only [Act.put, List.setIfInBounds_toArray, List.set_cons_zero, List.set_cons_succ])
      refine md_call (i := 2) (listed' := #[true, true, true, true, false]) (by rfl) (by kernel_rfl) (by rfl) (by go_simp) (x3sub (L := L + 1) (Fk1.out.isIn (by omega)) ((Ft.out.ext (E1.out.trans (E2.out.trans (E3.out.trans E4.out)))).mono (by omega)) (by omega)) (by kernel_rfl) ?_
      rintro e w5 ⟨sv, rfl, hc, hx⟩
      have E5 := Lib.hid (show Ext w4 w5 from hx)
      have Fsv := Lib.hid hc
      clear hc
      clear hx
      refine ⟨_, rfl, (E2.out.trans (E3.out.trans (E4.out.trans E5.out))), ?_⟩
      (try simp only [Act.put, List.setIfInBounds_toArray, List.set_cons_zero, List.set_cons_succ])
      have hbx := (Fnb3.out.ext (E4.out.trans E5.out))
      have ob := Own.setCells w5 wa.drew.heap.size #[.bool sv.n, .slice sv.p sv.l sv.c, .bool sv.m, .slice sv.p2 sv.l2 sv.c2]
      have hgb : wa.heap.size ≤ wa.drew.heap.size := E2.out.size
      have hS8 : Ext wa (w5.setCells wa.drew.heap.size 0 (#[.bool sv.n, .slice sv.p sv.l sv.c, .bool sv.m, .slice sv.p2 sv.l2 sv.c2] : Array Value).toList) := ob.ext (E2.out.trans (E3.out.trans (E4.out.trans E5.out))) hgb
      refine md_store (i := 4) (listed' := #[true, true, true, true, true]) (by rfl) (by kernel_rfl) (by rfl) _ _ _ (by rfl) wa.drew.heap.size 26 #[.bool false, .slice none 0 0, .bool false, .slice none 0 0] #[.bool sv.n, .slice sv.p sv.l sv.c, .bool sv.m, .slice sv.p2 sv.l2 sv.c2] (by rfl) (by rfl) hbx (by rw [show (#[.bool sv.n, .slice sv.p sv.l sv.c, .bool sv.m, .slice sv.p2 sv.l2 sv.c2] : Array Value).size = 4 from rfl]; rfl) (by rw [show (#[.bool sv.n, .slice sv.p sv.l sv.c, .bool sv.m, .slice sv.p2 sv.l2 sv.c2] : Array Value).size = 4 from rfl]; kernel_rfl) (all_oneCell_toArray (by simp [Value.oneCell'])) hS8 (by kernel_rfl) ?_
      (try simp only [Act.put, List.setIfInBounds_toArray, List.set_cons_zero, List.set_cons_succ])
      refine wpAnyH_done (by kernel_rfl) ?_ _
      go_wp2_with fail
      go_meet
      exact ⟨_, sv, rfl, hgb, (Fsv.out).own hbx (noU_of _ (by simp)) ob, hbx.setCells #[.bool sv.n, .slice sv.p sv.l sv.c, .bool sv.m, .slice sv.p2 sv.l2 sv.c2] rfl, hS8⟩
  case rest =>
    obtain ⟨XS, sv, rfl, hXS, hs, hb, hx⟩ := hcut
    have nbs_R0 : XS ≠ R0 := by have h9 := Blk.lt FR0.out; omega
    have E2 := Lib.hid (show Ext wa wc from hx)
    have Fsv := Lib.hid hs
    have Fbs := Lib.hid hb
    clear hs hb hx hXS
    go_upto_region 2 with fail
    refine wp_region_held_drew (S := fun x => Ext wc x) (by kernel_rfl) (Ext.refl _).drew (fun _ => ?_)
    have E3 := Lib.hid (show Ext wc wc.drew from (Ext.refl _).drew)
    refine md_range (i := 0) (listed' := #[true, false, false, false, false, false, false, false, false, false, false, false, false]) (by rfl) (by kernel_rfl) (by kernel_rfl) (by kernel_rfl) _ _ (by rfl) XS 0 [.bool sv.n, .slice sv.p sv.l sv.c, .bool sv.m, .slice sv.p2 sv.l2 sv.c2] _ (by intro _ _ _ h; exact h) (by rfl) (by rfl) (fun x hx => ((Fbs.out).ext hx).part 0 4) Tryz.underlying26 (by rfl) (by kernel_rfl) E3.out (by kernel_rfl) ?_
    (try simp only [Act.put, List.setIfInBounds_toArray, List.set_cons_zero, List.set_cons_succ])
    refine md_range (i := 1) (listed' := #[true, true, false, false, false, false, false, false, false, false, false, false, false]) (by rfl) (by kernel_rfl) (by kernel_rfl) (by kernel_rfl) _ _ (by rfl) XS 0 [.bool sv.n, .slice sv.p sv.l sv.c, .bool sv.m, .slice sv.p2 sv.l2 sv.c2] _ (by intro _ _ _ h; exact h) (by rfl) (by rfl) (fun x hx => ((Fbs.out).ext hx).part 0 4) Tryz.underlying26 (by rfl) (by kernel_rfl) E3.out (by kernel_rfl) ?_
    (try simp only [Act.put, List.setIfInBounds_toArray, List.set_cons_zero, List.set_cons_succ])
    refine md_range (i := 4) (listed' := #[true, true, false, false, true, false, false, false, false, false, false, false, false]) (by rfl) (by kernel_rfl) (by kernel_rfl) (by kernel_rfl) _ _ (by rfl) bx1 0 [.bool t.n, .slice t.p t.l t.c, .bool t.m, .slice t.p2 t.l2 t.c2] _ (by intro _ _ _ h; exact h) (by rfl) (by rfl) (fun x hx => (((Fbx1.out.ext E2.out)).ext hx).part 0 4) Tryz.underlying26 (by rfl) (by kernel_rfl) E3.out (by kernel_rfl) ?_
    (try simp only [Act.put, List.setIfInBounds_toArray, List.set_cons_zero, List.set_cons_succ])
    refine md_range (i := 5) (listed' := #[true, true, false, false, true, true, false, false, false, false, false, false, false]) (by rfl) (by kernel_rfl) (by kernel_rfl) (by kernel_rfl) _ _ (by rfl) XS 0 [.bool sv.n, .slice sv.p sv.l sv.c, .bool sv.m, .slice sv.p2 sv.l2 sv.c2] _ (by intro _ _ _ h; exact h) (by rfl) (by rfl) (fun x hx => ((Fbs.out).ext hx).part 0 4) Tryz.underlying26 (by rfl) (by kernel_rfl) E3.out (by kernel_rfl) ?_
    (try simp only [Act.put, List.setIfInBounds_toArray, List.set_cons_zero, List.set_cons_succ])
    refine md_range (i := 8) (listed' := #[true, true, false, false, true, true, false, false, true, false, false, false, false]) (by rfl) (by kernel_rfl) (by kernel_rfl) (by kernel_rfl) _ _ (by rfl) bx1 0 [.bool t.n, .slice t.p t.l t.c, .bool t.m, .slice t.p2 t.l2 t.c2] _ (by intro _ _ _ h; exact h) (by rfl) (by rfl) (fun x hx => (((Fbx1.out.ext E2.out)).ext hx).part 0 4) Tryz.underlying26 (by rfl) (by kernel_rfl) E3.out (by kernel_rfl) ?_
    (try simp only [Act.put, List.setIfInBounds_toArray, List.set_cons_zero, List.set_cons_succ])
    refine md_range (i := 9) (listed' := #[true, true, false, false, true, true, false, false, true, true, false, false, false]) (by rfl) (by kernel_rfl) (by kernel_rfl) (by kernel_rfl) _ _ (by rfl) bx1 0 [.bool t.n, .slice t.p t.l t.c, .bool t.m, .slice t.p2 t.l2 t.c2] _ (by intro _ _ _ h; exact h) (by rfl) (by rfl) (fun x hx => (((Fbx1.out.ext E2.out)).ext hx).part 0 4) Tryz.underlying26 (by rfl) (by kernel_rfl) E3.out (by kernel_rfl) ?_
    (try simp only [Act.put, List.setIfInBounds_toArray, List.set_cons_zero, List.set_cons_succ])
    refine md_call (i := 2) (listed' := #[true, true, true, false, true, true, false, false, true, true, false, false, false]) (by rfl) (by kernel_rfl) (by rfl) (by go_simp) (x3mul (L := 4 * L + 8) ((Fsv.out.ext E3.out).isIn (by omega)) ((Fsv.out.ext E3.out).isIn (by omega)) (by omega)) (by kernel_rfl) ?_
    rintro e w4 ⟨m1, rfl, hc, hx⟩
    have E4 := Lib.hid (show Ext wc.drew w4 from hx)
    have Fm1 := Lib.hid hc
    clear hc
    clear hx
    refine ⟨_, rfl, (E3.out.trans E4.out), ?_⟩
    (try simp only [Act.put, List.setIfInBounds_toArray, List.set_cons_zero, List.set_cons_succ])
    refine md_call (i := 3) (listed' := #[true, true, true, true, true, true, false, false, true, true, false, false, false]) (by rfl) (by kernel_rfl) (by rfl) (by go_simp) (x3from 2 _ (by omega) (by omega)) (by kernel_rfl) ?_
    rintro e w5 ⟨k2, rfl, hc, hx⟩
    have E5 := Lib.hid (show Ext w4 w5 from hx)
    have Fk2 := Lib.hid hc
    clear hc
    clear hx
    refine ⟨_, rfl, (E3.out.trans (E4.out.trans E5.out)), ?_⟩
    (try simp only [Act.put, List.setIfInBounds_toArray, List.set_cons_zero, List.set_cons_succ])
    refine md_call (i := 6) (listed' := #[true, true, true, true, true, true, true, false, true, true, false, false, false]) (by rfl) (by kernel_rfl) (by rfl) (by go_simp) (x3mul (L := 4 * L + 8) ((Ft.out.ext (E1.out.trans (E2.out.trans (E3.out.trans (E4.out.trans E5.out))))).mono (by omega)) ((Fsv.out.ext (E3.out.trans (E4.out.trans E5.out))).isIn (by omega)) (by omega)) (by kernel_rfl) ?_
    rintro e w6 ⟨ts, rfl, hc, hx⟩
    have E6 := Lib.hid (show Ext w5 w6 from hx)
    have Fts := Lib.hid hc
    clear hc
    clear hx
    refine ⟨_, rfl, (E3.out.trans (E4.out.trans (E5.out.trans E6.out))), ?_⟩
    (try simp only [Act.put, List.setIfInBounds_toArray, List.set_cons_zero, List.set_cons_succ])
    refine md_call (i := 7) (listed' := #[true, true, true, true, true, true, true, true, true, true, false, false, false]) (by rfl) (by kernel_rfl) (by rfl) (by go_simp) (x3mul (L := 4 * L + 8) ((Fk2.out.ext E6.out).isIn (by omega)) (Fts.out.isIn (by omega)) (by omega)) (by kernel_rfl) ?_
    rintro e w7 ⟨m2, rfl, hc, hx⟩
    have E7 := Lib.hid (show Ext w6 w7 from hx)
    have Fm2 := Lib.hid hc
    clear hc
    clear hx
    refine ⟨_, rfl, (E3.out.trans (E4.out.trans (E5.out.trans (E6.out.trans E7.out)))), ?_⟩
    (try simp only [Act.put, List.setIfInBounds_toArray, List.set_cons_zero, List.set_cons_succ])
    refine md_call (i := 10) (listed' := #[true, true, true, true, true, true, true, true, true, true, true, false, false]) (by rfl) (by kernel_rfl) (by rfl) (by go_simp) (x3mul (L := 4 * L + 8) ((Ft.out.ext (E1.out.trans (E2.out.trans (E3.out.trans (E4.out.trans (E5.out.trans (E6.out.trans E7.out))))))).mono (by omega)) ((Ft.out.ext (E1.out.trans (E2.out.trans (E3.out.trans (E4.out.trans (E5.out.trans (E6.out.trans E7.out))))))).mono (by omega)) (by omega)) (by kernel_rfl) ?_
    rintro e w8 ⟨m3, rfl, hc, hx⟩
    have E8 := Lib.hid (show Ext w7 w8 from hx)
    have Fm3 := Lib.hid hc
    clear hc
    clear hx
    refine ⟨_, rfl, (E3.out.trans (E4.out.trans (E5.out.trans (E6.out.trans (E7.out.trans E8.out))))), ?_⟩
    (try simp only [Act.put, List.setIfInBounds_toArray, List.set_cons_zero, List.set_cons_succ])
    refine md_one (i := 11) (listed' := #[true, true, true, true, true, true, true, true, true, true, true, true, false]) (v := .slice (some ⟨w8.heap.size, 0, none⟩) 3 3) (w' := (w8.alloc (.cells #[.bool m1.n, .slice m1.p m1.l m1.c, .bool m1.m, .slice m1.p2 m1.l2 m1.c2, .bool m2.n, .slice m2.p m2.l m2.c, .bool m2.m, .slice m2.p2 m2.l2 m2.c2, .bool m3.n, .slice m3.p m3.l m3.c, .bool m3.m, .slice m3.p2 m3.l2 m3.c2] 26))) (by rfl) (by kernel_rfl) (by rfl) (by go_simp) ((E3.out.trans (E4.out.trans (E5.out.trans (E6.out.trans (E7.out.trans E8.out))))).alloc _) (by kernel_rfl) ?_
    (try simp only [Act.put, List.setIfInBounds_toArray, List.set_cons_zero, List.set_cons_succ])
    have E9 := Lib.hid (show Ext w8 (w8.alloc (.cells #[.bool m1.n, .slice m1.p m1.l m1.c, .bool m1.m, .slice m1.p2 m1.l2 m1.c2, .bool m2.n, .slice m2.p m2.l m2.c, .bool m2.m, .slice m2.p2 m2.l2 m2.c2, .bool m3.n, .slice m3.p m3.l m3.c, .bool m3.m, .slice m3.p2 m3.l2 m3.c2] 26)) from (Ext.refl _).alloc _)
    have Fnb11 := Lib.hid (Blk.new w8 26 #[.bool m1.n, .slice m1.p m1.l m1.c, .bool m1.m, .slice m1.p2 m1.l2 m1.c2, .bool m2.n, .slice m2.p m2.l m2.c, .bool m2.m, .slice m2.p2 m2.l2 m2.c2, .bool m3.n, .slice m3.p m3.l m3.c, .bool m3.m, .slice m3.p2 m3.l2 m3.c2])
    refine md_val (i := 12) (v := ?vm1) (listed' := #[true, true, true, true, true, true, true, true, true, true, true, true, true]) (by rfl) (by kernel_rfl) (by kernel_rfl) (by kernel_rfl) (by intro _ _ _ h; exact h) (by rfl) ?hm1 (E3.out.trans (E4.out.trans (E5.out.trans (E6.out.trans (E7.out.trans (E8.out.trans E9.out)))))) (by kernel_rfl) ?rm1
    case hm1 => (intro w hSw; (try dsimp only at hSw); go_simp <;> with_reducible rfl)
    (try simp only [Act.put, List.setIfInBounds_toArray, List.set_cons_zero, List.set_cons_succ])
    refine wpAnyH_done (by kernel_rfl) ?_ _
    have nbW_R0 : w8.heap.size ≠ R0 := Nat.ne_of_gt (Blk.lt (FR0.out.ext (E2.out.trans (E3.out.trans (E4.out.trans (E5.out.trans (E6.out.trans (E7.out.trans E8.out))))))))
    generalize (w8.alloc (.cells #[.bool m1.n, .slice m1.p m1.l m1.c, .bool m1.m, .slice m1.p2 m1.l2 m1.c2, .bool m2.n, .slice m2.p m2.l m2.c, .bool m2.m, .slice m2.p2 m2.l2 m2.c2, .bool m3.n, .slice m3.p m3.l m3.c, .bool m3.m, .slice m3.p2 m3.l2 m3.c2] 26)) = wW at *
    generalize w8.heap.size = XW at *
    have FbW := Fnb11
    go_upto_region 3 with fail
    refine wp_region_held_drew (S := fun x => Own R0 wW x) (by kernel_rfl) (Own.of_ext (Ext.refl _).drew) (fun _ => ?_)
    have E10 := Lib.hid (show Ext wW wW.drew from (Ext.refl _).drew)
    refine md_val (i := 0) (v := ?vm2) (listed' := #[true, false, false, false, false, false, false, false, false, false, false, false, false, false, false, false, false, false, false, false, false, false, false, false, false, false]) (by rfl) (by kernel_rfl) (by kernel_rfl) (by kernel_rfl) (by intro _ _ _ h; exact h) (by rfl) ?hm2 (Own.of_ext E10.out) (by kernel_rfl) ?rm2
    case hm2 => (intro w hSw; (try dsimp only at hSw); go_simp <;> with_reducible rfl)
    (try simp only [Act.put, List.setIfInBounds_toArray, List.set_cons_zero, List.set_cons_succ])
    refine md_val (i := 1) (v := ?vm3) (listed' := #[true, true, false, false, false, false, false, false, false, false, false, false, false, false, false, false, false, false, false, false, false, false, false, false, false, false]) (by rfl) (by kernel_rfl) (by kernel_rfl) (by kernel_rfl) (by intro _ _ _ h; exact h) (by rfl) ?hm3 (Own.of_ext E10.out) (by kernel_rfl) ?rm3
    case hm3 => (intro w hSw; (try dsimp only at hSw); go_simp <;> with_reducible rfl)
    (try simp only [Act.put, List.setIfInBounds_toArray, List.set_cons_zero, List.set_cons_succ])
    refine md_val (i := 2) (v := ?vm4) (listed' := #[true, true, true, false, false, false, false, false, false, false, false, false, false, false, false, false, false, false, false, false, false, false, false, false, false, false]) (by rfl) (by kernel_rfl) (by kernel_rfl) (by kernel_rfl) (by intro _ _ _ h; exact h) (by rfl) ?hm4 (Own.of_ext E10.out) (by kernel_rfl) ?rm4
    case hm4 => (intro w hSw; (try dsimp only at hSw); go_simp <;> with_reducible rfl)
    (try simp only [Act.put, List.setIfInBounds_toArray, List.set_cons_zero, List.set_cons_succ])
    refine md_range (i := 3) (listed' := #[true, true, true, true, false, false, false, false, false, false, false, false, false, false, false, false, false, false, false, false, false, false, false, false, false, false]) (by rfl) (by kernel_rfl) (by kernel_rfl) (by kernel_rfl) _ _ (by rfl) w.heap.size 0 [.bool a0.n, .slice a0.p a0.l a0.c, .bool a0.m, .slice a0.p2 a0.l2 a0.c2] _ (by intro _ _ _ h; exact h) (by rfl) (by rfl) (fun x hx => (((Fbx0.out.ext (E2.out.trans (E3.out.trans (E4.out.trans (E5.out.trans (E6.out.trans (E7.out.trans (E8.out.trans E9.out))))))))).own hx nbx0_R0).part 0 4) Tryz.underlying26 (by rfl) (by kernel_rfl) (Own.of_ext E10.out) (by kernel_rfl) ?_
    (try simp only [Act.put, List.setIfInBounds_toArray, List.set_cons_zero, List.set_cons_succ])
    refine md_val (i := 4) (v := ?vm5) (listed' := #[true, true, true, true, true, false, false, false, false, false, false, false, false, false, false, false, false, false, false, false, false, false, false, false, false, false]) (by rfl) (by kernel_rfl) (by kernel_rfl) (by kernel_rfl) (by intro _ _ _ h; exact h) (by rfl) ?hm5 (Own.of_ext E10.out) (by kernel_rfl) ?rm5
    case hm5 => (intro w hSw; (try dsimp only at hSw); go_simp <;> with_reducible rfl)
    (try simp only [Act.put, List.setIfInBounds_toArray, List.set_cons_zero, List.set_cons_succ])
    refine md_val (i := 5) (v := ?vm6) (listed' := #[true, true, true, true, true, true, false, false, false, false, false, false, false, false, false, false, false, false, false, false, false, false, false, false, false, false]) (by rfl) (by kernel_rfl) (by kernel_rfl) (by kernel_rfl) (by intro _ _ _ h; exact h) (by rfl) ?hm6 (Own.of_ext E10.out) (by kernel_rfl) ?rm6
    case hm6 => (intro w hSw; (try dsimp only at hSw); go_simp <;> with_reducible rfl)
    (try simp only [Act.put, List.setIfInBounds_toArray, List.set_cons_zero, List.set_cons_succ])
    refine md_range (i := 6) (listed' := #[true, true, true, true, true, true, true, false, false, false, false, false, false, false, false, false, false, false, false, false, false, false, false, false, false, false]) (by rfl) (by kernel_rfl) (by kernel_rfl) (by kernel_rfl) _ _ (by rfl) w.heap.size 8 [.bool b0.n, .slice b0.p b0.l b0.c, .bool b0.m, .slice b0.p2 b0.l2 b0.c2] _ (by intro _ _ _ h; exact h) (by rfl) (by rfl) (fun x hx => (((Fbx0.out.ext (E2.out.trans (E3.out.trans (E4.out.trans (E5.out.trans (E6.out.trans (E7.out.trans (E8.out.trans E9.out))))))))).own hx nbx0_R0).part 8 4) Tryz.underlying26 (by rfl) (by kernel_rfl) (Own.of_ext E10.out) (by kernel_rfl) ?_
    (try simp only [Act.put, List.setIfInBounds_toArray, List.set_cons_zero, List.set_cons_succ])
    refine md_val (i := 7) (v := ?vm7) (listed' := #[true, true, true, true, true, true, true, true, false, false, false, false, false, false, false, false, false, false, false, false, false, false, false, false, false, false]) (by rfl) (by kernel_rfl) (by kernel_rfl) (by kernel_rfl) (by intro _ _ _ h; exact h) (by rfl) ?hm7 (Own.of_ext E10.out) (by kernel_rfl) ?rm7
    case hm7 => (intro w hSw; (try dsimp only at hSw); go_simp <;> with_reducible rfl)
    (try simp only [Act.put, List.setIfInBounds_toArray, List.set_cons_zero, List.set_cons_succ])
    refine md_val (i := 8) (v := ?vm8) (listed' := #[true, true, true, true, true, true, true, true, true, false, false, false, false, false, false, false, false, false, false, false, false, false, false, false, false, false]) (by rfl) (by kernel_rfl) (by kernel_rfl) (by kernel_rfl) (by intro _ _ _ h; exact h) (by rfl) ?hm8 (Own.of_ext E10.out) (by kernel_rfl) ?rm8
    case hm8 => (intro w hSw; (try dsimp only at hSw); go_simp <;> with_reducible rfl)
    (try simp only [Act.put, List.setIfInBounds_toArray, List.set_cons_zero, List.set_cons_succ])
    refine md_range (i := 9) (listed' := #[true, true, true, true, true, true, true, true, true, true, false, false, false, false, false, false, false, false, false, false, false, false, false, false, false, false]) (by rfl) (by kernel_rfl) (by kernel_rfl) (by kernel_rfl) _ _ (by rfl) w.heap.size 16 [.bool c0.n, .slice c0.p c0.l c0.c, .bool c0.m, .slice c0.p2 c0.l2 c0.c2] _ (by intro _ _ _ h; exact h) (by rfl) (by rfl) (fun x hx => (((Fbx0.out.ext (E2.out.trans (E3.out.trans (E4.out.trans (E5.out.trans (E6.out.trans (E7.out.trans (E8.out.trans E9.out))))))))).own hx nbx0_R0).part 16 4) Tryz.underlying26 (by rfl) (by kernel_rfl) (Own.of_ext E10.out) (by kernel_rfl) ?_
    (try simp only [Act.put, List.setIfInBounds_toArray, List.set_cons_zero, List.set_cons_succ])
    refine md_val (i := 12) (v := ?vm9) (listed' := #[true, true, true, true, true, true, true, true, true, true, false, false, true, false, false, false, false, false, false, false, false, false, false, false, false, false]) (by rfl) (by kernel_rfl) (by kernel_rfl) (by kernel_rfl) (by intro _ _ _ h; exact h) (by rfl) ?hm9 (Own.of_ext E10.out) (by kernel_rfl) ?rm9
    case hm9 => (intro w hSw; (try dsimp only at hSw); go_simp <;> with_reducible rfl)
    (try simp only [Act.put, List.setIfInBounds_toArray, List.set_cons_zero, List.set_cons_succ])
    refine md_val (i := 13) (v := ?vm10) (listed' := #[true, true, true, true, true, true, true, true, true, true, false, false, true, true, false, false, false, false, false, false, false, false, false, false, false, false]) (by rfl) (by kernel_rfl) (by kernel_rfl) (by kernel_rfl) (by intro _ _ _ h; exact h) (by rfl) ?hm10 (Own.of_ext E10.out) (by kernel_rfl) ?rm10
    case hm10 => (intro w hSw; (try dsimp only at hSw); go_simp <;> with_reducible rfl)
    (try simp only [Act.put, List.setIfInBounds_toArray, List.set_cons_zero, List.set_cons_succ])
    refine md_val (i := 14) (v := ?vm11) (listed' := #[true, true, true, true, true, true, true, true, true, true, false, false, true, true, true, false, false, false, false, false, false, false, false, false, false, false]) (by rfl) (by kernel_rfl) (by kernel_rfl) (by kernel_rfl) (by intro _ _ _ h; exact h) (by rfl) ?hm11 (Own.of_ext E10.out) (by kernel_rfl) ?rm11
    case hm11 => (intro w hSw; (try dsimp only at hSw); go_simp <;> with_reducible rfl)
    (try simp only [Act.put, List.setIfInBounds_toArray, List.set_cons_zero, List.set_cons_succ])
    refine md_range (i := 15) (listed' := #[true, true, true, true, true, true, true, true, true, true, false, false, true, true, true, true, false, false, false, false, false, false, false, false, false, false]) (by rfl) (by kernel_rfl) (by kernel_rfl) (by kernel_rfl) _ _ (by rfl) w.heap.size 4 [.bool a1.n, .slice a1.p a1.l a1.c, .bool a1.m, .slice a1.p2 a1.l2 a1.c2] _ (by intro _ _ _ h; exact h) (by rfl) (by rfl) (fun x hx => (((Fbx0.out.ext (E2.out.trans (E3.out.trans (E4.out.trans (E5.out.trans (E6.out.trans (E7.out.trans (E8.out.trans E9.out))))))))).own hx nbx0_R0).part 4 4) Tryz.underlying26 (by rfl) (by kernel_rfl) (Own.of_ext E10.out) (by kernel_rfl) ?_
    (try simp only [Act.put, List.setIfInBounds_toArray, List.set_cons_zero, List.set_cons_succ])
    refine md_val (i := 16) (v := ?vm12) (listed' := #[true, true, true, true, true, true, true, true, true, true, false, false, true, true, true, true, true, false, false, false, false, false, false, false, false, false]) (by rfl) (by kernel_rfl) (by kernel_rfl) (by kernel_rfl) (by intro _ _ _ h; exact h) (by rfl) ?hm12 (Own.of_ext E10.out) (by kernel_rfl) ?rm12
    case hm12 => (intro w hSw; (try dsimp only at hSw); go_simp <;> with_reducible rfl)
    (try simp only [Act.put, List.setIfInBounds_toArray, List.set_cons_zero, List.set_cons_succ])
    refine md_val (i := 17) (v := ?vm13) (listed' := #[true, true, true, true, true, true, true, true, true, true, false, false, true, true, true, true, true, true, false, false, false, false, false, false, false, false]) (by rfl) (by kernel_rfl) (by kernel_rfl) (by kernel_rfl) (by intro _ _ _ h; exact h) (by rfl) ?hm13 (Own.of_ext E10.out) (by kernel_rfl) ?rm13
    case hm13 => (intro w hSw; (try dsimp only at hSw); go_simp <;> with_reducible rfl)
    (try simp only [Act.put, List.setIfInBounds_toArray, List.set_cons_zero, List.set_cons_succ])
    refine md_range (i := 18) (listed' := #[true, true, true, true, true, true, true, true, true, true, false, false, true, true, true, true, true, true, true, false, false, false, false, false, false, false]) (by rfl) (by kernel_rfl) (by kernel_rfl) (by kernel_rfl) _ _ (by rfl) w.heap.size 12 [.bool b1.n, .slice b1.p b1.l b1.c, .bool b1.m, .slice b1.p2 b1.l2 b1.c2] _ (by intro _ _ _ h; exact h) (by rfl) (by rfl) (fun x hx => (((Fbx0.out.ext (E2.out.trans (E3.out.trans (E4.out.trans (E5.out.trans (E6.out.trans (E7.out.trans (E8.out.trans E9.out))))))))).own hx nbx0_R0).part 12 4) Tryz.underlying26 (by rfl) (by kernel_rfl) (Own.of_ext E10.out) (by kernel_rfl) ?_
    (try simp only [Act.put, List.setIfInBounds_toArray, List.set_cons_zero, List.set_cons_succ])
    refine md_val (i := 19) (v := ?vm14) (listed' := #[true, true, true, true, true, true, true, true, true, true, false, false, true, true, true, true, true, true, true, true, false, false, false, false, false, false]) (by rfl) (by kernel_rfl) (by kernel_rfl) (by kernel_rfl) (by intro _ _ _ h; exact h) (by rfl) ?hm14 (Own.of_ext E10.out) (by kernel_rfl) ?rm14
    case hm14 => (intro w hSw; (try dsimp only at hSw); go_simp <;> with_reducible rfl)
    (try simp only [Act.put, List.setIfInBounds_toArray, List.set_cons_zero, List.set_cons_succ])
    refine md_val (i := 20) (v := ?vm15) (listed' := #[true, true, true, true, true, true, true, true, true, true, false, false, true, true, true, true, true, true, true, true, true, false, false, false, false, false]) (by rfl) (by kernel_rfl) (by kernel_rfl) (by kernel_rfl) (by intro _ _ _ h; exact h) (by rfl) ?hm15 (Own.of_ext E10.out) (by kernel_rfl) ?rm15
    case hm15 => (intro w hSw; (try dsimp only at hSw); go_simp <;> with_reducible rfl)
    (try simp only [Act.put, List.setIfInBounds_toArray, List.set_cons_zero, List.set_cons_succ])
    refine md_range (i := 21) (listed' := #[true, true, true, true, true, true, true, true, true, true, false, false, true, true, true, true, true, true, true, true, true, true, false, false, false, false]) (by rfl) (by kernel_rfl) (by kernel_rfl) (by kernel_rfl) _ _ (by rfl) w.heap.size 20 [.bool c1.n, .slice c1.p c1.l c1.c, .bool c1.m, .slice c1.p2 c1.l2 c1.c2] _ (by intro _ _ _ h; exact h) (by rfl) (by rfl) (fun x hx => (((Fbx0.out.ext (E2.out.trans (E3.out.trans (E4.out.trans (E5.out.trans (E6.out.trans (E7.out.trans (E8.out.trans E9.out))))))))).own hx nbx0_R0).part 20 4) Tryz.underlying26 (by rfl) (by kernel_rfl) (Own.of_ext E10.out) (by kernel_rfl) ?_
    (try simp only [Act.put, List.setIfInBounds_toArray, List.set_cons_zero, List.set_cons_succ])
    refine md_two (i := 10) (j := 22) (listed' := #[true, true, true, true, true, true, true, true, true, true, true, false, true, true, true, true, true, true, true, true, true, true, false, false, false, false]) (lj := #[true, true, true, true, true, true, true, true, true, true, false, false, true, true, true, true, true, true, true, true, true, true, true, false, false, false]) (v := .slice (some ⟨wW.drew.heap.size, 0, none⟩) 3 3) (wi := (wW.drew.alloc (.cells #[.bool a0.n, .slice a0.p a0.l a0.c, .bool a0.m, .slice a0.p2 a0.l2 a0.c2, .bool b0.n, .slice b0.p b0.l b0.c, .bool b0.m, .slice b0.p2 b0.l2 b0.c2, .bool c0.n, .slice c0.p c0.l c0.c, .bool c0.m, .slice c0.p2 c0.l2 c0.c2] 26))) (u := .slice (some ⟨wW.drew.heap.size, 0, none⟩) 3 3) (wj := (wW.drew.alloc (.cells #[.bool a1.n, .slice a1.p a1.l a1.c, .bool a1.m, .slice a1.p2 a1.l2 a1.c2, .bool b1.n, .slice b1.p b1.l b1.c, .bool b1.m, .slice b1.p2 b1.l2 b1.c2, .bool c1.n, .slice c1.p c1.l c1.c, .bool c1.m, .slice c1.p2 c1.l2 c1.c2] 26))) (by rfl) (by rfl) (by kernel_rfl) (by rfl) (by go_simp) (Own.of_ext (E10.out.alloc _)) (by kernel_rfl) (by rfl) (by go_simp) (Own.of_ext (E10.out.alloc _)) (by kernel_rfl) ?_ ?_
    · (try simp only [Act.put, List.setIfInBounds_toArray, List.set_cons_zero, List.set_cons_succ])
      have E11 := Lib.hid (show Ext wW.drew (wW.drew.alloc (.cells #[.bool a0.n, .slice a0.p a0.l a0.c, .bool a0.m, .slice a0.p2 a0.l2 a0.c2, .bool b0.n, .slice b0.p b0.l b0.c, .bool b0.m, .slice b0.p2 b0.l2 b0.c2, .bool c0.n, .slice c0.p c0.l c0.c, .bool c0.m, .slice c0.p2 c0.l2 c0.c2] 26)) from (Ext.refl _).alloc _)
      have Fnb10 := Lib.hid (Blk.new wW.drew 26 #[.bool a0.n, .slice a0.p a0.l a0.c, .bool a0.m, .slice a0.p2 a0.l2 a0.c2, .bool b0.n, .slice b0.p b0.l b0.c, .bool b0.m, .slice b0.p2 b0.l2 b0.c2, .bool c0.n, .slice c0.p c0.l c0.c, .bool c0.m, .slice c0.p2 c0.l2 c0.c2])
      refine md_call_or (i := 11) (j := 22) (listed' := #[true, true, true, true, true, true, true, true, true, true, true, true, true, true, true, true, true, true, true, true, true, true, false, false, false, false]) (lj := #[true, true, true, true, true, true, true, true, true, true, true, false, true, true, true, true, true, true, true, true, true, true, true, false, false, false]) (u := .slice (some ⟨(wW.drew.alloc (.cells #[.bool a0.n, .slice a0.p a0.l a0.c, .bool a0.m, .slice a0.p2 a0.l2 a0.c2, .bool b0.n, .slice b0.p b0.l b0.c, .bool b0.m, .slice b0.p2 b0.l2 b0.c2, .bool c0.n, .slice c0.p c0.l c0.c, .bool c0.m, .slice c0.p2 c0.l2 c0.c2] 26)).heap.size, 0, none⟩) 3 3) (wj := ((wW.drew.alloc (.cells #[.bool a0.n, .slice a0.p a0.l a0.c, .bool a0.m, .slice a0.p2 a0.l2 a0.c2, .bool b0.n, .slice b0.p b0.l b0.c, .bool b0.m, .slice b0.p2 b0.l2 b0.c2, .bool c0.n, .slice c0.p c0.l c0.c, .bool c0.m, .slice c0.p2 c0.l2 c0.c2] 26)).alloc (.cells #[.bool a1.n, .slice a1.p a1.l a1.c, .bool a1.m, .slice a1.p2 a1.l2 a1.c2, .bool b1.n, .slice b1.p b1.l b1.c, .bool b1.m, .slice b1.p2 b1.l2 b1.c2, .bool c1.n, .slice c1.p c1.l c1.c, .bool c1.m, .slice c1.p2 c1.l2 c1.c2] 26))) (by rfl) (by rfl) (by kernel_rfl) (by rfl) (by go_simp) (rweighted_any (4 * L + 8) _ _ [((((1 : Int) : Rat) - S) * (((1 : Int) : Rat) - S)), (((2 : Int) : Rat) * (S * (((1 : Int) : Rat) - S))), (S * S)] [A0, B0, C0] _ (RatsV.of_blk (rs := [m1, m2, m3]) (FbW.out.ext (E10.out.trans E11.out)) rfl (in3 ((Fm1.out.ext (E5.out.trans (E6.out.trans (E7.out.trans (E8.out.trans (E9.out.trans (E10.out.trans E11.out))))))).isIn (by omega)) ((Fm2.out.ext (E8.out.trans (E9.out.trans (E10.out.trans E11.out)))).isIn (by omega)) ((Fm3.out.ext (E9.out.trans (E10.out.trans E11.out))).isIn (by omega)))) (RatsV.of_blk (rs := [a0, b0, c0]) Fnb10.out rfl (in3 ((Fa0.out.ext (E1.out.trans (E2.out.trans (E3.out.trans (E4.out.trans (E5.out.trans (E6.out.trans (E7.out.trans (E8.out.trans (E9.out.trans (E10.out.trans E11.out))))))))))).mono (by omega)) ((Fb0.out.ext (E1.out.trans (E2.out.trans (E3.out.trans (E4.out.trans (E5.out.trans (E6.out.trans (E7.out.trans (E8.out.trans (E9.out.trans (E10.out.trans E11.out))))))))))).mono (by omega)) ((Fc0.out.ext (E1.out.trans (E2.out.trans (E3.out.trans (E4.out.trans (E5.out.trans (E6.out.trans (E7.out.trans (E8.out.trans (E9.out.trans (E10.out.trans E11.out))))))))))).mono (by omega)))) rfl (by simp) (by omega) (by omega)) (by kernel_rfl) (by rfl) (by go_simp) (Own.of_ext ((E10.out.trans E11.out).alloc _)) (by kernel_rfl) ?_ ?_
      · rintro e w12 ⟨u0, rfl, hc, hx⟩
        have E12 := Lib.hid (show Ext (wW.drew.alloc (.cells #[.bool a0.n, .slice a0.p a0.l a0.c, .bool a0.m, .slice a0.p2 a0.l2 a0.c2, .bool b0.n, .slice b0.p b0.l b0.c, .bool b0.m, .slice b0.p2 b0.l2 b0.c2, .bool c0.n, .slice c0.p c0.l c0.c, .bool c0.m, .slice c0.p2 c0.l2 c0.c2] 26)) w12 from hx)
        rw [ev3] at hc
        have Fu0 := Lib.hid hc
        clear hc
        clear hx
        refine ⟨_, rfl, (Own.of_ext (E10.out.trans (E11.out.trans E12.out))), ?_⟩
        (try simp only [Act.put, List.setIfInBounds_toArray, List.set_cons_zero, List.set_cons_succ])
        refine md_one (i := 22) (listed' := #[true, true, true, true, true, true, true, true, true, true, true, true, true, true, true, true, true, true, true, true, true, true, true, false, false, false]) (v := .slice (some ⟨w12.heap.size, 0, none⟩) 3 3) (w' := (w12.alloc (.cells #[.bool a1.n, .slice a1.p a1.l a1.c, .bool a1.m, .slice a1.p2 a1.l2 a1.c2, .bool b1.n, .slice b1.p b1.l b1.c, .bool b1.m, .slice b1.p2 b1.l2 b1.c2, .bool c1.n, .slice c1.p c1.l c1.c, .bool c1.m, .slice c1.p2 c1.l2 c1.c2] 26))) (by rfl) (by kernel_rfl) (by rfl) (by go_simp) (Own.of_ext ((E10.out.trans (E11.out.trans E12.out)).alloc _)) (by kernel_rfl) ?_
        (try simp only [Act.put, List.setIfInBounds_toArray, List.set_cons_zero, List.set_cons_succ])
        have E13 := Lib.hid (show Ext w12 (w12.alloc (.cells #[.bool a1.n, .slice a1.p a1.l a1.c, .bool a1.m, .slice a1.p2 a1.l2 a1.c2, .bool b1.n, .slice b1.p b1.l b1.c, .bool b1.m, .slice b1.p2 b1.l2 b1.c2, .bool c1.n, .slice c1.p c1.l c1.c, .bool c1.m, .slice c1.p2 c1.l2 c1.c2] 26)) from (Ext.refl _).alloc _)
        have Fnb22 := Lib.hid (Blk.new w12 26 #[.bool a1.n, .slice a1.p a1.l a1.c, .bool a1.m, .slice a1.p2 a1.l2 a1.c2, .bool b1.n, .slice b1.p b1.l b1.c, .bool b1.m, .slice b1.p2 b1.l2 b1.c2, .bool c1.n, .slice c1.p c1.l c1.c, .bool c1.m, .slice c1.p2 c1.l2 c1.c2])
        refine md_call (i := 23) (listed' := #[true, true, true, true, true, true, true, true, true, true, true, true, true, true, true, true, true, true, true, true, true, true, true, true, false, false]) (by rfl) (by kernel_rfl) (by rfl) (by go_simp) (rweighted_any (4 * L + 8) _ _ [((((1 : Int) : Rat) - S) * (((1 : Int) : Rat) - S)), (((2 : Int) : Rat) * (S * (((1 : Int) : Rat) - S))), (S * S)] [A1, B1, C1] _ (RatsV.of_blk (rs := [m1, m2, m3]) (FbW.out.ext (E10.out.trans (E11.out.trans (E12.out.trans E13.out)))) rfl (in3 ((Fm1.out.ext (E5.out.trans (E6.out.trans (E7.out.trans (E8.out.trans (E9.out.trans (E10.out.trans (E11.out.trans (E12.out.trans E13.out))))))))).isIn (by omega)) ((Fm2.out.ext (E8.out.trans (E9.out.trans (E10.out.trans (E11.out.trans (E12.out.trans E13.out)))))).isIn (by omega)) ((Fm3.out.ext (E9.out.trans (E10.out.trans (E11.out.trans (E12.out.trans E13.out))))).isIn (by omega)))) (RatsV.of_blk (rs := [a1, b1, c1]) Fnb22.out rfl (in3 ((Fa1.out.ext (E1.out.trans (E2.out.trans (E3.out.trans (E4.out.trans (E5.out.trans (E6.out.trans (E7.out.trans (E8.out.trans (E9.out.trans (E10.out.trans (E11.out.trans (E12.out.trans E13.out))))))))))))).mono (by omega)) ((Fb1.out.ext (E1.out.trans (E2.out.trans (E3.out.trans (E4.out.trans (E5.out.trans (E6.out.trans (E7.out.trans (E8.out.trans (E9.out.trans (E10.out.trans (E11.out.trans (E12.out.trans E13.out))))))))))))).mono (by omega)) ((Fc1.out.ext (E1.out.trans (E2.out.trans (E3.out.trans (E4.out.trans (E5.out.trans (E6.out.trans (E7.out.trans (E8.out.trans (E9.out.trans (E10.out.trans (E11.out.trans (E12.out.trans E13.out))))))))))))).mono (by omega)))) rfl (by simp) (by omega) (by omega)) (by kernel_rfl) ?_
        rintro e w14 ⟨u1, rfl, hc, hx⟩
        have E14 := Lib.hid (show Ext (w12.alloc (.cells #[.bool a1.n, .slice a1.p a1.l a1.c, .bool a1.m, .slice a1.p2 a1.l2 a1.c2, .bool b1.n, .slice b1.p b1.l b1.c, .bool b1.m, .slice b1.p2 b1.l2 b1.c2, .bool c1.n, .slice c1.p c1.l c1.c, .bool c1.m, .slice c1.p2 c1.l2 c1.c2] 26)) w14 from hx)
        rw [ev3] at hc
        have Fu1 := Lib.hid hc
        clear hc
        clear hx
        refine ⟨_, rfl, (Own.of_ext (E10.out.trans (E11.out.trans (E12.out.trans (E13.out.trans E14.out))))), ?_⟩
        (try simp only [Act.put, List.setIfInBounds_toArray, List.set_cons_zero, List.set_cons_succ])
        refine md_val (i := 24) (v := ?vm16) (listed' := #[true, true, true, true, true, true, true, true, true, true, true, true, true, true, true, true, true, true, true, true, true, true, true, true, true, false]) (by rfl) (by kernel_rfl) (by kernel_rfl) (by kernel_rfl) (by intro _ _ _ h; exact h) (by rfl) ?hm16 (Own.of_ext (E10.out.trans (E11.out.trans (E12.out.trans (E13.out.trans E14.out))))) (by kernel_rfl) ?rm16
        case hm16 => (intro w hSw; (try dsimp only at hSw); go_simp <;> with_reducible rfl)
        (try simp only [Act.put, List.setIfInBounds_toArray, List.set_cons_zero, List.set_cons_succ])
        have o1 := Own.setCells w14 R0 #[.bool u0.n, .slice u0.p u0.l u0.c, .bool u0.m, .slice u0.p2 u0.l2 u0.c2, .bool u1.n, .slice u1.p u1.l u1.c, .bool u1.m, .slice u1.p2 u1.l2 u1.c2]
        have kb1 := (FR0.out.ext (E2.out.trans (E3.out.trans (E4.out.trans (E5.out.trans (E6.out.trans (E7.out.trans (E8.out.trans (E9.out.trans (E10.out.trans (E11.out.trans (E12.out.trans (E13.out.trans E14.out)))))))))))))
        have hs1 : Own R0 wW (w14.setCells R0 0 (#[.bool u0.n, .slice u0.p u0.l u0.c, .bool u0.m, .slice u0.p2 u0.l2 u0.c2, .bool u1.n, .slice u1.p u1.l u1.c, .bool u1.m, .slice u1.p2 u1.l2 u1.c2] : Array Value).toList) := (Own.then_ext' (E10.out.trans (E11.out.trans (E12.out.trans (E13.out.trans E14.out)))) o1)
        refine md_store (i := 25) (listed' := #[true, true, true, true, true, true, true, true, true, true, true, true, true, true, true, true, true, true, true, true, true, true, true, true, true, true]) (by rfl) (by kernel_rfl) (by rfl) _ _ _ (by rfl) R0 _ #[.bool false, .slice none 0 0, .bool false, .slice none 0 0, .bool false, .slice none 0 0, .bool false, .slice none 0 0] #[.bool u0.n, .slice u0.p u0.l u0.c, .bool u0.m, .slice u0.p2 u0.l2 u0.c2, .bool u1.n, .slice u1.p u1.l u1.c, .bool u1.m, .slice u1.p2 u1.l2 u1.c2] (by rfl) (by rfl) kb1 (by rw [show (#[.bool u0.n, .slice u0.p u0.l u0.c, .bool u0.m, .slice u0.p2 u0.l2 u0.c2, .bool u1.n, .slice u1.p u1.l u1.c, .bool u1.m, .slice u1.p2 u1.l2 u1.c2] : Array Value).size = 8 from rfl]; rfl) (by rw [show (#[.bool u0.n, .slice u0.p u0.l u0.c, .bool u0.m, .slice u0.p2 u0.l2 u0.c2, .bool u1.n, .slice u1.p u1.l u1.c, .bool u1.m, .slice u1.p2 u1.l2 u1.c2] : Array Value).size = 8 from rfl]; kernel_rfl) (all_oneCell_toArray (by simp [Value.oneCell'])) hs1 (by kernel_rfl) ?_
        (try simp only [Act.put, List.setIfInBounds_toArray, List.set_cons_zero, List.set_cons_succ])
        have kc1 := kb1.setCells #[.bool u0.n, .slice u0.p u0.l u0.c, .bool u0.m, .slice u0.p2 u0.l2 u0.c2, .bool u1.n, .slice u1.p u1.l u1.c, .bool u1.m, .slice u1.p2 u1.l2 u1.c2] (by rw [show (#[.bool u0.n, .slice u0.p u0.l u0.c, .bool u0.m, .slice u0.p2 u0.l2 u0.c2, .bool u1.n, .slice u1.p u1.l u1.c, .bool u1.m, .slice u1.p2 u1.l2 u1.c2] : Array Value).size = 8 from rfl]; rfl)
        refine wpAnyH_done (by kernel_rfl) ?_ _
        go_wp2_with fail
        refine bodyPost_ret (v := .agg #[.bool u0.n, .slice u0.p u0.l u0.c, .bool u0.m, .slice u0.p2 u0.l2 u0.c2, .bool u1.n, .slice u1.p u1.l u1.c, .bool u1.m, .slice u1.p2 u1.l2 u1.c2]) ?_ rfl ⟨_, rfl, ⟨u0, u1, rfl, ((Fu0.out.ext (E13.out.trans E14.out)).own kb1 (noU_of _ (by simp)) o1), (Fu1.out.own kb1 (noU_of _ (by simp)) o1)⟩, (o1.ext (E1.out.trans (E2.out.trans (E3.out.trans (E4.out.trans (E5.out.trans (E6.out.trans (E7.out.trans (E8.out.trans (E9.out.trans (E10.out.trans (E11.out.trans (E12.out.trans (E13.out.trans E14.out))))))))))))) gR0)⟩
        exact results_cell1 rfl rfl (kc1.loadVar rfl rfl (by rfl))
      · (try simp only [Act.put, List.setIfInBounds_toArray, List.set_cons_zero, List.set_cons_succ])
        have E12 := Lib.hid (show Ext (wW.drew.alloc (.cells #[.bool a0.n, .slice a0.p a0.l a0.c, .bool a0.m, .slice a0.p2 a0.l2 a0.c2, .bool b0.n, .slice b0.p b0.l b0.c, .bool b0.m, .slice b0.p2 b0.l2 b0.c2, .bool c0.n, .slice c0.p c0.l c0.c, .bool c0.m, .slice c0.p2 c0.l2 c0.c2] 26)) ((wW.drew.alloc (.cells #[.bool a0.n, .slice a0.p a0.l a0.c, .bool a0.m, .slice a0.p2 a0.l2 a0.c2, .bool b0.n, .slice b0.p b0.l b0.c, .bool b0.m, .slice b0.p2 b0.l2 b0.c2, .bool c0.n, .slice c0.p c0.l c0.c, .bool c0.m, .slice c0.p2 c0.l2 c0.c2] 26)).alloc (.cells #[.bool a1.n, .slice a1.p a1.l a1.c, .bool a1.m, .slice a1.p2 a1.l2 a1.c2, .bool b1.n, .slice b1.p b1.l b1.c, .bool b1.m, .slice b1.p2 b1.l2 b1.c2, .bool c1.n, .slice c1.p c1.l c1.c, .bool c1.m, .slice c1.p2 c1.l2 c1.c2] 26)) from (Ext.refl _).alloc _)
        have Fnb22 := Lib.hid (Blk.new (wW.drew.alloc (.cells #[.bool a0.n, .slice a0.p a0.l a0.c, .bool a0.m, .slice a0.p2 a0.l2 a0.c2, .bool b0.n, .slice b0.p b0.l b0.c, .bool b0.m, .slice b0.p2 b0.l2 b0.c2, .bool c0.n, .slice c0.p c0.l c0.c, .bool c0.m, .slice c0.p2 c0.l2 c0.c2] 26)) 26 #[.bool a1.n, .slice a1.p a1.l a1.c, .bool a1.m, .slice a1.p2 a1.l2 a1.c2, .bool b1.n, .slice b1.p b1.l b1.c, .bool b1.m, .slice b1.p2 b1.l2 b1.c2, .bool c1.n, .slice c1.p c1.l c1.c, .bool c1.m, .slice c1.p2 c1.l2 c1.c2])
        refine md_call (i := 11) (listed' := #[true, true, true, true, true, true, true, true, true, true, true, true, true, true, true, true, true, true, true, true, true, true, true, false, false, false]) (by rfl) (by kernel_rfl) (by rfl) (by go_simp) (rweighted_any (4 * L + 8) _ _ [((((1 : Int) : Rat) - S) * (((1 : Int) : Rat) - S)), (((2 : Int) : Rat) * (S * (((1 : Int) : Rat) - S))), (S * S)] [A0, B0, C0] _ (RatsV.of_blk (rs := [m1, m2, m3]) (FbW.out.ext (E10.out.trans (E11.out.trans E12.out))) rfl (in3 ((Fm1.out.ext (E5.out.trans (E6.out.trans (E7.out.trans (E8.out.trans (E9.out.trans (E10.out.trans (E11.out.trans E12.out)))))))).isIn (by omega)) ((Fm2.out.ext (E8.out.trans (E9.out.trans (E10.out.trans (E11.out.trans E12.out))))).isIn (by omega)) ((Fm3.out.ext (E9.out.trans (E10.out.trans (E11.out.trans E12.out)))).isIn (by omega)))) (RatsV.of_blk (rs := [a0, b0, c0]) (Fnb10.out.ext E12.out) rfl (in3 ((Fa0.out.ext (E1.out.trans (E2.out.trans (E3.out.trans (E4.out.trans (E5.out.trans (E6.out.trans (E7.out.trans (E8.out.trans (E9.out.trans (E10.out.trans (E11.out.trans E12.out)))))))))))).mono (by omega)) ((Fb0.out.ext (E1.out.trans (E2.out.trans (E3.out.trans (E4.out.trans (E5.out.trans (E6.out.trans (E7.out.trans (E8.out.trans (E9.out.trans (E10.out.trans (E11.out.trans E12.out)))))))))))).mono (by omega)) ((Fc0.out.ext (E1.out.trans (E2.out.trans (E3.out.trans (E4.out.trans (E5.out.trans (E6.out.trans (E7.out.trans (E8.out.trans (E9.out.trans (E10.out.trans (E11.out.trans E12.out)))))))))))).mono (by omega)))) rfl (by simp) (by omega) (by omega)) (by kernel_rfl) ?_
        rintro e w13 ⟨u0, rfl, hc, hx⟩
        have E13 := Lib.hid (show Ext ((wW.drew.alloc (.cells #[.bool a0.n, .slice a0.p a0.l a0.c, .bool a0.m, .slice a0.p2 a0.l2 a0.c2, .bool b0.n, .slice b0.p b0.l b0.c, .bool b0.m, .slice b0.p2 b0.l2 b0.c2, .bool c0.n, .slice c0.p c0.l c0.c, .bool c0.m, .slice c0.p2 c0.l2 c0.c2] 26)).alloc (.cells #[.bool a1.n, .slice a1.p a1.l a1.c, .bool a1.m, .slice a1.p2 a1.l2 a1.c2, .bool b1.n, .slice b1.p b1.l b1.c, .bool b1.m, .slice b1.p2 b1.l2 b1.c2, .bool c1.n, .slice c1.p c1.l c1.c, .bool c1.m, .slice c1.p2 c1.l2 c1.c2] 26)) w13 from hx)
        rw [ev3] at hc
        have Fu0 := Lib.hid hc
        clear hc
        clear hx
        refine ⟨_, rfl, (Own.of_ext (E10.out.trans (E11.out.trans (E12.out.trans E13.out)))), ?_⟩
        (try simp only [Act.put, List.setIfInBounds_toArray, List.set_cons_zero, List.set_cons_succ])
        refine md_call (i := 23) (listed' := #[true, true, true, true, true, true, true, true, true, true, true, true, true, true, true, true, true, true, true, true, true, true, true, true, false, false]) (by rfl) (by kernel_rfl) (by rfl) (by go_simp) (rweighted_any (4 * L + 8) _ _ [((((1 : Int) : Rat) - S) * (((1 : Int) : Rat) - S)), (((2 : Int) : Rat) * (S * (((1 : Int) : Rat) - S))), (S * S)] [A1, B1, C1] _ (RatsV.of_blk (rs := [m1, m2, m3]) (FbW.out.ext (E10.out.trans (E11.out.trans (E12.out.trans E13.out)))) rfl (in3 ((Fm1.out.ext (E5.out.trans (E6.out.trans (E7.out.trans (E8.out.trans (E9.out.trans (E10.out.trans (E11.out.trans (E12.out.trans E13.out))))))))).isIn (by omega)) ((Fm2.out.ext (E8.out.trans (E9.out.trans (E10.out.trans (E11.out.trans (E12.out.trans E13.out)))))).isIn (by omega)) ((Fm3.out.ext (E9.out.trans (E10.out.trans (E11.out.trans (E12.out.trans E13.out))))).isIn (by omega)))) (RatsV.of_blk (rs := [a1, b1, c1]) (Fnb22.out.ext E13.out) rfl (in3 ((Fa1.out.ext (E1.out.trans (E2.out.trans (E3.out.trans (E4.out.trans (E5.out.trans (E6.out.trans (E7.out.trans (E8.out.trans (E9.out.trans (E10.out.trans (E11.out.trans (E12.out.trans E13.out))))))))))))).mono (by omega)) ((Fb1.out.ext (E1.out.trans (E2.out.trans (E3.out.trans (E4.out.trans (E5.out.trans (E6.out.trans (E7.out.trans (E8.out.trans (E9.out.trans (E10.out.trans (E11.out.trans (E12.out.trans E13.out))))))))))))).mono (by omega)) ((Fc1.out.ext (E1.out.trans (E2.out.trans (E3.out.trans (E4.out.trans (E5.out.trans (E6.out.trans (E7.out.trans (E8.out.trans (E9.out.trans (E10.out.trans (E11.out.trans (E12.out.trans E13.out))))))))))))).mono (by omega)))) rfl (by simp) (by omega) (by omega)) (by kernel_rfl) ?_
        rintro e w14 ⟨u1, rfl, hc, hx⟩
        have E14 := Lib.hid (show Ext w13 w14 from hx)
        rw [ev3] at hc
        have Fu1 := Lib.hid hc
        clear hc
        clear hx
        refine ⟨_, rfl, (Own.of_ext (E10.out.trans (E11.out.trans (E12.out.trans (E13.out.trans E14.out))))), ?_⟩
        (try simp only [Act.put, List.setIfInBounds_toArray, List.set_cons_zero, List.set_cons_succ])
        refine md_val (i := 24) (v := ?vm17) (listed' := #[true, true, true, true, true, true, true, true, true, true, true, true, true, true, true, true, true, true, true, true, true, true, true, true, true, false]) (by rfl) (by kernel_rfl) (by kernel_rfl) (by kernel_rfl) (by intro _ _ _ h; exact h) (by rfl) ?hm17 (Own.of_ext (E10.out.trans (E11.out.trans (E12.out.trans (E13.out.trans E14.out))))) (by kernel_rfl) ?rm17
        case hm17 => (intro w hSw; (try dsimp only at hSw); go_simp <;> with_reducible rfl)
        (try simp only [Act.put, List.setIfInBounds_toArray, List.set_cons_zero, List.set_cons_succ])
        have o1 := Own.setCells w14 R0 #[.bool u0.n, .slice u0.p u0.l u0.c, .bool u0.m, .slice u0.p2 u0.l2 u0.c2, .bool u1.n, .slice u1.p u1.l u1.c, .bool u1.m, .slice u1.p2 u1.l2 u1.c2]
        have kb1 := (FR0.out.ext (E2.out.trans (E3.out.trans (E4.out.trans (E5.out.trans (E6.out.trans (E7.out.trans (E8.out.trans (E9.out.trans (E10.out.trans (E11.out.trans (E12.out.trans (E13.out.trans E14.out)))))))))))))
        have hs1 : Own R0 wW (w14.setCells R0 0 (#[.bool u0.n, .slice u0.p u0.l u0.c, .bool u0.m, .slice u0.p2 u0.l2 u0.c2, .bool u1.n, .slice u1.p u1.l u1.c, .bool u1.m, .slice u1.p2 u1.l2 u1.c2] : Array Value).toList) := (Own.then_ext' (E10.out.trans (E11.out.trans (E12.out.trans (E13.out.trans E14.out)))) o1)
        refine md_store (i := 25) (listed' := #[true, true, true, true, true, true, true, true, true, true, true, true, true, true, true, true, true, true, true, true, true, true, true, true, true, true]) (by rfl) (by kernel_rfl) (by rfl) _ _ _ (by rfl) R0 _ #[.bool false, .slice none 0 0, .bool false, .slice none 0 0, .bool false, .slice none 0 0, .bool false, .slice none 0 0] #[.bool u0.n, .slice u0.p u0.l u0.c, .bool u0.m, .slice u0.p2 u0.l2 u0.c2, .bool u1.n, .slice u1.p u1.l u1.c, .bool u1.m, .slice u1.p2 u1.l2 u1.c2] (by rfl) (by rfl) kb1 (by rw [show (#[.bool u0.n, .slice u0.p u0.l u0.c, .bool u0.m, .slice u0.p2 u0.l2 u0.c2, .bool u1.n, .slice u1.p u1.l u1.c, .bool u1.m, .slice u1.p2 u1.l2 u1.c2] : Array Value).size = 8 from rfl]; rfl) (by rw [show (#[.bool u0.n, .slice u0.p u0.l u0.c, .bool u0.m, .slice u0.p2 u0.l2 u0.c2, .bool u1.n, .slice u1.p u1.l u1.c, .bool u1.m, .slice u1.p2 u1.l2 u1.c2] : Array Value).size = 8 from rfl]; kernel_rfl) (all_oneCell_toArray (by simp [Value.oneCell'])) hs1 (by kernel_rfl) ?_
        (try simp only [Act.put, List.setIfInBounds_toArray, List.set_cons_zero, List.set_cons_succ])
        have kc1 := kb1.setCells #[.bool u0.n, .slice u0.p u0.l u0.c, .bool u0.m, .slice u0.p2 u0.l2 u0.c2, .bool u1.n, .slice u1.p u1.l u1.c, .bool u1.m, .slice u1.p2 u1.l2 u1.c2] (by rw [show (#[.bool u0.n, .slice u0.p u0.l u0.c, .bool u0.m, .slice u0.p2 u0.l2 u0.c2, .bool u1.n, .slice u1.p u1.l u1.c, .bool u1.m, .slice u1.p2 u1.l2 u1.c2] : Array Value).size = 8 from rfl]; rfl)
        refine wpAnyH_done (by kernel_rfl) ?_ _
        go_wp2_with fail
        refine bodyPost_ret (v := .agg #[.bool u0.n, .slice u0.p u0.l u0.c, .bool u0.m, .slice u0.p2 u0.l2 u0.c2, .bool u1.n, .slice u1.p u1.l u1.c, .bool u1.m, .slice u1.p2 u1.l2 u1.c2]) ?_ rfl ⟨_, rfl, ⟨u0, u1, rfl, ((Fu0.out.ext E14.out).own kb1 (noU_of _ (by simp)) o1), (Fu1.out.own kb1 (noU_of _ (by simp)) o1)⟩, (o1.ext (E1.out.trans (E2.out.trans (E3.out.trans (E4.out.trans (E5.out.trans (E6.out.trans (E7.out.trans (E8.out.trans (E9.out.trans (E10.out.trans (E11.out.trans (E12.out.trans (E13.out.trans E14.out))))))))))))) gR0)⟩
        exact results_cell1 rfl rfl (kc1.loadVar rfl rfl (by rfl))
    · (try simp only [Act.put, List.setIfInBounds_toArray, List.set_cons_zero, List.set_cons_succ])
      have E11 := Lib.hid (show Ext wW.drew (wW.drew.alloc (.cells #[.bool a1.n, .slice a1.p a1.l a1.c, .bool a1.m, .slice a1.p2 a1.l2 a1.c2, .bool b1.n, .slice b1.p b1.l b1.c, .bool b1.m, .slice b1.p2 b1.l2 b1.c2, .bool c1.n, .slice c1.p c1.l c1.c, .bool c1.m, .slice c1.p2 c1.l2 c1.c2] 26)) from (Ext.refl _).alloc _)
      have Fnb22 := Lib.hid (Blk.new wW.drew 26 #[.bool a1.n, .slice a1.p a1.l a1.c, .bool a1.m, .slice a1.p2 a1.l2 a1.c2, .bool b1.n, .slice b1.p b1.l b1.c, .bool b1.m, .slice b1.p2 b1.l2 b1.c2, .bool c1.n, .slice c1.p c1.l c1.c, .bool c1.m, .slice c1.p2 c1.l2 c1.c2])
      refine md_one (i := 10) (listed' := #[true, true, true, true, true, true, true, true, true, true, true, false, true, true, true, true, true, true, true, true, true, true, true, false, false, false]) (v := .slice (some ⟨(wW.drew.alloc (.cells #[.bool a1.n, .slice a1.p a1.l a1.c, .bool a1.m, .slice a1.p2 a1.l2 a1.c2, .bool b1.n, .slice b1.p b1.l b1.c, .bool b1.m, .slice b1.p2 b1.l2 b1.c2, .bool c1.n, .slice c1.p c1.l c1.c, .bool c1.m, .slice c1.p2 c1.l2 c1.c2] 26)).heap.size, 0, none⟩) 3 3) (w' := ((wW.drew.alloc (.cells #[.bool a1.n, .slice a1.p a1.l a1.c, .bool a1.m, .slice a1.p2 a1.l2 a1.c2, .bool b1.n, .slice b1.p b1.l b1.c, .bool b1.m, .slice b1.p2 b1.l2 b1.c2, .bool c1.n, .slice c1.p c1.l c1.c, .bool c1.m, .slice c1.p2 c1.l2 c1.c2] 26)).alloc (.cells #[.bool a0.n, .slice a0.p a0.l a0.c, .bool a0.m, .slice a0.p2 a0.l2 a0.c2, .bool b0.n, .slice b0.p b0.l b0.c, .bool b0.m, .slice b0.p2 b0.l2 b0.c2, .bool c0.n, .slice c0.p c0.l c0.c, .bool c0.m, .slice c0.p2 c0.l2 c0.c2] 26))) (by rfl) (by kernel_rfl) (by rfl) (by go_simp) (Own.of_ext ((E10.out.trans E11.out).alloc _)) (by kernel_rfl) ?_
      (try simp only [Act.put, List.setIfInBounds_toArray, List.set_cons_zero, List.set_cons_succ])
      have E12 := Lib.hid (show Ext (wW.drew.alloc (.cells #[.bool a1.n, .slice a1.p a1.l a1.c, .bool a1.m, .slice a1.p2 a1.l2 a1.c2, .bool b1.n, .slice b1.p b1.l b1.c, .bool b1.m, .slice b1.p2 b1.l2 b1.c2, .bool c1.n, .slice c1.p c1.l c1.c, .bool c1.m, .slice c1.p2 c1.l2 c1.c2] 26)) ((wW.drew.alloc (.cells #[.bool a1.n, .slice a1.p a1.l a1.c, .bool a1.m, .slice a1.p2 a1.l2 a1.c2, .bool b1.n, .slice b1.p b1.l b1.c, .bool b1.m, .slice b1.p2 b1.l2 b1.c2, .bool c1.n, .slice c1.p c1.l c1.c, .bool c1.m, .slice c1.p2 c1.l2 c1.c2] 26)).alloc (.cells #[.bool a0.n, .slice a0.p a0.l a0.c, .bool a0.m, .slice a0.p2 a0.l2 a0.c2, .bool b0.n, .slice b0.p b0.l b0.c, .bool b0.m, .slice b0.p2 b0.l2 b0.c2, .bool c0.n, .slice c0.p c0.l c0.c, .bool c0.m, .slice c0.p2 c0.l2 c0.c2] 26)) from (Ext.refl _).alloc _)
      have Fnb10 := Lib.hid (Blk.new (wW.drew.alloc (.cells #[.bool a1.n, .slice a1.p a1.l a1.c, .bool a1.m, .slice a1.p2 a1.l2 a1.c2, .bool b1.n, .slice b1.p b1.l b1.c, .bool b1.m, .slice b1.p2 b1.l2 b1.c2, .bool c1.n, .slice c1.p c1.l c1.c, .bool c1.m, .slice c1.p2 c1.l2 c1.c2] 26)) 26 #[.bool a0.n, .slice a0.p a0.l a0.c, .bool a0.m, .slice a0.p2 a0.l2 a0.c2, .bool b0.n, .slice b0.p b0.l b0.c, .bool b0.m, .slice b0.p2 b0.l2 b0.c2, .bool c0.n, .slice c0.p c0.l c0.c, .bool c0.m, .slice c0.p2 c0.l2 c0.c2])
      refine md_call (i := 11) (listed' := #[true, true, true, true, true, true, true, true, true, true, true, true, true, true, true, true, true, true, true, true, true, true, true, false, false, false]) (by rfl) (by kernel_rfl) (by rfl) (by go_simp) (rweighted_any (4 * L + 8) _ _ [((((1 : Int) : Rat) - S) * (((1 : Int) : Rat) - S)), (((2 : Int) : Rat) * (S * (((1 : Int) : Rat) - S))), (S * S)] [A0, B0, C0] _ (RatsV.of_blk (rs := [m1, m2, m3]) (FbW.out.ext (E10.out.trans (E11.out.trans E12.out))) rfl (in3 ((Fm1.out.ext (E5.out.trans (E6.out.trans (E7.out.trans (E8.out.trans (E9.out.trans (E10.out.trans (E11.out.trans E12.out)))))))).isIn (by omega)) ((Fm2.out.ext (E8.out.trans (E9.out.trans (E10.out.trans (E11.out.trans E12.out))))).isIn (by omega)) ((Fm3.out.ext (E9.out.trans (E10.out.trans (E11.out.trans E12.out)))).isIn (by omega)))) (RatsV.of_blk (rs := [a0, b0, c0]) Fnb10.out rfl (in3 ((Fa0.out.ext (E1.out.trans (E2.out.trans (E3.out.trans (E4.out.trans (E5.out.trans (E6.out.trans (E7.out.trans (E8.out.trans (E9.out.trans (E10.out.trans (E11.out.trans E12.out)))))))))))).mono (by omega)) ((Fb0.out.ext (E1.out.trans (E2.out.trans (E3.out.trans (E4.out.trans (E5.out.trans (E6.out.trans (E7.out.trans (E8.out.trans (E9.out.trans (E10.out.trans (E11.out.trans E12.out)))))))))))).mono (by omega)) ((Fc0.out.ext (E1.out.trans (E2.out.trans (E3.out.trans (E4.out.trans (E5.out.trans (E6.out.trans (E7.out.trans (E8.out.trans (E9.out.trans (E10.out.trans (E11.out.trans E12.out)))))))))))).mono (by omega)))) rfl (by simp) (by omega) (by omega)) (by kernel_rfl) ?_
      rintro e w13 ⟨u0, rfl, hc, hx⟩
      have E13 := Lib.hid (show Ext ((wW.drew.alloc (.cells #[.bool a1.n, .slice a1.p a1.l a1.c, .bool a1.m, .slice a1.p2 a1.l2 a1.c2, .bool b1.n, .slice b1.p b1.l b1.c, .bool b1.m, .slice b1.p2 b1.l2 b1.c2, .bool c1.n, .slice c1.p c1.l c1.c, .bool c1.m, .slice c1.p2 c1.l2 c1.c2] 26)).alloc (.cells #[.bool a0.n, .slice a0.p a0.l a0.c, .bool a0.m, .slice a0.p2 a0.l2 a0.c2, .bool b0.n, .slice b0.p b0.l b0.c, .bool b0.m, .slice b0.p2 b0.l2 b0.c2, .bool c0.n, .slice c0.p c0.l c0.c, .bool c0.m, .slice c0.p2 c0.l2 c0.c2] 26)) w13 from hx)
      rw [ev3] at hc
      have Fu0 := Lib.hid hc
      clear hc
      clear hx
      refine ⟨_, rfl, (Own.of_ext (E10.out.trans (E11.out.trans (E12.out.trans E13.out)))), ?_⟩
      (try simp only [Act.put, List.setIfInBounds_toArray, List.set_cons_zero, List.set_cons_succ])
      refine md_call (i := 23) (listed' := #[true, true, true, true, true, true, true, true, true, true, true, true, true, true, true, true, true, true, true, true, true, true, true, true, false, false]) (by rfl) (by kernel_rfl) (by rfl) (by go_simp) (rweighted_any (4 * L + 8) _ _ [((((1 : Int) : Rat) - S) * (((1 : Int) : Rat) - S)), (((2 : Int) : Rat) * (S * (((1 : Int) : Rat) - S))), (S * S)] [A1, B1, C1] _ (RatsV.of_blk (rs := [m1, m2, m3]) (FbW.out.ext (E10.out.trans (E11.out.trans (E12.out.trans E13.out)))) rfl (in3 ((Fm1.out.ext (E5.out.trans (E6.out.trans (E7.out.trans (E8.out.trans (E9.out.trans (E10.out.trans (E11.out.trans (E12.out.trans E13.out))))))))).isIn (by omega)) ((Fm2.out.ext (E8.out.trans (E9.out.trans (E10.out.trans (E11.out.trans (E12.out.trans E13.out)))))).isIn (by omega)) ((Fm3.out.ext (E9.out.trans (E10.out.trans (E11.out.trans (E12.out.trans E13.out))))).isIn (by omega)))) (RatsV.of_blk (rs := [a1, b1, c1]) (Fnb22.out.ext (E12.out.trans E13.out)) rfl (in3 ((Fa1.out.ext (E1.out.trans (E2.out.trans (E3.out.trans (E4.out.trans (E5.out.trans (E6.out.trans (E7.out.trans (E8.out.trans (E9.out.trans (E10.out.trans (E11.out.trans (E12.out.trans E13.out))))))))))))).mono (by omega)) ((Fb1.out.ext (E1.out.trans (E2.out.trans (E3.out.trans (E4.out.trans (E5.out.trans (E6.out.trans (E7.out.trans (E8.out.trans (E9.out.trans (E10.out.trans (E11.out.trans (E12.out.trans E13.out))))))))))))).mono (by omega)) ((Fc1.out.ext (E1.out.trans (E2.out.trans (E3.out.trans (E4.out.trans (E5.out.trans (E6.out.trans (E7.out.trans (E8.out.trans (E9.out.trans (E10.out.trans (E11.out.trans (E12.out.trans E13.out))))))))))))).mono (by omega)))) rfl (by simp) (by omega) (by omega)) (by kernel_rfl) ?_
      rintro e w14 ⟨u1, rfl, hc, hx⟩
      have E14 := Lib.hid (show Ext w13 w14 from hx)
      rw [ev3] at hc
      have Fu1 := Lib.hid hc
      clear hc
      clear hx
      refine ⟨_, rfl, (Own.of_ext (E10.out.trans (E11.out.trans (E12.out.trans (E13.out.trans E14.out))))), ?_⟩
      (try simp only [Act.put, List.setIfInBounds_toArray, List.set_cons_zero, List.set_cons_succ])
      refine md_val (i := 24) (v := ?vm18) (listed' := #[true, true, true, true, true, true, true, true, true, true, true, true, true, true, true, true, true, true, true, true, true, true, true, true, true, false]) (by rfl) (by kernel_rfl) (by kernel_rfl) (by kernel_rfl) (by intro _ _ _ h; exact h) (by rfl) ?hm18 (Own.of_ext (E10.out.trans (E11.out.trans (E12.out.trans (E13.out.trans E14.out))))) (by kernel_rfl) ?rm18
      case hm18 => (intro w hSw; (try dsimp only at hSw); go_simp <;> with_reducible rfl)
      (try simp only [Act.put, List.setIfInBounds_toArray, List.set_cons_zero, List.set_cons_succ])
      have o1 := Own.setCells w14 R0 #[.bool u0.n, .slice u0.p u0.l u0.c, .bool u0.m, .slice u0.p2 u0.l2 u0.c2, .bool u1.n, .slice u1.p u1.l u1.c, .bool u1.m, .slice u1.p2 u1.l2 u1.c2]
      have kb1 := (FR0.out.ext (E2.out.trans (E3.out.trans (E4.out.trans (E5.out.trans (E6.out.trans (E7.out.trans (E8.out.trans (E9.out.trans (E10.out.trans (E11.out.trans (E12.out.trans (E13.out.trans E14.out)))))))))))))
      have hs1 : Own R0 wW (w14.setCells R0 0 (#[.bool u0.n, .slice u0.p u0.l u0.c, .bool u0.m, .slice u0.p2 u0.l2 u0.c2, .bool u1.n, .slice u1.p u1.l u1.c, .bool u1.m, .slice u1.p2 u1.l2 u1.c2] : Array Value).toList) := (Own.then_ext' (E10.out.trans (E11.out.trans (E12.out.trans (E13.out.trans E14.out)))) o1)
      refine md_store (i := 25) (listed' := #[true, true, true, true, true, true, true, true, true, true, true, true, true, true, true, true, true, true, true, true, true, true, true, true, true, true]) (by rfl) (by kernel_rfl) (by rfl) _ _ _ (by rfl) R0 _ #[.bool false, .slice none 0 0, .bool false, .slice none 0 0, .bool false, .slice none 0 0, .bool false, .slice none 0 0] #[.bool u0.n, .slice u0.p u0.l u0.c, .bool u0.m, .slice u0.p2 u0.l2 u0.c2, .bool u1.n, .slice u1.p u1.l u1.c, .bool u1.m, .slice u1.p2 u1.l2 u1.c2] (by rfl) (by rfl) kb1 (by rw [show (#[.bool u0.n, .slice u0.p u0.l u0.c, .bool u0.m, .slice u0.p2 u0.l2 u0.c2, .bool u1.n, .slice u1.p u1.l u1.c, .bool u1.m, .slice u1.p2 u1.l2 u1.c2] : Array Value).size = 8 from rfl]; rfl) (by rw [show (#[.bool u0.n, .slice u0.p u0.l u0.c, .bool u0.m, .slice u0.p2 u0.l2 u0.c2, .bool u1.n, .slice u1.p u1.l u1.c, .bool u1.m, .slice u1.p2 u1.l2 u1.c2] : Array Value).size = 8 from rfl]; kernel_rfl) (all_oneCell_toArray (by simp [Value.oneCell'])) hs1 (by kernel_rfl) ?_
      (try simp only [Act.put, List.setIfInBounds_toArray, List.set_cons_zero, List.set_cons_succ])
      have kc1 := kb1.setCells #[.bool u0.n, .slice u0.p u0.l u0.c, .bool u0.m, .slice u0.p2 u0.l2 u0.c2, .bool u1.n, .slice u1.p u1.l u1.c, .bool u1.m, .slice u1.p2 u1.l2 u1.c2] (by rw [show (#[.bool u0.n, .slice u0.p u0.l u0.c, .bool u0.m, .slice u0.p2 u0.l2 u0.c2, .bool u1.n, .slice u1.p u1.l u1.c, .bool u1.m, .slice u1.p2 u1.l2 u1.c2] : Array Value).size = 8 from rfl]; rfl)
      refine wpAnyH_done (by kernel_rfl) ?_ _
      go_wp2_with fail
      refine bodyPost_ret (v := .agg #[.bool u0.n, .slice u0.p u0.l u0.c, .bool u0.m, .slice u0.p2 u0.l2 u0.c2, .bool u1.n, .slice u1.p u1.l u1.c, .bool u1.m, .slice u1.p2 u1.l2 u1.c2]) ?_ rfl ⟨_, rfl, ⟨u0, u1, rfl, ((Fu0.out.ext E14.out).own kb1 (noU_of _ (by simp)) o1), (Fu1.out.own kb1 (noU_of _ (by simp)) o1)⟩, (o1.ext (E1.out.trans (E2.out.trans (E3.out.trans (E4.out.trans (E5.out.trans (E6.out.trans (E7.out.trans (E8.out.trans (E9.out.trans (E10.out.trans (E11.out.trans (E12.out.trans (E13.out.trans E14.out))))))))))))) gR0)⟩
      exact results_cell1 rfl rfl (kc1.loadVar rfl rfl (by rfl))

set_option maxRecDepth 20000 in
set_option maxHeartbeats 8000000 in
theorem revalCubic_any (L : Nat) (cp ct : Array Value) (A0 A1 B0 B1 C0 C1 D0 D1 S : Rat) (w : World) (hP : C4In L w cp A0 A1 B0 B1 C0 C1 D0 D1) (hS : NIn L w ct S) (h1 : 1 ≤ L) (hL : L ≤ 20) :
    Calls Tryz.prog 17 #[.agg cp, .agg ct] w fun e w' => ∃ c, e = .returned (.agg c) ∧ PtIs w' c (cubicV A0 B0 C0 D0 S) (cubicV A1 B1 C1 D1 S) ∧ Ext w w' := by
  have rS := hS.rl h1
  obtain ⟨a0, a1, b0, b1, c0, c1, d0, d1, rfl, ha0, ha1, hb0, hb1, hc0, hc1, hd0, hd1⟩ := hP
  obtain ⟨t, rfl, ht⟩ := hS
  have Fa0 := Lib.hid ha0
  have Fa1 := Lib.hid ha1
  have Fb0 := Lib.hid hb0
  have Fb1 := Lib.hid hb1
  have Fc0 := Lib.hid hc0
  have Fc1 := Lib.hid hc1
  have Fd0 := Lib.hid hd0
  have Fd1 := Lib.hid hd1
  have Ft := Lib.hid ht
  clear ha0 ha1 hb0 hb1 hc0 hc1 hd0 hd1 ht
  have rl1 := rlk 1 (by decide)
  have q1 := Nm.rl_sub ((1 : Int) : Rat) S
  go_enter Tryz.func17, Tryz.ntmps17
  go_upto_region 1 with fail
  have hbx0 : Blk (((w.alloc (.cells #[.bool a0.n, .slice a0.p a0.l a0.c, .bool a0.m, .slice a0.p2 a0.l2 a0.c2, .bool a1.n, .slice a1.p a1.l a1.c, .bool a1.m, .slice a1.p2 a1.l2 a1.c2, .bool b0.n, .slice b0.p b0.l b0.c, .bool b0.m, .slice b0.p2 b0.l2 b0.c2, .bool b1.n, .slice b1.p b1.l b1.c, .bool b1.m, .slice b1.p2 b1.l2 b1.c2, .bool c0.n, .slice c0.p c0.l c0.c, .bool c0.m, .slice c0.p2 c0.l2 c0.c2, .bool c1.n, .slice c1.p c1.l c1.c, .bool c1.m, .slice c1.p2 c1.l2 c1.c2, .bool d0.n, .slice d0.p d0.l d0.c, .bool d0.m, .slice d0.p2 d0.l2 d0.c2, .bool d1.n, .slice d1.p d1.l d1.c, .bool d1.m, .slice d1.p2 d1.l2 d1.c2] 28)).alloc (.cells #[.bool t.n, .slice t.p t.l t.c, .bool t.m, .slice t.p2 t.l2 t.c2] 26)).alloc (.cells #[.bool false, .slice none 0 0, .bool false, .slice none 0 0, .bool false, .slice none 0 0, .bool false, .slice none 0 0] 27)) (w.heap.size) 28 #[.bool a0.n, .slice a0.p a0.l a0.c, .bool a0.m, .slice a0.p2 a0.l2 a0.c2, .bool a1.n, .slice a1.p a1.l a1.c, .bool a1.m, .slice a1.p2 a1.l2 a1.c2, .bool b0.n, .slice b0.p b0.l b0.c, .bool b0.m, .slice b0.p2 b0.l2 b0.c2, .bool b1.n, .slice b1.p b1.l b1.c, .bool b1.m, .slice b1.p2 b1.l2 b1.c2, .bool c0.n, .slice c0.p c0.l c0.c, .bool c0.m, .slice c0.p2 c0.l2 c0.c2, .bool c1.n, .slice c1.p c1.l c1.c, .bool c1.m, .slice c1.p2 c1.l2 c1.c2, .bool d0.n, .slice d0.p d0.l d0.c, .bool d0.m, .slice d0.p2 d0.l2 d0.c2, .bool d1.n, .slice d1.p d1.l d1.c, .bool d1.m, .slice d1.p2 d1.l2 d1.c2] := Blk.ext (Blk.new_at w _ (by simp) _ _) (((Ext.refl _).alloc _).alloc _)
  have hbx1 : Blk (((w.alloc (.cells #[.bool a0.n, .slice a0.p a0.l a0.c, .bool a0.m, .slice a0.p2 a0.l2 a0.c2, .bool a1.n, .slice a1.p a1.l a1.c, .bool a1.m, .slice a1.p2 a1.l2 a1.c2, .bool b0.n, .slice b0.p b0.l b0.c, .bool b0.m, .slice b0.p2 b0.l2 b0.c2, .bool b1.n, .slice b1.p b1.l b1.c, .bool b1.m, .slice b1.p2 b1.l2 b1.c2, .bool c0.n, .slice c0.p c0.l c0.c, .bool c0.m, .slice c0.p2 c0.l2 c0.c2, .bool c1.n, .slice c1.p c1.l c1.c, .bool c1.m, .slice c1.p2 c1.l2 c1.c2, .bool d0.n, .slice d0.p d0.l d0.c, .bool d0.m, .slice d0.p2 d0.l2 d0.c2, .bool d1.n, .slice d1.p d1.l d1.c, .bool d1.m, .slice d1.p2 d1.l2 d1.c2] 28)).alloc (.cells #[.bool t.n, .slice t.p t.l t.c, .bool t.m, .slice t.p2 t.l2 t.c2] 26)).alloc (.cells #[.bool false, .slice none 0 0, .bool false, .slice none 0 0, .bool false, .slice none 0 0, .bool false, .slice none 0 0] 27)) (w.heap.size + 1) 26 #[.bool t.n, .slice t.p t.l t.c, .bool t.m, .slice t.p2 t.l2 t.c2] := Blk.ext (Blk.new_at (w.alloc (.cells #[.bool a0.n, .slice a0.p a0.l a0.c, .bool a0.m, .slice a0.p2 a0.l2 a0.c2, .bool a1.n, .slice a1.p a1.l a1.c, .bool a1.m, .slice a1.p2 a1.l2 a1.c2, .bool b0.n, .slice b0.p b0.l b0.c, .bool b0.m, .slice b0.p2 b0.l2 b0.c2, .bool b1.n, .slice b1.p b1.l b1.c, .bool b1.m, .slice b1.p2 b1.l2 b1.c2, .bool c0.n, .slice c0.p c0.l c0.c, .bool c0.m, .slice c0.p2 c0.l2 c0.c2, .bool c1.n, .slice c1.p c1.l c1.c, .bool c1.m, .slice c1.p2 c1.l2 c1.c2, .bool d0.n, .slice d0.p d0.l d0.c, .bool d0.m, .slice d0.p2 d0.l2 d0.c2, .bool d1.n, .slice d1.p d1.l d1.c, .bool d1.m, .slice d1.p2 d1.l2 d1.c2] 28)) _ (by simp) _ _) ((Ext.refl _).alloc _)
  have hR0 : Blk (((w.alloc (.cells #[.bool a0.n, .slice a0.p a0.l a0.c, .bool a0.m, .slice a0.p2 a0.l2 a0.c2, .bool a1.n, .slice a1.p a1.l a1.c, .bool a1.m, .slice a1.p2 a1.l2 a1.c2, .bool b0.n, .slice b0.p b0.l b0.c, .bool b0.m, .slice b0.p2 b0.l2 b0.c2, .bool b1.n, .slice b1.p b1.l b1.c, .bool b1.m, .slice b1.p2 b1.l2 b1.c2, .bool c0.n, .slice c0.p c0.l c0.c, .bool c0.m, .slice c0.p2 c0.l2 c0.c2, .bool c1.n, .slice c1.p c1.l c1.c, .bool c1.m, .slice c1.p2 c1.l2 c1.c2, .bool d0.n, .slice d0.p d0.l d0.c, .bool d0.m, .slice d0.p2 d0.l2 d0.c2, .bool d1.n, .slice d1.p d1.l d1.c, .bool d1.m, .slice d1.p2 d1.l2 d1.c2] 28)).alloc (.cells #[.bool t.n, .slice t.p t.l t.c, .bool t.m, .slice t.p2 t.l2 t.c2] 26)).alloc (.cells #[.bool false, .slice none 0 0, .bool false, .slice none 0 0, .bool false, .slice none 0 0, .bool false, .slice none 0 0] 27)) (w.heap.size + 1 + 1) 27 #[.bool false, .slice none 0 0, .bool false, .slice none 0 0, .bool false, .slice none 0 0, .bool false, .slice none 0 0] := Blk.ext (Blk.new_at ((w.alloc (.cells #[.bool a0.n, .slice a0.p a0.l a0.c, .bool a0.m, .slice a0.p2 a0.l2 a0.c2, .bool a1.n, .slice a1.p a1.l a1.c, .bool a1.m, .slice a1.p2 a1.l2 a1.c2, .bool b0.n, .slice b0.p b0.l b0.c, .bool b0.m, .slice b0.p2 b0.l2 b0.c2, .bool b1.n, .slice b1.p b1.l b1.c, .bool b1.m, .slice b1.p2 b1.l2 b1.c2, .bool c0.n, .slice c0.p c0.l c0.c, .bool c0.m, .slice c0.p2 c0.l2 c0.c2, .bool c1.n, .slice c1.p c1.l c1.c, .bool c1.m, .slice c1.p2 c1.l2 c1.c2, .bool d0.n, .slice d0.p d0.l d0.c, .bool d0.m, .slice d0.p2 d0.l2 d0.c2, .bool d1.n, .slice d1.p d1.l d1.c, .bool d1.m, .slice d1.p2 d1.l2 d1.c2] 28)).alloc (.cells #[.bool t.n, .slice t.p t.l t.c, .bool t.m, .slice t.p2 t.l2 t.c2] 26)) _ (by simp) _ _) (Ext.refl _)
  have hE : Ext w (((w.alloc (.cells #[.bool a0.n, .slice a0.p a0.l a0.c, .bool a0.m, .slice a0.p2 a0.l2 a0.c2, .bool a1.n, .slice a1.p a1.l a1.c, .bool a1.m, .slice a1.p2 a1.l2 a1.c2, .bool b0.n, .slice b0.p b0.l b0.c, .bool b0.m, .slice b0.p2 b0.l2 b0.c2, .bool b1.n, .slice b1.p b1.l b1.c, .bool b1.m, .slice b1.p2 b1.l2 b1.c2, .bool c0.n, .slice c0.p c0.l c0.c, .bool c0.m, .slice c0.p2 c0.l2 c0.c2, .bool c1.n, .slice c1.p c1.l c1.c, .bool c1.m, .slice c1.p2 c1.l2 c1.c2, .bool d0.n, .slice d0.p d0.l d0.c, .bool d0.m, .slice d0.p2 d0.l2 d0.c2, .bool d1.n, .slice d1.p d1.l d1.c, .bool d1.m, .slice d1.p2 d1.l2 d1.c2] 28)).alloc (.cells #[.bool t.n, .slice t.p t.l t.c, .bool t.m, .slice t.p2 t.l2 t.c2] 26)).alloc (.cells #[.bool false, .slice none 0 0, .bool false, .slice none 0 0, .bool false, .slice none 0 0, .bool false, .slice none 0 0] 27)) := ((((Ext.refl _).alloc _).alloc _).alloc _)
  have gR0 : w.heap.size ≤ w.heap.size + 1 + 1 := by omega
  have nbx0_R0 : w.heap.size ≠ w.heap.size + 1 + 1 := by omega
  have nbx1_R0 : w.heap.size + 1 ≠ w.heap.size + 1 + 1 := by omega
  generalize (((w.alloc (.cells #[.bool a0.n, .slice a0.p a0.l a0.c, .bool a0.m, .slice a0.p2 a0.l2 a0.c2, .bool a1.n, .slice a1.p a1.l a1.c, .bool a1.m, .slice a1.p2 a1.l2 a1.c2, .bool b0.n, .slice b0.p b0.l b0.c, .bool b0.m, .slice b0.p2 b0.l2 b0.c2, .bool b1.n, .slice b1.p b1.l b1.c, .bool b1.m, .slice b1.p2 b1.l2 b1.c2, .bool c0.n, .slice c0.p c0.l c0.c, .bool c0.m, .slice c0.p2 c0.l2 c0.c2, .bool c1.n, .slice c1.p c1.l c1.c, .bool c1.m, .slice c1.p2 c1.l2 c1.c2, .bool d0.n, .slice d0.p d0.l d0.c, .bool d0.m, .slice d0.p2 d0.l2 d0.c2, .bool d1.n, .slice d1.p d1.l d1.c, .bool d1.m, .slice d1.p2 d1.l2 d1.c2] 28)).alloc (.cells #[.bool t.n, .slice t.p t.l t.c, .bool t.m, .slice t.p2 t.l2 t.c2] 26)).alloc (.cells #[.bool false, .slice none 0 0, .bool false, .slice none 0 0, .bool false, .slice none 0 0, .bool false, .slice none 0 0] 27)) = wa at *
  generalize w.heap.size + 1 + 1 = R0 at *
  generalize w.heap.size + 1 = bx1 at *
  have E1 := Lib.hid (show Ext w wa from hE)
  have Fbx0 := Lib.hid hbx0
  have Fbx1 := Lib.hid hbx1
  have FR0 := Lib.hid hR0
  clear hE hbx0 hbx1 hR0
  have rl2 := rlk 2 (by decide)
  have rl3 := rlk 3 (by decide)
  have rl_ss := Nm.rl_mul (((1 : Int) : Rat) - S) (((1 : Int) : Rat) - S)
  have rl_m1 := Nm.rl_mul (((1 : Int) : Rat) - S) ((((1 : Int) : Rat) - S) * (((1 : Int) : Rat) - S))
  have rl_sq := Nm.rl_mul (((1 : Int) : Rat) - S) (((1 : Int) : Rat) - S)
  have rl_tq := Nm.rl_mul S ((((1 : Int) : Rat) - S) * (((1 : Int) : Rat) - S))
  have rl_m2 := Nm.rl_mul ((3 : Int) : Rat) (S * ((((1 : Int) : Rat) - S) * (((1 : Int) : Rat) - S)))
  have rl_tt := Nm.rl_mul S S
  have rl_ts := Nm.rl_mul (S * S) (((1 : Int) : Rat) - S)
  have rl_m3 := Nm.rl_mul ((3 : Int) : Rat) ((S * S) * (((1 : Int) : Rat) - S))
  have rl_tu := Nm.rl_mul S S
  have rl_m4 := Nm.rl_mul S (S * S)
  go_cut [5] (fun s wx => ∃ (X : Nat) (r : RV), s = .pointer (some ⟨X, 0, none⟩) ∧ wa.heap.size ≤ X ∧ r.Is wx (((1 : Int) : Rat) - S) ∧ Blk wx X 26 #[.bool r.n, .slice r.p r.l r.c, .bool r.m, .slice r.p2 r.l2 r.c2] ∧ Ext wa wx)
  case first =>
    refine wp_region_held_drew (S := fun x => Ext wa x) (by kernel_rfl) (Ext.refl _).drew (fun _ => ?_)
    have E2 := Lib.hid (show Ext wa wa.drew from (Ext.refl _).drew)
    refine md_range (i := 1) (listed' := #[false, true, false, false, false]) (by rfl) (by kernel_rfl) (by kernel_rfl) (by kernel_rfl) _ _ (by rfl) bx1 0 [.bool t.n, .slice t.p t.l t.c, .bool t.m, .slice t.p2 t.l2 t.c2] _ (by intro _ _ _ h; exact h) (by rfl) (by rfl) (fun x hx => ((Fbx1.out).ext hx).part 0 4) Tryz.underlying26 (by rfl) (by kernel_rfl) E2.out (by kernel_rfl) ?_
    (try simp only [Act.put, List.setIfInBounds_toArray, List.set_cons_zero, List.set_cons_succ])
    refine md_call_or (i := 0) (j := 3) (listed' := #[true, true, false, false, false]) (lj := #[false, true, false, true, false]) (u := .pointer (some ⟨wa.drew.heap.size, 0, none⟩)) (wj := (wa.drew.alloc (.cells #[.bool false, .slice none 0 0, .bool false, .slice none 0 0] 26))) (by rfl) (by rfl) (by kernel_rfl) (by rfl) (by go_simp) (x3from 1 _ (by omega) (by omega)) (by kernel_rfl) (by rfl) (by go_simp) (E2.out.alloc _) (by kernel_rfl) ?_ ?_
    · rintro e w3 ⟨k1, rfl, hc, hx⟩
      have E3 := Lib.hid (show Ext wa.drew w3 from hx)
      have Fk1 := Lib.hid hc
      clear hc
      clear hx
      refine ⟨_, rfl, (E2.out.trans E3.out), ?_⟩
      (try simp only [Act.put, List.setIfInBounds_toArray, List.set_cons_zero, List.set_cons_succ])
      refine md_call_or (i := 2) (j := 3) (listed' := #[true, true, true, false, false]) (lj := #[true, true, false, true, false]) (u := .pointer (some ⟨w3.heap.size, 0, none⟩)) (wj := (w3.alloc (.cells #[.bool false, .slice none 0 0, .bool false, .slice none 0 0] 26))) (by rfl) (by rfl) (by kernel_rfl) (by rfl) (by go_simp) (x3sub (L := L + 1) (Fk1.out.isIn (by omega)) ((Ft.out.ext (E1.out.trans (E2.out.trans E3.out))).mono (by omega)) (by omega)) (by kernel_rfl) (by rfl) (by go_simp) ((E2.out.trans E3.out).alloc _) (by kernel_rfl) ?_ ?_
      · rintro e w4 ⟨sv, rfl, hc, hx⟩
        have E4 := Lib.hid (show Ext w3 w4 from hx)
        have Fsv := Lib.hid hc
        clear hc
        clear hx
        refine ⟨_, rfl, (E2.out.trans (E3.out.trans E4.out)), ?_⟩
        (try simp only [Act.put, List.setIfInBounds_toArray, List.set_cons_zero, List.set_cons_succ])
        refine md_one (i := 3) (listed' := #[true, true, true, true, false]) (v := .pointer (some ⟨w4.heap.size, 0, none⟩)) (w' := (w4.alloc (.cells #[.bool false, .slice none 0 0, .bool false, .slice none 0 0] 26))) (by rfl) (by kernel_rfl) (by rfl) (by go_simp) ((E2.out.trans (E3.out.trans E4.out)).alloc _) (by kernel_rfl) ?_
        (try simp only [Act.put, List.setIfInBounds_toArray, List.set_cons_zero, List.set_cons_succ])
        have E5 := Lib.hid (show Ext w4 (w4.alloc (.cells #[.bool false, .slice none 0 0, .bool false, .slice none 0 0] 26)) from (Ext.refl _).alloc _)
        have Fnb3 := Lib.hid (Blk.new w4 26 #[.bool false, .slice none 0 0, .bool false, .slice none 0 0])
        have hbx := Fnb3.out
        have ob := Own.setCells (w4.alloc (.cells #[.bool false, .slice none 0 0, .bool false, .slice none 0 0] 26)) w4.heap.size #[.bool sv.n, .slice sv.p sv.l sv.c, .bool sv.m, .slice sv.p2 sv.l2 sv.c2]
        have hgb : wa.heap.size ≤ w4.heap.size := (E2.out.trans (E3.out.trans E4.out)).size
        have hS8 : Ext wa ((w4.alloc (.cells #[.bool false, .slice none 0 0, .bool false, .slice none 0 0] 26)).setCells w4.heap.size 0 (#[.bool sv.n, .slice sv.p sv.l sv.c, .bool sv.m, .slice sv.p2 sv.l2 sv.c2] : Array Value).toList) := ob.ext (E2.out.trans (E3.out.trans (E4.out.trans E5.out))) hgb
        refine md_store (i := 4) (listed' := #[true, true, true, true, true]) (by rfl) (by kernel_rfl) (by rfl) _ _ _ (by rfl) w4.heap.size 26 #[.bool false, .slice none 0 0, .bool false, .slice none 0 0] #[.bool sv.n, .slice sv.p sv.l sv.c, .bool sv.m, .slice sv.p2 sv.l2 sv.c2] (by rfl) (by rfl) hbx (by rw [show (#[.bool sv.n, .slice sv.p sv.l sv.c, .bool sv.m, .slice sv.p2 sv.l2 sv.c2] : Array Value).size = 4 from rfl]; rfl) (by rw [show (#[.bool sv.n, .slice sv.p sv.l sv.c, .bool sv.m, .slice sv.p2 sv.l2 sv.c2] : Array Value).size = 4 from rfl]; kernel_rfl) (all_oneCell_toArray (by simp [Value.oneCell'])) hS8 (by kernel_rfl) ?_
        (try simp only [Act.put, List.setIfInBounds_toArray, List.set_cons_zero, List.set_cons_succ])
        refine wpAnyH_done (by kernel_rfl) ?_ _
        go_wp2_with fail
        go_meet
        exact ⟨_, sv, rfl, hgb, ((Fsv.out.ext E5.out)).own hbx (noU_of _ (by simp)) ob, hbx.setCells #[.bool sv.n, .slice sv.p sv.l sv.c, .bool sv.m, .slice sv.p2 sv.l2 sv.c2] rfl, hS8⟩
      · (try simp only [Act.put, List.setIfInBounds_toArray, List.set_cons_zero, List.set_cons_succ])
        have E4 := Lib.hid (show Ext w3 (w3.alloc (.cells #[.bool false, .slice none 0 0, .bool false, .slice none 0 0] 26)) from (Ext.refl _).alloc _)
        have Fnb3 := Lib.hid (Blk.new w3 26 #[.bool false, .slice none 0 0, .bool false, .slice none 0 0])
        refine md_call (i := 2) (listed' := #[true, true, true, true, false]) (by rfl) (by kernel_rfl) (by rfl) (by go_simp) (x3sub (L := L + 1) ((Fk1.out.ext E4.out).isIn (by omega)) ((Ft.out.ext (E1.out.trans (E2.out.trans (E3.out.trans E4.out)))).mono (by omega)) (by omega)) (by kernel_rfl) ?_
        rintro e w5 ⟨sv, rfl, hc, hx⟩
        have E5 := Lib.hid (show Ext (w3.alloc (.cells #[.bool false, .slice none 0 0, .bool false, .slice none 0 0] 26)) w5 from hx)
        have Fsv := Lib.hid hc
        clear hc
        clear hx
        refine ⟨_, rfl, (E2.out.trans (E3.out.trans (E4.out.trans E5.out))), ?_⟩
        (try simp only [Act.put, List.setIfInBounds_toArray, List.set_cons_zero, List.set_cons_succ])
        have hbx := (Fnb3.out.ext E5.out)
        have ob := Own.setCells w5 w3.heap.size #[.bool sv.n, .slice sv.p sv.l sv.c, .bool sv.m, .slice sv.p2 sv.l2 sv.c2]
        have hgb : wa.heap.size ≤ w3.heap.size := (E2.out.trans E3.out).size
        have hS8 : Ext wa (w5.setCells w3.heap.size 0 (#[.bool sv.n, .slice sv.p sv.l sv.c, .bool sv.m, .slice sv.p2 sv.l2 sv.c2] : Array Value).toList) := ob.ext (E2.out.trans (E3.out.trans (E4.out.trans E5.out))) hgb
        refine md_store (i := 4) (listed' := #[true, true, true, true, true]) (by rfl) (by kernel_rfl) (by rfl) _ _ _ (by rfl) w3.heap.size 26 #[.bool false, .slice none 0 0, .bool false, .slice none 0 0] #[.bool sv.n, .slice sv.p sv.l sv.c, .bool sv.m, .slice sv.p2 sv.l2 sv.c2] (by rfl) (by rfl) hbx (by rw [show (#[.bool sv.n, .slice sv.p sv.l sv.c, .bool sv.m, .slice sv.p2 sv.l2 sv.c2] : Array Value).size = 4 from rfl]; rfl) (by rw [show (#[.bool sv.n, .slice sv.p sv.l sv.c, .bool sv.m, .slice sv.p2 sv.l2 sv.c2] : Array Value).size = 4 from rfl]; kernel_rfl) (all_oneCell_toArray (by simp [Value.oneCell'])) hS8 (by kernel_rfl) ?_
        (try simp only [Act.put, List.setIfInBounds_toArray, List.set_cons_zero, List.set_cons_succ])
        refine wpAnyH_done (by kernel_rfl) ?_ _
        go_wp2_with fail
        go_meet
        exact ⟨_, sv, rfl, hgb, (Fsv.out).own hbx (noU_of _ (by simp)) ob, hbx.setCells #[.bool sv.n, .slice sv.p sv.l sv.c, .bool sv.m, .slice sv.p2 sv.l2 sv.c2] rfl, hS8⟩
    · (try simp only [Act.put, List.setIfInBounds_toArray, List.set_cons_zero, List.set_cons_succ])
      have E3 := Lib.hid (show Ext wa.drew (wa.drew.alloc (.cells #[.bool false, .slice none 0 0, .bool false, .slice none 0 0] 26)) from (Ext.refl _).alloc _)
      have Fnb3 := Lib.hid (Blk.new wa.drew 26 #[.bool false, .slice none 0 0, .bool false, .slice none 0 0])
      refine md_call (i := 0) (listed' := #[true, true, false, true, false]) (by rfl) (by kernel_rfl) (by rfl) (by go_simp) (x3from 1 _ (by omega) (by omega)) (by kernel_rfl) ?_
      rintro e w4 ⟨k1, rfl, hc, hx⟩
      have E4 := Lib.hid (show Ext (wa.drew.alloc (.cells #[.bool false, .slice none 0 0, .bool false, .slice none 0 0] 26)) w4 from hx)
      have Fk1 := Lib.hid hc
      clear hc
      clear hx
      refine ⟨_, rfl, (E2.out.trans (E3.out.trans E4.out)), ?_⟩
      (try simp only [Act.put, List.setIfInBounds_toArray, List.set_cons_zero, List.set_cons_succ])
      refine md_call (i := 2) (listed' := #[true, true, true, true, false]) (by rfl) (by kernel_rfl) (by rfl) (by go_simp) (x3sub (L := L + 1) (Fk1.out.isIn (by omega)) ((Ft.out.ext (E1.out.trans (E2.out.trans (E3.out.trans E4.out)))).mono (by omega)) (by omega)) (by kernel_rfl) ?_
      rintro e w5 ⟨sv, rfl, hc, hx⟩
      have E5 := Lib.hid (show Ext w4 w5 from hx)
      have Fsv := Lib.hid hc
      clear hc
      clear hx
      refine ⟨_, rfl, (E2.out.trans (E3.out.trans (E4.out.trans E5.out))), ?_⟩
      (try simp only [Act.put, List.setIfInBounds_toArray, List.set_cons_zero, List.set_cons_succ])
      have hbx := (Fnb3.out.ext (E4.out.trans E5.out))
      have ob := Own.setCells w5 wa.drew.heap.size #[.bool sv.n, .slice sv.p sv.l sv.c, .bool sv.m, .slice sv.p2 sv.l2 sv.c2]
      have hgb : wa.heap.size ≤ wa.drew.heap.size := E2.out.size
      have hS8 : Ext wa (w5.setCells wa.drew.heap.size 0 (#[.bool sv.n, .slice sv.p sv.l sv.c, .bool sv.m, .slice sv.p2 sv.l2 sv.c2] : Array Value).toList) := ob.ext (E2.out.trans (E3.out.trans (E4.out.trans E5.out))) hgb
      refine md_store (i := 4) (listed' := #[true, true, true, true, true]) (by rfl) (by kernel_rfl) (by rfl) _ _ _ (by rfl) wa.drew.heap.size 26 #[.bool false, .slice none 0 0, .bool false, .slice none 0 0] #[.bool sv.n, .slice sv.p sv.l sv.c, .bool sv.m, .slice sv.p2 sv.l2 sv.c2] (by rfl) (by rfl) hbx (by rw [show (#[.bool sv.n, .slice sv.p sv.l sv.c, .bool sv.m, .slice sv.p2 sv.l2 sv.c2] : Array Value).size = 4 from rfl]; rfl) (by rw [show (#[.bool sv.n, .slice sv.p sv.l sv.c, .bool sv.m, .slice sv.p2 sv.l2 sv.c2] : Array Value).size = 4 from rfl]; kernel_rfl) (all_oneCell_toArray (by simp [Value.oneCell'])) hS8 (by kernel_rfl) ?_
      (try simp only [Act.put, List.setIfInBounds_toArray, List.set_cons_zero, List.set_cons_succ])
      refine wpAnyH_done (by kernel_rfl) ?_ _
      go_wp2_with fail
      go_meet
      exact ⟨_, sv, rfl, hgb, (Fsv.out).own hbx (noU_of _ (by simp)) ob, hbx.setCells #[.bool sv.n, .slice sv.p sv.l sv.c, .bool sv.m, .slice sv.p2 sv.l2 sv.c2] rfl, hS8⟩
  case rest =>
    obtain ⟨XS, sv, rfl, hXS, hs, hb, hx⟩ := hcut
    have nbs_R0 : XS ≠ R0 := by have h9 := Blk.lt FR0.out; omega
    have E2 := Lib.hid (show Ext wa wc from hx)
    have Fsv := Lib.hid hs
    have Fbs := Lib.hid hb
    clear hs hb hx hXS
    go_upto_region 2 with fail
    refine wp_region_lit ?_
    refine mv_call (by rfl) (by go_simp) (x3from 3 _ (by omega) (by omega)) ?_
    rintro e w3 ⟨k3, rfl, hc, hx⟩
    have E3 := Lib.hid (show Ext wc w3 from hx)
    have Fk3 := Lib.hid hc
    clear hc
    clear hx
    refine ⟨_, rfl, ?_⟩
    (try simp only [Act.put, List.setIfInBounds_toArray, List.set_cons_zero, List.set_cons_succ])
    refine mv_val (v := .pointer (some ⟨w3.heap.size, 0, none⟩)) (w' := w3.alloc (.cells #[.bool false, .slice none 0 0, .bool false, .slice none 0 0] 26)) (by rfl) (by go_simp) ?_
    (try simp only [Act.put, List.setIfInBounds_toArray, List.set_cons_zero, List.set_cons_succ])
    refine mv_store (by rfl) _ _ _ (by rfl) w3.heap.size 26 #[.bool false, .slice none 0 0, .bool false, .slice none 0 0] #[.bool k3.n, .slice k3.p k3.l k3.c, .bool k3.m, .slice k3.p2 k3.l2 k3.c2] (by rfl) (by rfl) (Blk.new w3 _ _) (by rw [show (#[.bool k3.n, .slice k3.p k3.l k3.c, .bool k3.m, .slice k3.p2 k3.l2 k3.c2] : Array Value).size = 4 from rfl]; rfl) (by rw [show (#[.bool k3.n, .slice k3.p k3.l k3.c, .bool k3.m, .slice k3.p2 k3.l2 k3.c2] : Array Value).size = 4 from rfl]; kernel_rfl) (all_oneCell_toArray (by simp [Value.oneCell'])) ?_
    (try simp only [Act.put, List.setIfInBounds_toArray, List.set_cons_zero, List.set_cons_succ])
    have nV6_R0 : w3.heap.size ≠ R0 := Nat.ne_of_gt (Blk.lt (FR0.out.ext (E2.out.trans E3.out)))
    obtain ⟨xq1, xq2⟩ := new_var w3 26 #[.bool false, .slice none 0 0, .bool false, .slice none 0 0] #[.bool k3.n, .slice k3.p k3.l k3.c, .bool k3.m, .slice k3.p2 k3.l2 k3.c2] (by rw [show (#[.bool k3.n, .slice k3.p k3.l k3.c, .bool k3.m, .slice k3.p2 k3.l2 k3.c2] : Array Value).size = 4 from rfl]; rfl)
    generalize (w3.alloc (.cells #[.bool false, .slice none 0 0, .bool false, .slice none 0 0] 26)).setCells w3.heap.size 0 (#[.bool k3.n, .slice k3.p k3.l k3.c, .bool k3.m, .slice k3.p2 k3.l2 k3.c2] : Array Value).toList = w4 at *
    generalize w3.heap.size = X4 at *
    have E4 := Lib.hid (show Ext w3 w4 from xq1)
    have FV6 := Lib.hid xq2
    clear xq1 xq2
    go_upto_region 3 with fail
    refine wp_region_held_drew (S := fun x => Ext w4 x) (by kernel_rfl) (Ext.refl _).drew (fun _ => ?_)
    have E5 := Lib.hid (show Ext w4 w4.drew from (Ext.refl _).drew)
    refine md_range (i := 0) (listed' := #[true, false, false, false, false, false, false, false, false, false, false, false, false, false, false, false, false, false, false, false, false, false, false, false, false, false]) (by rfl) (by kernel_rfl) (by kernel_rfl) (by kernel_rfl) _ _ (by rfl) XS 0 [.bool sv.n, .slice sv.p sv.l sv.c, .bool sv.m, .slice sv.p2 sv.l2 sv.c2] _ (by intro _ _ _ h; exact h) (by rfl) (by rfl) (fun x hx => (((Fbs.out.ext (E3.out.trans E4.out))).ext hx).part 0 4) Tryz.underlying26 (by rfl) (by kernel_rfl) E5.out (by kernel_rfl) ?_
    (try simp only [Act.put, List.setIfInBounds_toArray, List.set_cons_zero, List.set_cons_succ])
    refine md_range (i := 1) (listed' := #[true, true, false, false, false, false, false, false, false, false, false, false, false, false, false, false, false, false, false, false, false, false, false, false, false, false]) (by rfl) (by kernel_rfl) (by kernel_rfl) (by kernel_rfl) _ _ (by rfl) XS 0 [.bool sv.n, .slice sv.p sv.l sv.c, .bool sv.m, .slice sv.p2 sv.l2 sv.c2] _ (by intro _ _ _ h; exact h) (by rfl) (by rfl) (fun x hx => (((Fbs.out.ext (E3.out.trans E4.out))).ext hx).part 0 4) Tryz.underlying26 (by rfl) (by kernel_rfl) E5.out (by kernel_rfl) ?_
    (try simp only [Act.put, List.setIfInBounds_toArray, List.set_cons_zero, List.set_cons_succ])
    refine md_range (i := 2) (listed' := #[true, true, true, false, false, false, false, false, false, false, false, false, false, false, false, false, false, false, false, false, false, false, false, false, false, false]) (by rfl) (by kernel_rfl) (by kernel_rfl) (by kernel_rfl) _ _ (by rfl) XS 0 [.bool sv.n, .slice sv.p sv.l sv.c, .bool sv.m, .slice sv.p2 sv.l2 sv.c2] _ (by intro _ _ _ h; exact h) (by rfl) (by rfl) (fun x hx => (((Fbs.out.ext (E3.out.trans E4.out))).ext hx).part 0 4) Tryz.underlying26 (by rfl) (by kernel_rfl) E5.out (by kernel_rfl) ?_
    (try simp only [Act.put, List.setIfInBounds_toArray, List.set_cons_zero, List.set_cons_succ])
    refine md_range (i := 5) (listed' := #[true, true, true, false, false, true, false, false, false, false, false, false, false, false, false, false, false, false, false, false, false, false, false, false, false, false]) (by rfl) (by kernel_rfl) (by kernel_rfl) (by kernel_rfl) _ _ (by rfl) X4 0 [.bool k3.n, .slice k3.p k3.l k3.c, .bool k3.m, .slice k3.p2 k3.l2 k3.c2] _ (by intro _ _ _ h; exact h) (by rfl) (by rfl) (fun x hx => ((FV6.out).ext hx).part 0 4) Tryz.underlying26 (by rfl) (by kernel_rfl) E5.out (by kernel_rfl) ?_
    (try simp only [Act.put, List.setIfInBounds_toArray, List.set_cons_zero, List.set_cons_succ])
    refine md_range (i := 6) (listed' := #[true, true, true, false, false, true, true, false, false, false, false, false, false, false, false, false, false, false, false, false, false, false, false, false, false, false]) (by rfl) (by kernel_rfl) (by kernel_rfl) (by kernel_rfl) _ _ (by rfl) bx1 0 [.bool t.n, .slice t.p t.l t.c, .bool t.m, .slice t.p2 t.l2 t.c2] _ (by intro _ _ _ h; exact h) (by rfl) (by rfl) (fun x hx => (((Fbx1.out.ext (E2.out.trans (E3.out.trans E4.out)))).ext hx).part 0 4) Tryz.underlying26 (by rfl) (by kernel_rfl) E5.out (by kernel_rfl) ?_
    (try simp only [Act.put, List.setIfInBounds_toArray, List.set_cons_zero, List.set_cons_succ])
    refine md_range (i := 7) (listed' := #[true, true, true, false, false, true, true, true, false, false, false, false, false, false, false, false, false, false, false, false, false, false, false, false, false, false]) (by rfl) (by kernel_rfl) (by kernel_rfl) (by kernel_rfl) _ _ (by rfl) XS 0 [.bool sv.n, .slice sv.p sv.l sv.c, .bool sv.m, .slice sv.p2 sv.l2 sv.c2] _ (by intro _ _ _ h; exact h) (by rfl) (by rfl) (fun x hx => (((Fbs.out.ext (E3.out.trans E4.out))).ext hx).part 0 4) Tryz.underlying26 (by rfl) (by kernel_rfl) E5.out (by kernel_rfl) ?_
    (try simp only [Act.put, List.setIfInBounds_toArray, List.set_cons_zero, List.set_cons_succ])
    refine md_range (i := 8) (listed' := #[true, true, true, false, false, true, true, true, true, false, false, false, false, false, false, false, false, false, false, false, false, false, false, false, false, false]) (by rfl) (by kernel_rfl) (by kernel_rfl) (by kernel_rfl) _ _ (by rfl) XS 0 [.bool sv.n, .slice sv.p sv.l sv.c, .bool sv.m, .slice sv.p2 sv.l2 sv.c2] _ (by intro _ _ _ h; exact h) (by rfl) (by rfl) (fun x hx => (((Fbs.out.ext (E3.out.trans E4.out))).ext hx).part 0 4) Tryz.underlying26 (by rfl) (by kernel_rfl) E5.out (by kernel_rfl) ?_
    (try simp only [Act.put, List.setIfInBounds_toArray, List.set_cons_zero, List.set_cons_succ])
    refine md_range (i := 12) (listed' := #[true, true, true, false, false, true, true, true, true, false, false, false, true, false, false, false, false, false, false, false, false, false, false, false, false, false]) (by rfl) (by kernel_rfl) (by kernel_rfl) (by kernel_rfl) _ _ (by rfl) X4 0 [.bool k3.n, .slice k3.p k3.l k3.c, .bool k3.m, .slice k3.p2 k3.l2 k3.c2] _ (by intro _ _ _ h; exact h) (by rfl) (by rfl) (fun x hx => ((FV6.out).ext hx).part 0 4) Tryz.underlying26 (by rfl) (by kernel_rfl) E5.out (by kernel_rfl) ?_
    (try simp only [Act.put, List.setIfInBounds_toArray, List.set_cons_zero, List.set_cons_succ])
    refine md_range (i := 13) (listed' := #[true, true, true, false, false, true, true, true, true, false, false, false, true, true, false, false, false, false, false, false, false, false, false, false, false, false]) (by rfl) (by kernel_rfl) (by kernel_rfl) (by kernel_rfl) _ _ (by rfl) bx1 0 [.bool t.n, .slice t.p t.l t.c, .bool t.m, .slice t.p2 t.l2 t.c2] _ (by intro _ _ _ h; exact h) (by rfl) (by rfl) (fun x hx => (((Fbx1.out.ext (E2.out.trans (E3.out.trans E4.out)))).ext hx).part 0 4) Tryz.underlying26 (by rfl) (by kernel_rfl) E5.out (by kernel_rfl) ?_
    (try simp only [Act.put, List.setIfInBounds_toArray, List.set_cons_zero, List.set_cons_succ])
    refine md_range (i := 14) (listed' := #[true, true, true, false, false, true, true, true, true, false, false, false, true, true, true, false, false, false, false, false, false, false, false, false, false, false]) (by rfl) (by kernel_rfl) (by kernel_rfl) (by kernel_rfl) _ _ (by rfl) bx1 0 [.bool t.n, .slice t.p t.l t.c, .bool t.m, .slice t.p2 t.l2 t.c2] _ (by intro _ _ _ h; exact h) (by rfl) (by rfl) (fun x hx => (((Fbx1.out.ext (E2.out.trans (E3.out.trans E4.out)))).ext hx).part 0 4) Tryz.underlying26 (by rfl) (by kernel_rfl) E5.out (by kernel_rfl) ?_
    (try simp only [Act.put, List.setIfInBounds_toArray, List.set_cons_zero, List.set_cons_succ])
    refine md_range (i := 16) (listed' := #[true, true, true, false, false, true, true, true, true, false, false, false, true, true, true, false, true, false, false, false, false, false, false, false, false, false]) (by rfl) (by kernel_rfl) (by kernel_rfl) (by kernel_rfl) _ _ (by rfl) XS 0 [.bool sv.n, .slice sv.p sv.l sv.c, .bool sv.m, .slice sv.p2 sv.l2 sv.c2] _ (by intro _ _ _ h; exact h) (by rfl) (by rfl) (fun x hx => (((Fbs.out.ext (E3.out.trans E4.out))).ext hx).part 0 4) Tryz.underlying26 (by rfl) (by kernel_rfl) E5.out (by kernel_rfl) ?_
    (try simp only [Act.put, List.setIfInBounds_toArray, List.set_cons_zero, List.set_cons_succ])
    refine md_range (i := 19) (listed' := #[true, true, true, false, false, true, true, true, true, false, false, false, true, true, true, false, true, false, false, true, false, false, false, false, false, false]) (by rfl) (by kernel_rfl) (by kernel_rfl) (by kernel_rfl) _ _ (by rfl) bx1 0 [.bool t.n, .slice t.p t.l t.c, .bool t.m, .slice t.p2 t.l2 t.c2] _ (by intro _ _ _ h; exact h) (by rfl) (by rfl) (fun x hx => (((Fbx1.out.ext (E2.out.trans (E3.out.trans E4.out)))).ext hx).part 0 4) Tryz.underlying26 (by rfl) (by kernel_rfl) E5.out (by kernel_rfl) ?_
    (try simp only [Act.put, List.setIfInBounds_toArray, List.set_cons_zero, List.set_cons_succ])
    refine md_range (i := 20) (listed' := #[true, true, true, false, false, true, true, true, true, false, false, false, true, true, true, false, true, false, false, true, true, false, false, false, false, false]) (by rfl) (by kernel_rfl) (by kernel_rfl) (by kernel_rfl) _ _ (by rfl) bx1 0 [.bool t.n, .slice t.p t.l t.c, .bool t.m, .slice t.p2 t.l2 t.c2] _ (by intro _ _ _ h; exact h) (by rfl) (by rfl) (fun x hx => (((Fbx1.out.ext (E2.out.trans (E3.out.trans E4.out)))).ext hx).part 0 4) Tryz.underlying26 (by rfl) (by kernel_rfl) E5.out (by kernel_rfl) ?_
    (try simp only [Act.put, List.setIfInBounds_toArray, List.set_cons_zero, List.set_cons_succ])
    refine md_range (i := 21) (listed' := #[true, true, true, false, false, true, true, true, true, false, false, false, true, true, true, false, true, false, false, true, true, true, false, false, false, false]) (by rfl) (by kernel_rfl) (by kernel_rfl) (by kernel_rfl) _ _ (by rfl) bx1 0 [.bool t.n, .slice t.p t.l t.c, .bool t.m, .slice t.p2 t.l2 t.c2] _ (by intro _ _ _ h; exact h) (by rfl) (by rfl) (fun x hx => (((Fbx1.out.ext (E2.out.trans (E3.out.trans E4.out)))).ext hx).part 0 4) Tryz.underlying26 (by rfl) (by kernel_rfl) E5.out (by kernel_rfl) ?_
    (try simp only [Act.put, List.setIfInBounds_toArray, List.set_cons_zero, List.set_cons_succ])
    refine md_call (i := 3) (listed' := #[true, true, true, true, false, true, true, true, true, false, false, false, true, true, true, false, true, false, false, true, true, true, false, false, false, false]) (by rfl) (by kernel_rfl) (by rfl) (by go_simp) (x3mul (L := 4 * L + 8) ((Fsv.out.ext (E3.out.trans (E4.out.trans E5.out))).isIn (by omega)) ((Fsv.out.ext (E3.out.trans (E4.out.trans E5.out))).isIn (by omega)) (by omega)) (by kernel_rfl) ?_
    rintro e w6 ⟨ss, rfl, hc, hx⟩
    have E6 := Lib.hid (show Ext w4.drew w6 from hx)
    have Fss := Lib.hid hc
    clear hc
    clear hx
    refine ⟨_, rfl, (E5.out.trans E6.out), ?_⟩
    (try simp only [Act.put, List.setIfInBounds_toArray, List.set_cons_zero, List.set_cons_succ])
    refine md_call (i := 4) (listed' := #[true, true, true, true, true, true, true, true, true, false, false, false, true, true, true, false, true, false, false, true, true, true, false, false, false, false]) (by rfl) (by kernel_rfl) (by rfl) (by go_simp) (x3mul (L := 4 * L + 8) ((Fsv.out.ext (E3.out.trans (E4.out.trans (E5.out.trans E6.out)))).isIn (by omega)) (Fss.out.isIn (by omega)) (by omega)) (by kernel_rfl) ?_
    rintro e w7 ⟨m1, rfl, hc, hx⟩
    have E7 := Lib.hid (show Ext w6 w7 from hx)
    have Fm1 := Lib.hid hc
    clear hc
    clear hx
    refine ⟨_, rfl, (E5.out.trans (E6.out.trans E7.out)), ?_⟩
    (try simp only [Act.put, List.setIfInBounds_toArray, List.set_cons_zero, List.set_cons_succ])
    refine md_call (i := 9) (listed' := #[true, true, true, true, true, true, true, true, true, true, false, false, true, true, true, false, true, false, false, true, true, true, false, false, false, false]) (by rfl) (by kernel_rfl) (by rfl) (by go_simp) (x3mul (L := 4 * L + 8) ((Fsv.out.ext (E3.out.trans (E4.out.trans (E5.out.trans (E6.out.trans E7.out))))).isIn (by omega)) ((Fsv.out.ext (E3.out.trans (E4.out.trans (E5.out.trans (E6.out.trans E7.out))))).isIn (by omega)) (by omega)) (by kernel_rfl) ?_
    rintro e w8 ⟨sq, rfl, hc, hx⟩
    have E8 := Lib.hid (show Ext w7 w8 from hx)
    have Fsq := Lib.hid hc
    clear hc
    clear hx
    refine ⟨_, rfl, (E5.out.trans (E6.out.trans (E7.out.trans E8.out))), ?_⟩
    (try simp only [Act.put, List.setIfInBounds_toArray, List.set_cons_zero, List.set_cons_succ])
    refine md_call (i := 10) (listed' := #[true, true, true, true, true, true, true, true, true, true, true, false, true, true, true, false, true, false, false, true, true, true, false, false, false, false]) (by rfl) (by kernel_rfl) (by rfl) (by go_simp) (x3mul (L := 4 * L + 8) ((Ft.out.ext (E1.out.trans (E2.out.trans (E3.out.trans (E4.out.trans (E5.out.trans (E6.out.trans (E7.out.trans E8.out)))))))).mono (by omega)) (Fsq.out.isIn (by omega)) (by omega)) (by kernel_rfl) ?_
    rintro e w9 ⟨tq, rfl, hc, hx⟩
    have E9 := Lib.hid (show Ext w8 w9 from hx)
    have Ftq := Lib.hid hc
    clear hc
    clear hx
    refine ⟨_, rfl, (E5.out.trans (E6.out.trans (E7.out.trans (E8.out.trans E9.out)))), ?_⟩
    (try simp only [Act.put, List.setIfInBounds_toArray, List.set_cons_zero, List.set_cons_succ])
    refine md_call (i := 11) (listed' := #[true, true, true, true, true, true, true, true, true, true, true, true, true, true, true, false, true, false, false, true, true, true, false, false, false, false]) (by rfl) (by kernel_rfl) (by rfl) (by go_simp) (x3mul (L := 4 * L + 8) ((Fk3.out.ext (E4.out.trans (E5.out.trans (E6.out.trans (E7.out.trans (E8.out.trans E9.out)))))).isIn (by omega)) (Ftq.out.isIn (by omega)) (by omega)) (by kernel_rfl) ?_
    rintro e w10 ⟨m2, rfl, hc, hx⟩
    have E10 := Lib.hid (show Ext w9 w10 from hx)
    have Fm2 := Lib.hid hc
    clear hc
    clear hx
    refine ⟨_, rfl, (E5.out.trans (E6.out.trans (E7.out.trans (E8.out.trans (E9.out.trans E10.out))))), ?_⟩
    (try simp only [Act.put, List.setIfInBounds_toArray, List.set_cons_zero, List.set_cons_succ])
    refine md_call (i := 15) (listed' := #[true, true, true, true, true, true, true, true, true, true, true, true, true, true, true, true, true, false, false, true, true, true, false, false, false, false]) (by rfl) (by kernel_rfl) (by rfl) (by go_simp) (x3mul (L := 4 * L + 8) ((Ft.out.ext (E1.out.trans (E2.out.trans (E3.out.trans (E4.out.trans (E5.out.trans (E6.out.trans (E7.out.trans (E8.out.trans (E9.out.trans E10.out)))))))))).mono (by omega)) ((Ft.out.ext (E1.out.trans (E2.out.trans (E3.out.trans (E4.out.trans (E5.out.trans (E6.out.trans (E7.out.trans (E8.out.trans (E9.out.trans E10.out)))))))))).mono (by omega)) (by omega)) (by kernel_rfl) ?_
    rintro e w11 ⟨tt, rfl, hc, hx⟩
    have E11 := Lib.hid (show Ext w10 w11 from hx)
    have Ftt := Lib.hid hc
    clear hc
    clear hx
    refine ⟨_, rfl, (E5.out.trans (E6.out.trans (E7.out.trans (E8.out.trans (E9.out.trans (E10.out.trans E11.out)))))), ?_⟩
    (try simp only [Act.put, List.setIfInBounds_toArray, List.set_cons_zero, List.set_cons_succ])
    refine md_call (i := 17) (listed' := #[true, true, true, true, true, true, true, true, true, true, true, true, true, true, true, true, true, true, false, true, true, true, false, false, false, false]) (by rfl) (by kernel_rfl) (by rfl) (by go_simp) (x3mul (L := 4 * L + 8) (Ftt.out.isIn (by omega)) ((Fsv.out.ext (E3.out.trans (E4.out.trans (E5.out.trans (E6.out.trans (E7.out.trans (E8.out.trans (E9.out.trans (E10.out.trans E11.out))))))))).isIn (by omega)) (by omega)) (by kernel_rfl) ?_
    rintro e w12 ⟨ts, rfl, hc, hx⟩
    have E12 := Lib.hid (show Ext w11 w12 from hx)
    have Fts := Lib.hid hc
    clear hc
    clear hx
    refine ⟨_, rfl, (E5.out.trans (E6.out.trans (E7.out.trans (E8.out.trans (E9.out.trans (E10.out.trans (E11.out.trans E12.out))))))), ?_⟩
    (try simp only [Act.put, List.setIfInBounds_toArray, List.set_cons_zero, List.set_cons_succ])
    refine md_call (i := 18) (listed' := #[true, true, true, true, true, true, true, true, true, true, true, true, true, true, true, true, true, true, true, true, true, true, false, false, false, false]) (by rfl) (by kernel_rfl) (by rfl) (by go_simp) (x3mul (L := 4 * L + 8) ((Fk3.out.ext (E4.out.trans (E5.out.trans (E6.out.trans (E7.out.trans (E8.out.trans (E9.out.trans (E10.out.trans (E11.out.trans E12.out))))))))).isIn (by omega)) (Fts.out.isIn (by omega)) (by omega)) (by kernel_rfl) ?_
    rintro e w13 ⟨m3, rfl, hc, hx⟩
    have E13 := Lib.hid (show Ext w12 w13 from hx)
    have Fm3 := Lib.hid hc
    clear hc
    clear hx
    refine ⟨_, rfl, (E5.out.trans (E6.out.trans (E7.out.trans (E8.out.trans (E9.out.trans (E10.out.trans (E11.out.trans (E12.out.trans E13.out)))))))), ?_⟩
    (try simp only [Act.put, List.setIfInBounds_toArray, List.set_cons_zero, List.set_cons_succ])
    refine md_call (i := 22) (listed' := #[true, true, true, true, true, true, true, true, true, true, true, true, true, true, true, true, true, true, true, true, true, true, true, false, false, false]) (by rfl) (by kernel_rfl) (by rfl) (by go_simp) (x3mul (L := 4 * L + 8) ((Ft.out.ext (E1.out.trans (E2.out.trans (E3.out.trans (E4.out.trans (E5.out.trans (E6.out.trans (E7.out.trans (E8.out.trans (E9.out.trans (E10.out.trans (E11.out.trans (E12.out.trans E13.out))))))))))))).mono (by omega)) ((Ft.out.ext (E1.out.trans (E2.out.trans (E3.out.trans (E4.out.trans (E5.out.trans (E6.out.trans (E7.out.trans (E8.out.trans (E9.out.trans (E10.out.trans (E11.out.trans (E12.out.trans E13.out))))))))))))).mono (by omega)) (by omega)) (by kernel_rfl) ?_
    rintro e w14 ⟨tu, rfl, hc, hx⟩
    have E14 := Lib.hid (show Ext w13 w14 from hx)
    have Ftu := Lib.hid hc
    clear hc
    clear hx
    refine ⟨_, rfl, (E5.out.trans (E6.out.trans (E7.out.trans (E8.out.trans (E9.out.trans (E10.out.trans (E11.out.trans (E12.out.trans (E13.out.trans E14.out))))))))), ?_⟩
    (try simp only [Act.put, List.setIfInBounds_toArray, List.set_cons_zero, List.set_cons_succ])
    refine md_call (i := 23) (listed' := #[true, true, true, true, true, true, true, true, true, true, true, true, true, true, true, true, true, true, true, true, true, true, true, true, false, false]) (by rfl) (by kernel_rfl) (by rfl) (by go_simp) (x3mul (L := 4 * L + 8) ((Ft.out.ext (E1.out.trans (E2.out.trans (E3.out.trans (E4.out.trans (E5.out.trans (E6.out.trans (E7.out.trans (E8.out.trans (E9.out.trans (E10.out.trans (E11.out.trans (E12.out.trans (E13.out.trans E14.out)))))))))))))).mono (by omega)) (Ftu.out.isIn (by omega)) (by omega)) (by kernel_rfl) ?_
    rintro e w15 ⟨m4, rfl, hc, hx⟩
    have E15 := Lib.hid (show Ext w14 w15 from hx)
    have Fm4 := Lib.hid hc
    clear hc
    clear hx
    refine ⟨_, rfl, (E5.out.trans (E6.out.trans (E7.out.trans (E8.out.trans (E9.out.trans (E10.out.trans (E11.out.trans (E12.out.trans (E13.out.trans (E14.out.trans E15.out)))))))))), ?_⟩
    (try simp only [Act.put, List.setIfInBounds_toArray, List.set_cons_zero, List.set_cons_succ])
    refine md_one (i := 24) (listed' := #[true, true, true, true, true, true, true, true, true, true, true, true, true, true, true, true, true, true, true, true, true, true, true, true, true, false]) (v := .slice (some ⟨w15.heap.size, 0, none⟩) 4 4) (w' := (w15.alloc (.cells #[.bool m1.n, .slice m1.p m1.l m1.c, .bool m1.m, .slice m1.p2 m1.l2 m1.c2, .bool m2.n, .slice m2.p m2.l m2.c, .bool m2.m, .slice m2.p2 m2.l2 m2.c2, .bool m3.n, .slice m3.p m3.l m3.c, .bool m3.m, .slice m3.p2 m3.l2 m3.c2, .bool m4.n, .slice m4.p m4.l m4.c, .bool m4.m, .slice m4.p2 m4.l2 m4.c2] 26))) (by rfl) (by kernel_rfl) (by rfl) (by go_simp) ((E5.out.trans (E6.out.trans (E7.out.trans (E8.out.trans (E9.out.trans (E10.out.trans (E11.out.trans (E12.out.trans (E13.out.trans (E14.out.trans E15.out)))))))))).alloc _) (by kernel_rfl) ?_
    (try simp only [Act.put, List.setIfInBounds_toArray, List.set_cons_zero, List.set_cons_succ])
    have E16 := Lib.hid (show Ext w15 (w15.alloc (.cells #[.bool m1.n, .slice m1.p m1.l m1.c, .bool m1.m, .slice m1.p2 m1.l2 m1.c2, .bool m2.n, .slice m2.p m2.l m2.c, .bool m2.m, .slice m2.p2 m2.l2 m2.c2, .bool m3.n, .slice m3.p m3.l m3.c, .bool m3.m, .slice m3.p2 m3.l2 m3.c2, .bool m4.n, .slice m4.p m4.l m4.c, .bool m4.m, .slice m4.p2 m4.l2 m4.c2] 26)) from (Ext.refl _).alloc _)
    have Fnb24 := Lib.hid (Blk.new w15 26 #[.bool m1.n, .slice m1.p m1.l m1.c, .bool m1.m, .slice m1.p2 m1.l2 m1.c2, .bool m2.n, .slice m2.p m2.l m2.c, .bool m2.m, .slice m2.p2 m2.l2 m2.c2, .bool m3.n, .slice m3.p m3.l m3.c, .bool m3.m, .slice m3.p2 m3.l2 m3.c2, .bool m4.n, .slice m4.p m4.l m4.c, .bool m4.m, .slice m4.p2 m4.l2 m4.c2])
    refine md_val (i := 25) (v := ?vm19) (listed' := #[true, true, true, true, true, true, true, true, true, true, true, true, true, true, true, true, true, true, true, true, true, true, true, true, true, true]) (by rfl) (by kernel_rfl) (by kernel_rfl) (by kernel_rfl) (by intro _ _ _ h; exact h) (by rfl) ?hm19 (E5.out.trans (E6.out.trans (E7.out.trans (E8.out.trans (E9.out.trans (E10.out.trans (E11.out.trans (E12.out.trans (E13.out.trans (E14.out.trans (E15.out.trans E16.out))))))))))) (by kernel_rfl) ?rm19
    case hm19 => (intro w hSw; (try dsimp only at hSw); go_simp <;> with_reducible rfl)
    (try simp only [Act.put, List.setIfInBounds_toArray, List.set_cons_zero, List.set_cons_succ])
    refine wpAnyH_done (by kernel_rfl) ?_ _
    have nbW_R0 : w15.heap.size ≠ R0 := Nat.ne_of_gt (Blk.lt (FR0.out.ext (E2.out.trans (E3.out.trans (E4.out.trans (E5.out.trans (E6.out.trans (E7.out.trans (E8.out.trans (E9.out.trans (E10.out.trans (E11.out.trans (E12.out.trans (E13.out.trans (E14.out.trans E15.out)))))))))))))))
    generalize (w15.alloc (.cells #[.bool m1.n, .slice m1.p m1.l m1.c, .bool m1.m, .slice m1.p2 m1.l2 m1.c2, .bool m2.n, .slice m2.p m2.l m2.c, .bool m2.m, .slice m2.p2 m2.l2 m2.c2, .bool m3.n, .slice m3.p m3.l m3.c, .bool m3.m, .slice m3.p2 m3.l2 m3.c2, .bool m4.n, .slice m4.p m4.l m4.c, .bool m4.m, .slice m4.p2 m4.l2 m4.c2] 26)) = wW at *
    generalize w15.heap.size = XW at *
    have FbW := Fnb24
    go_upto_region 4 with fail
    refine wp_region_held_drew (S := fun x => Own R0 wW x) (by kernel_rfl) (Own.of_ext (Ext.refl _).drew) (fun _ => ?_)
    have E17 := Lib.hid (show Ext wW wW.drew from (Ext.refl _).drew)
    refine md_val (i := 0) (v := ?vm20) (listed' := #[true, false, false, false, false, false, false, false, false, false, false, false, false, false, false, false, false, false, false, false, false, false, false, false, false, false, false, false, false, false, false, false]) (by rfl) (by kernel_rfl) (by kernel_rfl) (by kernel_rfl) (by intro _ _ _ h; exact h) (by rfl) ?hm20 (Own.of_ext E17.out) (by kernel_rfl) ?rm20
    case hm20 => (intro w hSw; (try dsimp only at hSw); go_simp <;> with_reducible rfl)
    (try simp only [Act.put, List.setIfInBounds_toArray, List.set_cons_zero, List.set_cons_succ])
    refine md_val (i := 1) (v := ?vm21) (listed' := #[true, true, false, false, false, false, false, false, false, false, false, false, false, false, false, false, false, false, false, false, false, false, false, false, false, false, false, false, false, false, false, false]) (by rfl) (by kernel_rfl) (by kernel_rfl) (by kernel_rfl) (by intro _ _ _ h; exact h) (by rfl) ?hm21 (Own.of_ext E17.out) (by kernel_rfl) ?rm21
    case hm21 => (intro w hSw; (try dsimp only at hSw); go_simp <;> with_reducible rfl)
    (try simp only [Act.put, List.setIfInBounds_toArray, List.set_cons_zero, List.set_cons_succ])
    refine md_val (i := 2) (v := ?vm22) (listed' := #[true, true, true, false, false, false, false, false, false, false, false, false, false, false, false, false, false, false, false, false, false, false, false, false, false, false, false, false, false, false, false, false]) (by rfl) (by kernel_rfl) (by kernel_rfl) (by kernel_rfl) (by intro _ _ _ h; exact h) (by rfl) ?hm22 (Own.of_ext E17.out) (by kernel_rfl) ?rm22
    case hm22 => (intro w hSw; (try dsimp only at hSw); go_simp <;> with_reducible rfl)
    (try simp only [Act.put, List.setIfInBounds_toArray, List.set_cons_zero, List.set_cons_succ])
    refine md_range (i := 3) (listed' := #[true, true, true, true, false, false, false, false, false, false, false, false, false, false, false, false, false, false, false, false, false, false, false, false, false, false, false, false, false, false, false, false]) (by rfl) (by kernel_rfl) (by kernel_rfl) (by kernel_rfl) _ _ (by rfl) w.heap.size 0 [.bool a0.n, .slice a0.p a0.l a0.c, .bool a0.m, .slice a0.p2 a0.l2 a0.c2] _ (by intro _ _ _ h; exact h) (by rfl) (by rfl) (fun x hx => (((Fbx0.out.ext (E2.out.trans (E3.out.trans (E4.out.trans (E5.out.trans (E6.out.trans (E7.out.trans (E8.out.trans (E9.out.trans (E10.out.trans (E11.out.trans (E12.out.trans (E13.out.trans (E14.out.trans (E15.out.trans E16.out)))))))))))))))).own hx nbx0_R0).part 0 4) Tryz.underlying26 (by rfl) (by kernel_rfl) (Own.of_ext E17.out) (by kernel_rfl) ?_
    (try simp only [Act.put, List.setIfInBounds_toArray, List.set_cons_zero, List.set_cons_succ])
    refine md_val (i := 4) (v := ?vm23) (listed' := #[true, true, true, true, true, false, false, false, false, false, false, false, false, false, false, false, false, false, false, false, false, false, false, false, false, false, false, false, false, false, false, false]) (by rfl) (by kernel_rfl) (by kernel_rfl) (by kernel_rfl) (by intro _ _ _ h; exact h) (by rfl) ?hm23 (Own.of_ext E17.out) (by kernel_rfl) ?rm23
    case hm23 => (intro w hSw; (try dsimp only at hSw); go_simp <;> with_reducible rfl)
    (try simp only [Act.put, List.setIfInBounds_toArray, List.set_cons_zero, List.set_cons_succ])
    refine md_val (i := 5) (v := ?vm24) (listed' := #[true, true, true, true, true, true, false, false, false, false, false, false, false, false, false, false, false, false, false, false, false, false, false, false, false, false, false, false, false, false, false, false]) (by rfl) (by kernel_rfl) (by kernel_rfl) (by kernel_rfl) (by intro _ _ _ h; exact h) (by rfl) ?hm24 (Own.of_ext E17.out) (by kernel_rfl) ?rm24
    case hm24 => (intro w hSw; (try dsimp only at hSw); go_simp <;> with_reducible rfl)
    (try simp only [Act.put, List.setIfInBounds_toArray, List.set_cons_zero, List.set_cons_succ])
    refine md_range (i := 6) (listed' := #[true, true, true, true, true, true, true, false, false, false, false, false, false, false, false, false, false, false, false, false, false, false, false, false, false, false, false, false, false, false, false, false]) (by rfl) (by kernel_rfl) (by kernel_rfl) (by kernel_rfl) _ _ (by rfl) w.heap.size 8 [.bool b0.n, .slice b0.p b0.l b0.c, .bool b0.m, .slice b0.p2 b0.l2 b0.c2] _ (by intro _ _ _ h; exact h) (by rfl) (by rfl) (fun x hx => (((Fbx0.out.ext (E2.out.trans (E3.out.trans (E4.out.trans (E5.out.trans (E6.out.trans (E7.out.trans (E8.out.trans (E9.out.trans (E10.out.trans (E11.out.trans (E12.out.trans (E13.out.trans (E14.out.trans (E15.out.trans E16.out)))))))))))))))).own hx nbx0_R0).part 8 4) Tryz.underlying26 (by rfl) (by kernel_rfl) (Own.of_ext E17.out) (by kernel_rfl) ?_
    (try simp only [Act.put, List.setIfInBounds_toArray, List.set_cons_zero, List.set_cons_succ])
    refine md_val (i := 7) (v := ?vm25) (listed' := #[true, true, true, true, true, true, true, true, false, false, false, false, false, false, false, false, false, false, false, false, false, false, false, false, false, false, false, false, false, false, false, false]) (by rfl) (by kernel_rfl) (by kernel_rfl) (by kernel_rfl) (by intro _ _ _ h; exact h) (by rfl) ?hm25 (Own.of_ext E17.out) (by kernel_rfl) ?rm25
    case hm25 => (intro w hSw; (try dsimp only at hSw); go_simp <;> with_reducible rfl)
    (try simp only [Act.put, List.setIfInBounds_toArray, List.set_cons_zero, List.set_cons_succ])
    refine md_val (i := 8) (v := ?vm26) (listed' := #[true, true, true, true, true, true, true, true, true, false, false, false, false, false, false, false, false, false, false, false, false, false, false, false, false, false, false, false, false, false, false, false]) (by rfl) (by kernel_rfl) (by kernel_rfl) (by kernel_rfl) (by intro _ _ _ h; exact h) (by rfl) ?hm26 (Own.of_ext E17.out) (by kernel_rfl) ?rm26
    case hm26 => (intro w hSw; (try dsimp only at hSw); go_simp <;> with_reducible rfl)
    (try simp only [Act.put, List.setIfInBounds_toArray, List.set_cons_zero, List.set_cons_succ])
    refine md_range (i := 9) (listed' := #[true, true, true, true, true, true, true, true, true, true, false, false, false, false, false, false, false, false, false, false, false, false, false, false, false, false, false, false, false, false, false, false]) (by rfl) (by kernel_rfl) (by kernel_rfl) (by kernel_rfl) _ _ (by rfl) w.heap.size 16 [.bool c0.n, .slice c0.p c0.l c0.c, .bool c0.m, .slice c0.p2 c0.l2 c0.c2] _ (by intro _ _ _ h; exact h) (by rfl) (by rfl) (fun x hx => (((Fbx0.out.ext (E2.out.trans (E3.out.trans (E4.out.trans (E5.out.trans (E6.out.trans (E7.out.trans (E8.out.trans (E9.out.trans (E10.out.trans (E11.out.trans (E12.out.trans (E13.out.trans (E14.out.trans (E15.out.trans E16.out)))))))))))))))).own hx nbx0_R0).part 16 4) Tryz.underlying26 (by rfl) (by kernel_rfl) (Own.of_ext E17.out) (by kernel_rfl) ?_
    (try simp only [Act.put, List.setIfInBounds_toArray, List.set_cons_zero, List.set_cons_succ])
    refine md_val (i := 10) (v := ?vm27) (listed' := #[true, true, true, true, true, true, true, true, true, true, true, false, false, false, false, false, false, false, false, false, false, false, false, false, false, false, false, false, false, false, false, false]) (by rfl) (by kernel_rfl) (by kernel_rfl) (by kernel_rfl) (by intro _ _ _ h; exact h) (by rfl) ?hm27 (Own.of_ext E17.out) (by kernel_rfl) ?rm27
    case hm27 => (intro w hSw; (try dsimp only at hSw); go_simp <;> with_reducible rfl)
    (try simp only [Act.put, List.setIfInBounds_toArray, List.set_cons_zero, List.set_cons_succ])
    refine md_val (i := 11) (v := ?vm28) (listed' := #[true, true, true, true, true, true, true, true, true, true, true, true, false, false, false, false, false, false, false, false, false, false, false, false, false, false, false, false, false, false, false, false]) (by rfl) (by kernel_rfl) (by kernel_rfl) (by kernel_rfl) (by intro _ _ _ h; exact h) (by rfl) ?hm28 (Own.of_ext E17.out) (by kernel_rfl) ?rm28
    case hm28 => (intro w hSw; (try dsimp only at hSw); go_simp <;> with_reducible rfl)
    (try simp only [Act.put, List.setIfInBounds_toArray, List.set_cons_zero, List.set_cons_succ])
    refine md_range (i := 12) (listed' := #[true, true, true, true, true, true, true, true, true, true, true, true, true, false, false, false, false, false, false, false, false, false, false, false, false, false, false, false, false, false, false, false]) (by rfl) (by kernel_rfl) (by kernel_rfl) (by kernel_rfl) _ _ (by rfl) w.heap.size 24 [.bool d0.n, .slice d0.p d0.l d0.c, .bool d0.m, .slice d0.p2 d0.l2 d0.c2] _ (by intro _ _ _ h; exact h) (by rfl) (by rfl) (fun x hx => (((Fbx0.out.ext (E2.out.trans (E3.out.trans (E4.out.trans (E5.out.trans (E6.out.trans (E7.out.trans (E8.out.trans (E9.out.trans (E10.out.trans (E11.out.trans (E12.out.trans (E13.out.trans (E14.out.trans (E15.out.trans E16.out)))))))))))))))).own hx nbx0_R0).part 24 4) Tryz.underlying26 (by rfl) (by kernel_rfl) (Own.of_ext E17.out) (by kernel_rfl) ?_
    (try simp only [Act.put, List.setIfInBounds_toArray, List.set_cons_zero, List.set_cons_succ])
    refine md_val (i := 15) (v := ?vm29) (listed' := #[true, true, true, true, true, true, true, true, true, true, true, true, true, false, false, true, false, false, false, false, false, false, false, false, false, false, false, false, false, false, false, false]) (by rfl) (by kernel_rfl) (by kernel_rfl) (by kernel_rfl) (by intro _ _ _ h; exact h) (by rfl) ?hm29 (Own.of_ext E17.out) (by kernel_rfl) ?rm29
    case hm29 => (intro w hSw; (try dsimp only at hSw); go_simp <;> with_reducible rfl)
    (try simp only [Act.put, List.setIfInBounds_toArray, List.set_cons_zero, List.set_cons_succ])
    refine md_val (i := 16) (v := ?vm30) (listed' := #[true, true, true, true, true, true, true, true, true, true, true, true, true, false, false, true, true, false, false, false, false, false, false, false, false, false, false, false, false, false, false, false]) (by rfl) (by kernel_rfl) (by kernel_rfl) (by kernel_rfl) (by intro _ _ _ h; exact h) (by rfl) ?hm30 (Own.of_ext E17.out) (by kernel_rfl) ?rm30
    case hm30 => (intro w hSw; (try dsimp only at hSw); go_simp <;> with_reducible rfl)
    (try simp only [Act.put, List.setIfInBounds_toArray, List.set_cons_zero, List.set_cons_succ])
    refine md_val (i := 17) (v := ?vm31) (listed' := #[true, true, true, true, true, true, true, true, true, true, true, true, true, false, false, true, true, true, false, false, false, false, false, false, false, false, false, false, false, false, false, false]) (by rfl) (by kernel_rfl) (by kernel_rfl) (by kernel_rfl) (by intro _ _ _ h; exact h) (by rfl) ?hm31 (Own.of_ext E17.out) (by kernel_rfl) ?rm31
    case hm31 => (intro w hSw; (try dsimp only at hSw); go_simp <;> with_reducible rfl)
    (try simp only [Act.put, List.setIfInBounds_toArray, List.set_cons_zero, List.set_cons_succ])
    refine md_range (i := 18) (listed' := #[true, true, true, true, true, true, true, true, true, true, true, true, true, false, false, true, true, true, true, false, false, false, false, false, false, false, false, false, false, false, false, false]) (by rfl) (by kernel_rfl) (by kernel_rfl) (by kernel_rfl) _ _ (by rfl) w.heap.size 4 [.bool a1.n, .slice a1.p a1.l a1.c, .bool a1.m, .slice a1.p2 a1.l2 a1.c2] _ (by intro _ _ _ h; exact h) (by rfl) (by rfl) (fun x hx => (((Fbx0.out.ext (E2.out.trans (E3.out.trans (E4.out.trans (E5.out.trans (E6.out.trans (E7.out.trans (E8.out.trans (E9.out.trans (E10.out.trans (E11.out.trans (E12.out.trans (E13.out.trans (E14.out.trans (E15.out.trans E16.out)))))))))))))))).own hx nbx0_R0).part 4 4) Tryz.underlying26 (by rfl) (by kernel_rfl) (Own.of_ext E17.out) (by kernel_rfl) ?_
    (try simp only [Act.put, List.setIfInBounds_toArray, List.set_cons_zero, List.set_cons_succ])
    refine md_val (i := 19) (v := ?vm32) (listed' := #[true, true, true, true, true, true, true, true, true, true, true, true, true, false, false, true, true, true, true, true, false, false, false, false, false, false, false, false, false, false, false, false]) (by rfl) (by kernel_rfl) (by kernel_rfl) (by kernel_rfl) (by intro _ _ _ h; exact h) (by rfl) ?hm32 (Own.of_ext E17.out) (by kernel_rfl) ?rm32
    case hm32 => (intro w hSw; (try dsimp only at hSw); go_simp <;> with_reducible rfl)
    (try simp only [Act.put, List.setIfInBounds_toArray, List.set_cons_zero, List.set_cons_succ])
    refine md_val (i := 20) (v := ?vm33) (listed' := #[true, true, true, true, true, true, true, true, true, true, true, true, true, false, false, true, true, true, true, true, true, false, false, false, false, false, false, false, false, false, false, false]) (by rfl) (by kernel_rfl) (by kernel_rfl) (by kernel_rfl) (by intro _ _ _ h; exact h) (by rfl) ?hm33 (Own.of_ext E17.out) (by kernel_rfl) ?rm33
    case hm33 => (intro w hSw; (try dsimp only at hSw); go_simp <;> with_reducible rfl)
    (try simp only [Act.put, List.setIfInBounds_toArray, List.set_cons_zero, List.set_cons_succ])
    refine md_range (i := 21) (listed' := #[true, true, true, true, true, true, true, true, true, true, true, true, true, false, false, true, true, true, true, true, true, true, false, false, false, false, false, false, false, false, false, false]) (by rfl) (by kernel_rfl) (by kernel_rfl) (by kernel_rfl) _ _ (by rfl) w.heap.size 12 [.bool b1.n, .slice b1.p b1.l b1.c, .bool b1.m, .slice b1.p2 b1.l2 b1.c2] _ (by intro _ _ _ h; exact h) (by rfl) (by rfl) (fun x hx => (((Fbx0.out.ext (E2.out.trans (E3.out.trans (E4.out.trans (E5.out.trans (E6.out.trans (E7.out.trans (E8.out.trans (E9.out.trans (E10.out.trans (E11.out.trans (E12.out.trans (E13.out.trans (E14.out.trans (E15.out.trans E16.out)))))))))))))))).own hx nbx0_R0).part 12 4) Tryz.underlying26 (by rfl) (by kernel_rfl) (Own.of_ext E17.out) (by kernel_rfl) ?_
    (try simp only [Act.put, List.setIfInBounds_toArray, List.set_cons_zero, List.set_cons_succ])
    refine md_val (i := 22) (v := ?vm34) (listed' := #[true, true, true, true, true, true, true, true, true, true, true, true, true, false, false, true, true, true, true, true, true, true, true, false, false, false, false, false, false, false, false, false]) (by rfl) (by kernel_rfl) (by kernel_rfl) (by kernel_rfl) (by intro _ _ _ h; exact h) (by rfl) ?hm34 (Own.of_ext E17.out) (by kernel_rfl) ?rm34
    case hm34 => (intro w hSw; (try dsimp only at hSw); go_simp <;> with_reducible rfl)
    (try simp only [Act.put, List.setIfInBounds_toArray, List.set_cons_zero, List.set_cons_succ])
    refine md_val (i := 23) (v := ?vm35) (listed' := #[true, true, true, true, true, true, true, true, true, true, true, true, true, false, false, true, true, true, true, true, true, true, true, true, false, false, false, false, false, false, false, false]) (by rfl) (by kernel_rfl) (by kernel_rfl) (by kernel_rfl) (by intro _ _ _ h; exact h) (by rfl) ?hm35 (Own.of_ext E17.out) (by kernel_rfl) ?rm35
    case hm35 => (intro w hSw; (try dsimp only at hSw); go_simp <;> with_reducible rfl)
    (try simp only [Act.put, List.setIfInBounds_toArray, List.set_cons_zero, List.set_cons_succ])
    refine md_range (i := 24) (listed' := #[true, true, true, true, true, true, true, true, true, true, true, true, true, false, false, true, true, true, true, true, true, true, true, true, true, false, false, false, false, false, false, false]) (by rfl) (by kernel_rfl) (by kernel_rfl) (by kernel_rfl) _ _ (by rfl) w.heap.size 20 [.bool c1.n, .slice c1.p c1.l c1.c, .bool c1.m, .slice c1.p2 c1.l2 c1.c2] _ (by intro _ _ _ h; exact h) (by rfl) (by rfl) (fun x hx => (((Fbx0.out.ext (E2.out.trans (E3.out.trans (E4.out.trans (E5.out.trans (E6.out.trans (E7.out.trans (E8.out.trans (E9.out.trans (E10.out.trans (E11.out.trans (E12.out.trans (E13.out.trans (E14.out.trans (E15.out.trans E16.out)))))))))))))))).own hx nbx0_R0).part 20 4) Tryz.underlying26 (by rfl) (by kernel_rfl) (Own.of_ext E17.out) (by kernel_rfl) ?_
    (try simp only [Act.put, List.setIfInBounds_toArray, List.set_cons_zero, List.set_cons_succ])
    refine md_val (i := 25) (v := ?vm36) (listed' := #[true, true, true, true, true, true, true, true, true, true, true, true, true, false, false, true, true, true, true, true, true, true, true, true, true, true, false, false, false, false, false, false]) (by rfl) (by kernel_rfl) (by kernel_rfl) (by kernel_rfl) (by intro _ _ _ h; exact h) (by rfl) ?hm36 (Own.of_ext E17.out) (by kernel_rfl) ?rm36
    case hm36 => (intro w hSw; (try dsimp only at hSw); go_simp <;> with_reducible rfl)
    (try simp only [Act.put, List.setIfInBounds_toArray, List.set_cons_zero, List.set_cons_succ])
    refine md_val (i := 26) (v := ?vm37) (listed' := #[true, true, true, true, true, true, true, true, true, true, true, true, true, false, false, true, true, true, true, true, true, true, true, true, true, true, true, false, false, false, false, false]) (by rfl) (by kernel_rfl) (by kernel_rfl) (by kernel_rfl) (by intro _ _ _ h; exact h) (by rfl) ?hm37 (Own.of_ext E17.out) (by kernel_rfl) ?rm37
    case hm37 => (intro w hSw; (try dsimp only at hSw); go_simp <;> with_reducible rfl)
    (try simp only [Act.put, List.setIfInBounds_toArray, List.set_cons_zero, List.set_cons_succ])
    refine md_range (i := 27) (listed' := #[true, true, true, true, true, true, true, true, true, true, true, true, true, false, false, true, true, true, true, true, true, true, true, true, true, true, true, true, false, false, false, false]) (by rfl) (by kernel_rfl) (by kernel_rfl) (by kernel_rfl) _ _ (by rfl) w.heap.size 28 [.bool d1.n, .slice d1.p d1.l d1.c, .bool d1.m, .slice d1.p2 d1.l2 d1.c2] _ (by intro _ _ _ h; exact h) (by rfl) (by rfl) (fun x hx => (((Fbx0.out.ext (E2.out.trans (E3.out.trans (E4.out.trans (E5.out.trans (E6.out.trans (E7.out.trans (E8.out.trans (E9.out.trans (E10.out.trans (E11.out.trans (E12.out.trans (E13.out.trans (E14.out.trans (E15.out.trans E16.out)))))))))))))))).own hx nbx0_R0).part 28 4) Tryz.underlying26 (by rfl) (by kernel_rfl) (Own.of_ext E17.out) (by kernel_rfl) ?_
    (try simp only [Act.put, List.setIfInBounds_toArray, List.set_cons_zero, List.set_cons_succ])
    refine md_two (i := 13) (j := 28) (listed' := #[true, true, true, true, true, true, true, true, true, true, true, true, true, true, false, true, true, true, true, true, true, true, true, true, true, true, true, true, false, false, false, false]) (lj := #[true, true, true, true, true, true, true, true, true, true, true, true, true, false, false, true, true, true, true, true, true, true, true, true, true, true, true, true, true, false, false, false]) (v := .slice (some ⟨wW.drew.heap.size, 0, none⟩) 4 4) (wi := (wW.drew.alloc (.cells #[.bool a0.n, .slice a0.p a0.l a0.c, .bool a0.m, .slice a0.p2 a0.l2 a0.c2, .bool b0.n, .slice b0.p b0.l b0.c, .bool b0.m, .slice b0.p2 b0.l2 b0.c2, .bool c0.n, .slice c0.p c0.l c0.c, .bool c0.m, .slice c0.p2 c0.l2 c0.c2, .bool d0.n, .slice d0.p d0.l d0.c, .bool d0.m, .slice d0.p2 d0.l2 d0.c2] 26))) (u := .slice (some ⟨wW.drew.heap.size, 0, none⟩) 4 4) (wj := (wW.drew.alloc (.cells #[.bool a1.n, .slice a1.p a1.l a1.c, .bool a1.m, .slice a1.p2 a1.l2 a1.c2, .bool b1.n, .slice b1.p b1.l b1.c, .bool b1.m, .slice b1.p2 b1.l2 b1.c2, .bool c1.n, .slice c1.p c1.l c1.c, .bool c1.m, .slice c1.p2 c1.l2 c1.c2, .bool d1.n, .slice d1.p d1.l d1.c, .bool d1.m, .slice d1.p2 d1.l2 d1.c2] 26))) (by rfl) (by rfl) (by kernel_rfl) (by rfl) (by go_simp) (Own.of_ext (E17.out.alloc _)) (by kernel_rfl) (by rfl) (by go_simp) (Own.of_ext (E17.out.alloc _)) (by kernel_rfl) ?_ ?_
    · (try simp only [Act.put, List.setIfInBounds_toArray, List.set_cons_zero, List.set_cons_succ])
      have E18 := Lib.hid (show Ext wW.drew (wW.drew.alloc (.cells #[.bool a0.n, .slice a0.p a0.l a0.c, .bool a0.m, .slice a0.p2 a0.l2 a0.c2, .bool b0.n, .slice b0.p b0.l b0.c, .bool b0.m, .slice b0.p2 b0.l2 b0.c2, .bool c0.n, .slice c0.p c0.l c0.c, .bool c0.m, .slice c0.p2 c0.l2 c0.c2, .bool d0.n, .slice d0.p d0.l d0.c, .bool d0.m, .slice d0.p2 d0.l2 d0.c2] 26)) from (Ext.refl _).alloc _)
      have Fnb13 := Lib.hid (Blk.new wW.drew 26 #[.bool a0.n, .slice a0.p a0.l a0.c, .bool a0.m, .slice a0.p2 a0.l2 a0.c2, .bool b0.n, .slice b0.p b0.l b0.c, .bool b0.m, .slice b0.p2 b0.l2 b0.c2, .bool c0.n, .slice c0.p c0.l c0.c, .bool c0.m, .slice c0.p2 c0.l2 c0.c2, .bool d0.n, .slice d0.p d0.l d0.c, .bool d0.m, .slice d0.p2 d0.l2 d0.c2])
      refine md_call_or (i := 14) (j := 28) (listed' := #[true, true, true, true, true, true, true, true, true, true, true, true, true, true, true, true, true, true, true, true, true, true, true, true, true, true, true, true, false, false, false, false]) (lj := #[true, true, true, true, true, true, true, true, true, true, true, true, true, true, false, true, true, true, true, true, true, true, true, true, true, true, true, true, true, false, false, false]) (u := .slice (some ⟨(wW.drew.alloc (.cells #[.bool a0.n, .slice a0.p a0.l a0.c, .bool a0.m, .slice a0.p2 a0.l2 a0.c2, .bool b0.n, .slice b0.p b0.l b0.c, .bool b0.m, .slice b0.p2 b0.l2 b0.c2, .bool c0.n, .slice c0.p c0.l c0.c, .bool c0.m, .slice c0.p2 c0.l2 c0.c2, .bool d0.n, .slice d0.p d0.l d0.c, .bool d0.m, .slice d0.p2 d0.l2 d0.c2] 26)).heap.size, 0, none⟩) 4 4) (wj := ((wW.drew.alloc (.cells #[.bool a0.n, .slice a0.p a0.l a0.c, .bool a0.m, .slice a0.p2 a0.l2 a0.c2, .bool b0.n, .slice b0.p b0.l b0.c, .bool b0.m, .slice b0.p2 b0.l2 b0.c2, .bool c0.n, .slice c0.p c0.l c0.c, .bool c0.m, .slice c0.p2 c0.l2 c0.c2, .bool d0.n, .slice d0.p d0.l d0.c, .bool d0.m, .slice d0.p2 d0.l2 d0.c2] 26)).alloc (.cells #[.bool a1.n, .slice a1.p a1.l a1.c, .bool a1.m, .slice a1.p2 a1.l2 a1.c2, .bool b1.n, .slice b1.p b1.l b1.c, .bool b1.m, .slice b1.p2 b1.l2 b1.c2, .bool c1.n, .slice c1.p c1.l c1.c, .bool c1.m, .slice c1.p2 c1.l2 c1.c2, .bool d1.n, .slice d1.p d1.l d1.c, .bool d1.m, .slice d1.p2 d1.l2 d1.c2] 26))) (by rfl) (by rfl) (by kernel_rfl) (by rfl) (by go_simp) (rweighted_any (4 * L + 8) _ _ [((((1 : Int) : Rat) - S) * ((((1 : Int) : Rat) - S) * (((1 : Int) : Rat) - S))), (((3 : Int) : Rat) * (S * ((((1 : Int) : Rat) - S) * (((1 : Int) : Rat) - S)))), (((3 : Int) : Rat) * ((S * S) * (((1 : Int) : Rat) - S))), (S * (S * S))] [A0, B0, C0, D0] _ (RatsV.of_blk (rs := [m1, m2, m3, m4]) (FbW.out.ext (E17.out.trans E18.out)) rfl (in4 ((Fm1.out.ext (E8.out.trans (E9.out.trans (E10.out.trans (E11.out.trans (E12.out.trans (E13.out.trans (E14.out.trans (E15.out.trans (E16.out.trans (E17.out.trans E18.out))))))))))).isIn (by omega)) ((Fm2.out.ext (E11.out.trans (E12.out.trans (E13.out.trans (E14.out.trans (E15.out.trans (E16.out.trans (E17.out.trans E18.out)))))))).isIn (by omega)) ((Fm3.out.ext (E14.out.trans (E15.out.trans (E16.out.trans (E17.out.trans E18.out))))).isIn (by omega)) ((Fm4.out.ext (E16.out.trans (E17.out.trans E18.out))).isIn (by omega)))) (RatsV.of_blk (rs := [a0, b0, c0, d0]) Fnb13.out rfl (in4 ((Fa0.out.ext (E1.out.trans (E2.out.trans (E3.out.trans (E4.out.trans (E5.out.trans (E6.out.trans (E7.out.trans (E8.out.trans (E9.out.trans (E10.out.trans (E11.out.trans (E12.out.trans (E13.out.trans (E14.out.trans (E15.out.trans (E16.out.trans (E17.out.trans E18.out)))))))))))))))))).mono (by omega)) ((Fb0.out.ext (E1.out.trans (E2.out.trans (E3.out.trans (E4.out.trans (E5.out.trans (E6.out.trans (E7.out.trans (E8.out.trans (E9.out.trans (E10.out.trans (E11.out.trans (E12.out.trans (E13.out.trans (E14.out.trans (E15.out.trans (E16.out.trans (E17.out.trans E18.out)))))))))))))))))).mono (by omega)) ((Fc0.out.ext (E1.out.trans (E2.out.trans (E3.out.trans (E4.out.trans (E5.out.trans (E6.out.trans (E7.out.trans (E8.out.trans (E9.out.trans (E10.out.trans (E11.out.trans (E12.out.trans (E13.out.trans (E14.out.trans (E15.out.trans (E16.out.trans (E17.out.trans E18.out)))))))))))))))))).mono (by omega)) ((Fd0.out.ext (E1.out.trans (E2.out.trans (E3.out.trans (E4.out.trans (E5.out.trans (E6.out.trans (E7.out.trans (E8.out.trans (E9.out.trans (E10.out.trans (E11.out.trans (E12.out.trans (E13.out.trans (E14.out.trans (E15.out.trans (E16.out.trans (E17.out.trans E18.out)))))))))))))))))).mono (by omega)))) rfl (by simp) (by omega) (by omega)) (by kernel_rfl) (by rfl) (by go_simp) (Own.of_ext ((E17.out.trans E18.out).alloc _)) (by kernel_rfl) ?_ ?_
      · rintro e w19 ⟨u0, rfl, hc, hx⟩
        have E19 := Lib.hid (show Ext (wW.drew.alloc (.cells #[.bool a0.n, .slice a0.p a0.l a0.c, .bool a0.m, .slice a0.p2 a0.l2 a0.c2, .bool b0.n, .slice b0.p b0.l b0.c, .bool b0.m, .slice b0.p2 b0.l2 b0.c2, .bool c0.n, .slice c0.p c0.l c0.c, .bool c0.m, .slice c0.p2 c0.l2 c0.c2, .bool d0.n, .slice d0.p d0.l d0.c, .bool d0.m, .slice d0.p2 d0.l2 d0.c2] 26)) w19 from hx)
        rw [ev4] at hc
        have Fu0 := Lib.hid hc
        clear hc
        clear hx
        refine ⟨_, rfl, (Own.of_ext (E17.out.trans (E18.out.trans E19.out))), ?_⟩
        (try simp only [Act.put, List.setIfInBounds_toArray, List.set_cons_zero, List.set_cons_succ])
        refine md_one (i := 28) (listed' := #[true, true, true, true, true, true, true, true, true, true, true, true, true, true, true, true, true, true, true, true, true, true, true, true, true, true, true, true, true, false, false, false]) (v := .slice (some ⟨w19.heap.size, 0, none⟩) 4 4) (w' := (w19.alloc (.cells #[.bool a1.n, .slice a1.p a1.l a1.c, .bool a1.m, .slice a1.p2 a1.l2 a1.c2, .bool b1.n, .slice b1.p b1.l b1.c, .bool b1.m, .slice b1.p2 b1.l2 b1.c2, .bool c1.n, .slice c1.p c1.l c1.c, .bool c1.m, .slice c1.p2 c1.l2 c1.c2, .bool d1.n, .slice d1.p d1.l d1.c, .bool d1.m, .slice d1.p2 d1.l2 d1.c2] 26))) (by rfl) (by kernel_rfl) (by rfl) (by go_simp) (Own.of_ext ((E17.out.trans (E18.out.trans E19.out)).alloc _)) (by kernel_rfl) ?_
        (try simp only [Act.put, List.setIfInBounds_toArray, List.set_cons_zero, List.set_cons_succ])
        have E20 := Lib.hid (show Ext w19 (w19.alloc (.cells #[.bool a1.n, .slice a1.p a1.l a1.c, .bool a1.m, .slice a1.p2 a1.l2 a1.c2, .bool b1.n, .slice b1.p b1.l b1.c, .bool b1.m, .slice b1.p2 b1.l2 b1.c2, .bool c1.n, .slice c1.p c1.l c1.c, .bool c1.m, .slice c1.p2 c1.l2 c1.c2, .bool d1.n, .slice d1.p d1.l d1.c, .bool d1.m, .slice d1.p2 d1.l2 d1.c2] 26)) from (Ext.refl _).alloc _)
        have Fnb28 := Lib.hid (Blk.new w19 26 #[.bool a1.n, .slice a1.p a1.l a1.c, .bool a1.m, .slice a1.p2 a1.l2 a1.c2, .bool b1.n, .slice b1.p b1.l b1.c, .bool b1.m, .slice b1.p2 b1.l2 b1.c2, .bool c1.n, .slice c1.p c1.l c1.c, .bool c1.m, .slice c1.p2 c1.l2 c1.c2, .bool d1.n, .slice d1.p d1.l d1.c, .bool d1.m, .slice d1.p2 d1.l2 d1.c2])
        refine md_call (i := 29) (listed' := #[true, true, true, true, true, true, true, true, true, true, true, true, true, true, true, true, true, true, true, true, true, true, true, true, true, true, true, true, true, true, false, false]) (by rfl) (by kernel_rfl) (by rfl) (by go_simp) (rweighted_any (4 * L + 8) _ _ [((((1 : Int) : Rat) - S) * ((((1 : Int) : Rat) - S) * (((1 : Int) : Rat) - S))), (((3 : Int) : Rat) * (S * ((((1 : Int) : Rat) - S) * (((1 : Int) : Rat) - S)))), (((3 : Int) : Rat) * ((S * S) * (((1 : Int) : Rat) - S))), (S * (S * S))] [A1, B1, C1, D1] _ (RatsV.of_blk (rs := [m1, m2, m3, m4]) (FbW.out.ext (E17.out.trans (E18.out.trans (E19.out.trans E20.out)))) rfl (in4 ((Fm1.out.ext (E8.out.trans (E9.out.trans (E10.out.trans (E11.out.trans (E12.out.trans (E13.out.trans (E14.out.trans (E15.out.trans (E16.out.trans (E17.out.trans (E18.out.trans (E19.out.trans E20.out))))))))))))).isIn (by omega)) ((Fm2.out.ext (E11.out.trans (E12.out.trans (E13.out.trans (E14.out.trans (E15.out.trans (E16.out.trans (E17.out.trans (E18.out.trans (E19.out.trans E20.out)))))))))).isIn (by omega)) ((Fm3.out.ext (E14.out.trans (E15.out.trans (E16.out.trans (E17.out.trans (E18.out.trans (E19.out.trans E20.out))))))).isIn (by omega)) ((Fm4.out.ext (E16.out.trans (E17.out.trans (E18.out.trans (E19.out.trans E20.out))))).isIn (by omega)))) (RatsV.of_blk (rs := [a1, b1, c1, d1]) Fnb28.out rfl (in4 ((Fa1.out.ext (E1.out.trans (E2.out.trans (E3.out.trans (E4.out.trans (E5.out.trans (E6.out.trans (E7.out.trans (E8.out.trans (E9.out.trans (E10.out.trans (E11.out.trans (E12.out.trans (E13.out.trans (E14.out.trans (E15.out.trans (E16.out.trans (E17.out.trans (E18.out.trans (E19.out.trans E20.out)))))))))))))))))))).mono (by omega)) ((Fb1.out.ext (E1.out.trans (E2.out.trans (E3.out.trans (E4.out.trans (E5.out.trans (E6.out.trans (E7.out.trans (E8.out.trans (E9.out.trans (E10.out.trans (E11.out.trans (E12.out.trans (E13.out.trans (E14.out.trans (E15.out.trans (E16.out.trans (E17.out.trans (E18.out.trans (E19.out.trans E20.out)))))))))))))))))))).mono (by omega)) ((Fc1.out.ext (E1.out.trans (E2.out.trans (E3.out.trans (E4.out.trans (E5.out.trans (E6.out.trans (E7.out.trans (E8.out.trans (E9.out.trans (E10.out.trans (E11.out.trans (E12.out.trans (E13.out.trans (E14.out.trans (E15.out.trans (E16.out.trans (E17.out.trans (E18.out.trans (E19.out.trans E20.out)))))))))))))))))))).mono (by omega)) ((Fd1.out.ext (E1.out.trans (E2.out.trans (E3.out.trans (E4.out.trans (E5.out.trans (E6.out.trans (E7.out.trans (E8.out.trans (E9.out.trans (E10.out.trans (E11.out.trans (E12.out.trans (E13.out.trans (E14.out.trans (E15.out.trans (E16.out.trans (E17.out.trans (E18.out.trans (E19.out.trans E20.out)))))))))))))))))))).mono (by omega)))) rfl (by simp) (by omega) (by omega)) (by kernel_rfl) ?_
        rintro e w21 ⟨u1, rfl, hc, hx⟩
        have E21 := Lib.hid (show Ext (w19.alloc (.cells #[.bool a1.n, .slice a1.p a1.l a1.c, .bool a1.m, .slice a1.p2 a1.l2 a1.c2, .bool b1.n, .slice b1.p b1.l b1.c, .bool b1.m, .slice b1.p2 b1.l2 b1.c2, .bool c1.n, .slice c1.p c1.l c1.c, .bool c1.m, .slice c1.p2 c1.l2 c1.c2, .bool d1.n, .slice d1.p d1.l d1.c, .bool d1.m, .slice d1.p2 d1.l2 d1.c2] 26)) w21 from hx)
        rw [ev4] at hc
        have Fu1 := Lib.hid hc
        clear hc
        clear hx
        refine ⟨_, rfl, (Own.of_ext (E17.out.trans (E18.out.trans (E19.out.trans (E20.out.trans E21.out))))), ?_⟩
        (try simp only [Act.put, List.setIfInBounds_toArray, List.set_cons_zero, List.set_cons_succ])
        refine md_val (i := 30) (v := ?vm38) (listed' := #[true, true, true, true, true, true, true, true, true, true, true, true, true, true, true, true, true, true, true, true, true, true, true, true, true, true, true, true, true, true, true, false]) (by rfl) (by kernel_rfl) (by kernel_rfl) (by kernel_rfl) (by intro _ _ _ h; exact h) (by rfl) ?hm38 (Own.of_ext (E17.out.trans (E18.out.trans (E19.out.trans (E20.out.trans E21.out))))) (by kernel_rfl) ?rm38
        case hm38 => (intro w hSw; (try dsimp only at hSw); go_simp <;> with_reducible rfl)
        (try simp only [Act.put, List.setIfInBounds_toArray, List.set_cons_zero, List.set_cons_succ])
        have o1 := Own.setCells w21 R0 #[.bool u0.n, .slice u0.p u0.l u0.c, .bool u0.m, .slice u0.p2 u0.l2 u0.c2, .bool u1.n, .slice u1.p u1.l u1.c, .bool u1.m, .slice u1.p2 u1.l2 u1.c2]
        have kb1 := (FR0.out.ext (E2.out.trans (E3.out.trans (E4.out.trans (E5.out.trans (E6.out.trans (E7.out.trans (E8.out.trans (E9.out.trans (E10.out.trans (E11.out.trans (E12.out.trans (E13.out.trans (E14.out.trans (E15.out.trans (E16.out.trans (E17.out.trans (E18.out.trans (E19.out.trans (E20.out.trans E21.out))))))))))))))))))))
        have hs1 : Own R0 wW (w21.setCells R0 0 (#[.bool u0.n, .slice u0.p u0.l u0.c, .bool u0.m, .slice u0.p2 u0.l2 u0.c2, .bool u1.n, .slice u1.p u1.l u1.c, .bool u1.m, .slice u1.p2 u1.l2 u1.c2] : Array Value).toList) := (Own.then_ext' (E17.out.trans (E18.out.trans (E19.out.trans (E20.out.trans E21.out)))) o1)
        refine md_store (i := 31) (listed' := #[true, true, true, true, true, true, true, true, true, true, true, true, true, true, true, true, true, true, true, true, true, true, true, true, true, true, true, true, true, true, true, true]) (by rfl) (by kernel_rfl) (by rfl) _ _ _ (by rfl) R0 _ #[.bool false, .slice none 0 0, .bool false, .slice none 0 0, .bool false, .slice none 0 0, .bool false, .slice none 0 0] #[.bool u0.n, .slice u0.p u0.l u0.c, .bool u0.m, .slice u0.p2 u0.l2 u0.c2, .bool u1.n, .slice u1.p u1.l u1.c, .bool u1.m, .slice u1.p2 u1.l2 u1.c2] (by rfl) (by rfl) kb1 (by rw [show (#[.bool u0.n, .slice u0.p u0.l u0.c, .bool u0.m, .slice u0.p2 u0.l2 u0.c2, .bool u1.n, .slice u1.p u1.l u1.c, .bool u1.m, .slice u1.p2 u1.l2 u1.c2] : Array Value).size = 8 from rfl]; rfl) (by rw [show (#[.bool u0.n, .slice u0.p u0.l u0.c, .bool u0.m, .slice u0.p2 u0.l2 u0.c2, .bool u1.n, .slice u1.p u1.l u1.c, .bool u1.m, .slice u1.p2 u1.l2 u1.c2] : Array Value).size = 8 from rfl]; kernel_rfl) (all_oneCell_toArray (by simp [Value.oneCell'])) hs1 (by kernel_rfl) ?_
        (try simp only [Act.put, List.setIfInBounds_toArray, List.set_cons_zero, List.set_cons_succ])
        have kc1 := kb1.setCells #[.bool u0.n, .slice u0.p u0.l u0.c, .bool u0.m, .slice u0.p2 u0.l2 u0.c2, .bool u1.n, .slice u1.p u1.l u1.c, .bool u1.m, .slice u1.p2 u1.l2 u1.c2] (by rw [show (#[.bool u0.n, .slice u0.p u0.l u0.c, .bool u0.m, .slice u0.p2 u0.l2 u0.c2, .bool u1.n, .slice u1.p u1.l u1.c, .bool u1.m, .slice u1.p2 u1.l2 u1.c2] : Array Value).size = 8 from rfl]; rfl)
        refine wpAnyH_done (by kernel_rfl) ?_ _
        go_wp2_with fail
        refine bodyPost_ret (v := .agg #[.bool u0.n, .slice u0.p u0.l u0.c, .bool u0.m, .slice u0.p2 u0.l2 u0.c2, .bool u1.n, .slice u1.p u1.l u1.c, .bool u1.m, .slice u1.p2 u1.l2 u1.c2]) ?_ rfl ⟨_, rfl, ⟨u0, u1, rfl, ((Fu0.out.ext (E20.out.trans E21.out)).own kb1 (noU_of _ (by simp)) o1), (Fu1.out.own kb1 (noU_of _ (by simp)) o1)⟩, (o1.ext (E1.out.trans (E2.out.trans (E3.out.trans (E4.out.trans (E5.out.trans (E6.out.trans (E7.out.trans (E8.out.trans (E9.out.trans (E10.out.trans (E11.out.trans (E12.out.trans (E13.out.trans (E14.out.trans (E15.out.trans (E16.out.trans (E17.out.trans (E18.out.trans (E19.out.trans (E20.out.trans E21.out)))))))))))))))))))) gR0)⟩
        exact results_cell1 rfl rfl (kc1.loadVar rfl rfl (by rfl))
      · (try simp only [Act.put, List.setIfInBounds_toArray, List.set_cons_zero, List.set_cons_succ])
        have E19 := Lib.hid (show Ext (wW.drew.alloc (.cells #[.bool a0.n, .slice a0.p a0.l a0.c, .bool a0.m, .slice a0.p2 a0.l2 a0.c2, .bool b0.n, .slice b0.p b0.l b0.c, .bool b0.m, .slice b0.p2 b0.l2 b0.c2, .bool c0.n, .slice c0.p c0.l c0.c, .bool c0.m, .slice c0.p2 c0.l2 c0.c2, .bool d0.n, .slice d0.p d0.l d0.c, .bool d0.m, .slice d0.p2 d0.l2 d0.c2] 26)) ((wW.drew.alloc (.cells #[.bool a0.n, .slice a0.p a0.l a0.c, .bool a0.m, .slice a0.p2 a0.l2 a0.c2, .bool b0.n, .slice b0.p b0.l b0.c, .bool b0.m, .slice b0.p2 b0.l2 b0.c2, .bool c0.n, .slice c0.p c0.l c0.c, .bool c0.m, .slice c0.p2 c0.l2 c0.c2, .bool d0.n, .slice d0.p d0.l d0.c, .bool d0.m, .slice d0.p2 d0.l2 d0.c2] 26)).alloc (.cells #[.bool a1.n, .slice a1.p a1.l a1.c, .bool a1.m, .slice a1.p2 a1.l2 a1.c2, .bool b1.n, .slice b1.p b1.l b1.c, .bool b1.m, .slice b1.p2 b1.l2 b1.c2, .bool c1.n, .slice c1.p c1.l c1.c, .bool c1.m, .slice c1.p2 c1.l2 c1.c2, .bool d1.n, .slice d1.p d1.l d1.c, .bool d1.m, .slice d1.p2 d1.l2 d1.c2] 26)) from (Ext.refl _).alloc _)
        have Fnb28 := Lib.hid (Blk.new (wW.drew.alloc (.cells #[.bool a0.n, .slice a0.p a0.l a0.c, .bool a0.m, .slice a0.p2 a0.l2 a0.c2, .bool b0.n, .slice b0.p b0.l b0.c, .bool b0.m, .slice b0.p2 b0.l2 b0.c2, .bool c0.n, .slice c0.p c0.l c0.c, .bool c0.m, .slice c0.p2 c0.l2 c0.c2, .bool d0.n, .slice d0.p d0.l d0.c, .bool d0.m, .slice d0.p2 d0.l2 d0.c2] 26)) 26 #[.bool a1.n, .slice a1.p a1.l a1.c, .bool a1.m, .slice a1.p2 a1.l2 a1.c2, .bool b1.n, .slice b1.p b1.l b1.c, .bool b1.m, .slice b1.p2 b1.l2 b1.c2, .bool c1.n, .slice c1.p c1.l c1.c, .bool c1.m, .slice c1.p2 c1.l2 c1.c2, .bool d1.n, .slice d1.p d1.l d1.c, .bool d1.m, .slice d1.p2 d1.l2 d1.c2])
        refine md_call (i := 14) (listed' := #[true, true, true, true, true, true, true, true, true, true, true, true, true, true, true, true, true, true, true, true, true, true, true, true, true, true, true, true, true, false, false, false]) (by rfl) (by kernel_rfl) (by rfl) (by go_simp) (rweighted_any (4 * L + 8) _ _ [((((1 : Int) : Rat) - S) * ((((1 : Int) : Rat) - S) * (((1 : Int) : Rat) - S))), (((3 : Int) : Rat) * (S * ((((1 : Int) : Rat) - S) * (((1 : Int) : Rat) - S)))), (((3 : Int) : Rat) * ((S * S) * (((1 : Int) : Rat) - S))), (S * (S * S))] [A0, B0, C0, D0] _ (RatsV.of_blk (rs := [m1, m2, m3, m4]) (FbW.out.ext (E17.out.trans (E18.out.trans E19.out))) rfl (in4 ((Fm1.out.ext (E8.out.trans (E9.out.trans (E10.out.trans (E11.out.trans (E12.out.trans (E13.out.trans (E14.out.trans (E15.out.trans (E16.out.trans (E17.out.trans (E18.out.trans E19.out)))))))))))).isIn (by omega)) ((Fm2.out.ext (E11.out.trans (E12.out.trans (E13.out.trans (E14.out.trans (E15.out.trans (E16.out.trans (E17.out.trans (E18.out.trans E19.out))))))))).isIn (by omega)) ((Fm3.out.ext (E14.out.trans (E15.out.trans (E16.out.trans (E17.out.trans (E18.out.trans E19.out)))))).isIn (by omega)) ((Fm4.out.ext (E16.out.trans (E17.out.trans (E18.out.trans E19.out)))).isIn (by omega)))) (RatsV.of_blk (rs := [a0, b0, c0, d0]) (Fnb13.out.ext E19.out) rfl (in4 ((Fa0.out.ext (E1.out.trans (E2.out.trans (E3.out.trans (E4.out.trans (E5.out.trans (E6.out.trans (E7.out.trans (E8.out.trans (E9.out.trans (E10.out.trans (E11.out.trans (E12.out.trans (E13.out.trans (E14.out.trans (E15.out.trans (E16.out.trans (E17.out.trans (E18.out.trans E19.out))))))))))))))))))).mono (by omega)) ((Fb0.out.ext (E1.out.trans (E2.out.trans (E3.out.trans (E4.out.trans (E5.out.trans (E6.out.trans (E7.out.trans (E8.out.trans (E9.out.trans (E10.out.trans (E11.out.trans (E12.out.trans (E13.out.trans (E14.out.trans (E15.out.trans (E16.out.trans (E17.out.trans (E18.out.trans E19.out))))))))))))))))))).mono (by omega)) ((Fc0.out.ext (E1.out.trans (E2.out.trans (E3.out.trans (E4.out.trans (E5.out.trans (E6.out.trans (E7.out.trans (E8.out.trans (E9.out.trans (E10.out.trans (E11.out.trans (E12.out.trans (E13.out.trans (E14.out.trans (E15.out.trans (E16.out.trans (E17.out.trans (E18.out.trans E19.out))))))))))))))))))).mono (by omega)) ((Fd0.out.ext (E1.out.trans (E2.out.trans (E3.out.trans (E4.out.trans (E5.out.trans (E6.out.trans (E7.out.trans (E8.out.trans (E9.out.trans (E10.out.trans (E11.out.trans (E12.out.trans (E13.out.trans (E14.out.trans (E15.out.trans (E16.out.trans (E17.out.trans (E18.out.trans E19.out))))))))))))))))))).mono (by omega)))) rfl (by simp) (by omega) (by omega)) (by kernel_rfl) ?_
        rintro e w20 ⟨u0, rfl, hc, hx⟩
        have E20 := Lib.hid (show Ext ((wW.drew.alloc (.cells #[.bool a0.n, .slice a0.p a0.l a0.c, .bool a0.m, .slice a0.p2 a0.l2 a0.c2, .bool b0.n, .slice b0.p b0.l b0.c, .bool b0.m, .slice b0.p2 b0.l2 b0.c2, .bool c0.n, .slice c0.p c0.l c0.c, .bool c0.m, .slice c0.p2 c0.l2 c0.c2, .bool d0.n, .slice d0.p d0.l d0.c, .bool d0.m, .slice d0.p2 d0.l2 d0.c2] 26)).alloc (.cells #[.bool a1.n, .slice a1.p a1.l a1.c, .bool a1.m, .slice a1.p2 a1.l2 a1.c2, .bool b1.n, .slice b1.p b1.l b1.c, .bool b1.m, .slice b1.p2 b1.l2 b1.c2, .bool c1.n, .slice c1.p c1.l c1.c, .bool c1.m, .slice c1.p2 c1.l2 c1.c2, .bool d1.n, .slice d1.p d1.l d1.c, .bool d1.m, .slice d1.p2 d1.l2 d1.c2] 26)) w20 from hx)
        rw [ev4] at hc
        have Fu0 := Lib.hid hc
        clear hc
        clear hx
        refine ⟨_, rfl, (Own.of_ext (E17.out.trans (E18.out.trans (E19.out.trans E20.out)))), ?_⟩
        (try simp only [Act.put, List.setIfInBounds_toArray, List.set_cons_zero, List.set_cons_succ])
        refine md_call (i := 29) (listed' := #[true, true, true, true, true, true, true, true, true, true, true, true, true, true, true, true, true, true, true, true, true, true, true, true, true, true, true, true, true, true, false, false]) (by rfl) (by kernel_rfl) (by rfl) (by go_simp) (rweighted_any (4 * L + 8) _ _ [((((1 : Int) : Rat) - S) * ((((1 : Int) : Rat) - S) * (((1 : Int) : Rat) - S))), (((3 : Int) : Rat) * (S * ((((1 : Int) : Rat) - S) * (((1 : Int) : Rat) - S)))), (((3 : Int) : Rat) * ((S * S) * (((1 : Int) : Rat) - S))), (S * (S * S))] [A1, B1, C1, D1] _ (RatsV.of_blk (rs := [m1, m2, m3, m4]) (FbW.out.ext (E17.out.trans (E18.out.trans (E19.out.trans E20.out)))) rfl (in4 ((Fm1.out.ext (E8.out.trans (E9.out.trans (E10.out.trans (E11.out.trans (E12.out.trans (E13.out.trans (E14.out.trans (E15.out.trans (E16.out.trans (E17.out.trans (E18.out.trans (E19.out.trans E20.out))))))))))))).isIn (by omega)) ((Fm2.out.ext (E11.out.trans (E12.out.trans (E13.out.trans (E14.out.trans (E15.out.trans (E16.out.trans (E17.out.trans (E18.out.trans (E19.out.trans E20.out)))))))))).isIn (by omega)) ((Fm3.out.ext (E14.out.trans (E15.out.trans (E16.out.trans (E17.out.trans (E18.out.trans (E19.out.trans E20.out))))))).isIn (by omega)) ((Fm4.out.ext (E16.out.trans (E17.out.trans (E18.out.trans (E19.out.trans E20.out))))).isIn (by omega)))) (RatsV.of_blk (rs := [a1, b1, c1, d1]) (Fnb28.out.ext E20.out) rfl (in4 ((Fa1.out.ext (E1.out.trans (E2.out.trans (E3.out.trans (E4.out.trans (E5.out.trans (E6.out.trans (E7.out.trans (E8.out.trans (E9.out.trans (E10.out.trans (E11.out.trans (E12.out.trans (E13.out.trans (E14.out.trans (E15.out.trans (E16.out.trans (E17.out.trans (E18.out.trans (E19.out.trans E20.out)))))))))))))))))))).mono (by omega)) ((Fb1.out.ext (E1.out.trans (E2.out.trans (E3.out.trans (E4.out.trans (E5.out.trans (E6.out.trans (E7.out.trans (E8.out.trans (E9.out.trans (E10.out.trans (E11.out.trans (E12.out.trans (E13.out.trans (E14.out.trans (E15.out.trans (E16.out.trans (E17.out.trans (E18.out.trans (E19.out.trans E20.out)))))))))))))))))))).mono (by omega)) ((Fc1.out.ext (E1.out.trans (E2.out.trans (E3.out.trans (E4.out.trans (E5.out.trans (E6.out.trans (E7.out.trans (E8.out.trans (E9.out.trans (E10.out.trans (E11.out.trans (E12.out.trans (E13.out.trans (E14.out.trans (E15.out.trans (E16.out.trans (E17.out.trans (E18.out.trans (E19.out.trans E20.out)))))))))))))))))))).mono (by omega)) ((Fd1.out.ext (E1.out.trans (E2.out.trans (E3.out.trans (E4.out.trans (E5.out.trans (E6.out.trans (E7.out.trans (E8.out.trans (E9.out.trans (E10.out.trans (E11.out.trans (E12.out.trans (E13.out.trans (E14.out.trans (E15.out.trans (E16.out.trans (E17.out.trans (E18.out.trans (E19.out.trans E20.out)))))))))))))))))))).mono (by omega)))) rfl (by simp) (by omega) (by omega)) (by kernel_rfl) ?_
        rintro e w21 ⟨u1, rfl, hc, hx⟩
        have E21 := Lib.hid (show Ext w20 w21 from hx)
        rw [ev4] at hc
        have Fu1 := Lib.hid hc
        clear hc
        clear hx
        refine ⟨_, rfl, (Own.of_ext (E17.out.trans (E18.out.trans (E19.out.trans (E20.out.trans E21.out))))), ?_⟩
        (try simp only [Act.put, List.setIfInBounds_toArray, List.set_cons_zero, List.set_cons_succ])
        refine md_val (i := 30) (v := ?vm39) (listed' := #[true, true, true, true, true, true, true, true, true, true, true, true, true, true, true, true, true, true, true, true, true, true, true, true, true, true, true, true, true, true, true, false]) (by rfl) (by kernel_rfl) (by kernel_rfl) (by kernel_rfl) (by intro _ _ _ h; exact h) (by rfl) ?hm39 (Own.of_ext (E17.out.trans (E18.out.trans (E19.out.trans (E20.out.trans E21.out))))) (by kernel_rfl) ?rm39
        case hm39 => (intro w hSw; (try dsimp only at hSw); go_simp <;> with_reducible rfl)
        (try simp only [Act.put, List.setIfInBounds_toArray, List.set_cons_zero, List.set_cons_succ])
        have o1 := Own.setCells w21 R0 #[.bool u0.n, .slice u0.p u0.l u0.c, .bool u0.m, .slice u0.p2 u0.l2 u0.c2, .bool u1.n, .slice u1.p u1.l u1.c, .bool u1.m, .slice u1.p2 u1.l2 u1.c2]
        have kb1 := (FR0.out.ext (E2.out.trans (E3.out.trans (E4.out.trans (E5.out.trans (E6.out.trans (E7.out.trans (E8.out.trans (E9.out.trans (E10.out.trans (E11.out.trans (E12.out.trans (E13.out.trans (E14.out.trans (E15.out.trans (E16.out.trans (E17.out.trans (E18.out.trans (E19.out.trans (E20.out.trans E21.out))))))))))))))))))))
        have hs1 : Own R0 wW (w21.setCells R0 0 (#[.bool u0.n, .slice u0.p u0.l u0.c, .bool u0.m, .slice u0.p2 u0.l2 u0.c2, .bool u1.n, .slice u1.p u1.l u1.c, .bool u1.m, .slice u1.p2 u1.l2 u1.c2] : Array Value).toList) := (Own.then_ext' (E17.out.trans (E18.out.trans (E19.out.trans (E20.out.trans E21.out)))) o1)
        refine md_store (i := 31) (listed' := #[true, true, true, true, true, true, true, true, true, true, true, true, true, true, true, true, true, true, true, true, true, true, true, true, true, true, true, true, true, true, true, true]) (by rfl) (by kernel_rfl) (by rfl) _ _ _ (by rfl) R0 _ #[.bool false, .slice none 0 0, .bool false, .slice none 0 0, .bool false, .slice none 0 0, .bool false, .slice none 0 0] #[.bool u0.n, .slice u0.p u0.l u0.c, .bool u0.m, .slice u0.p2 u0.l2 u0.c2, .bool u1.n, .slice u1.p u1.l u1.c, .bool u1.m, .slice u1.p2 u1.l2 u1.c2] (by rfl) (by rfl) kb1 (by rw [show (#[.bool u0.n, .slice u0.p u0.l u0.c, .bool u0.m, .slice u0.p2 u0.l2 u0.c2, .bool u1.n, .slice u1.p u1.l u1.c, .bool u1.m, .slice u1.p2 u1.l2 u1.c2] : Array Value).size = 8 from rfl]; rfl) (by rw [show (#[.bool u0.n, .slice u0.p u0.l u0.c, .bool u0.m, .slice u0.p2 u0.l2 u0.c2, .bool u1.n, .slice u1.p u1.l u1.c, .bool u1.m, .slice u1.p2 u1.l2 u1.c2] : Array Value).size = 8 from rfl]; kernel_rfl) (all_oneCell_toArray (by simp [Value.oneCell'])) hs1 (by kernel_rfl) ?_
        (try simp only [Act.put, List.setIfInBounds_toArray, List.set_cons_zero, List.set_cons_succ])
        have kc1 := kb1.setCells #[.bool u0.n, .slice u0.p u0.l u0.c, .bool u0.m, .slice u0.p2 u0.l2 u0.c2, .bool u1.n, .slice u1.p u1.l u1.c, .bool u1.m, .slice u1.p2 u1.l2 u1.c2] (by rw [show (#[.bool u0.n, .slice u0.p u0.l u0.c, .bool u0.m, .slice u0.p2 u0.l2 u0.c2, .bool u1.n, .slice u1.p u1.l u1.c, .bool u1.m, .slice u1.p2 u1.l2 u1.c2] : Array Value).size = 8 from rfl]; rfl)
        refine wpAnyH_done (by kernel_rfl) ?_ _
        go_wp2_with fail
        refine bodyPost_ret (v := .agg #[.bool u0.n, .slice u0.p u0.l u0.c, .bool u0.m, .slice u0.p2 u0.l2 u0.c2, .bool u1.n, .slice u1.p u1.l u1.c, .bool u1.m, .slice u1.p2 u1.l2 u1.c2]) ?_ rfl ⟨_, rfl, ⟨u0, u1, rfl, ((Fu0.out.ext E21.out).own kb1 (noU_of _ (by simp)) o1), (Fu1.out.own kb1 (noU_of _ (by simp)) o1)⟩, (o1.ext (E1.out.trans (E2.out.trans (E3.out.trans (E4.out.trans (E5.out.trans (E6.out.trans (E7.out.trans (E8.out.trans (E9.out.trans (E10.out.trans (E11.out.trans (E12.out.trans (E13.out.trans (E14.out.trans (E15.out.trans (E16.out.trans (E17.out.trans (E18.out.trans (E19.out.trans (E20.out.trans E21.out)))))))))))))))))))) gR0)⟩
        exact results_cell1 rfl rfl (kc1.loadVar rfl rfl (by rfl))
    · (try simp only [Act.put, List.setIfInBounds_toArray, List.set_cons_zero, List.set_cons_succ])
      have E18 := Lib.hid (show Ext wW.drew (wW.drew.alloc (.cells #[.bool a1.n, .slice a1.p a1.l a1.c, .bool a1.m, .slice a1.p2 a1.l2 a1.c2, .bool b1.n, .slice b1.p b1.l b1.c, .bool b1.m, .slice b1.p2 b1.l2 b1.c2, .bool c1.n, .slice c1.p c1.l c1.c, .bool c1.m, .slice c1.p2 c1.l2 c1.c2, .bool d1.n, .slice d1.p d1.l d1.c, .bool d1.m, .slice d1.p2 d1.l2 d1.c2] 26)) from (Ext.refl _).alloc _)
      have Fnb28 := Lib.hid (Blk.new wW.drew 26 #[.bool a1.n, .slice a1.p a1.l a1.c, .bool a1.m, .slice a1.p2 a1.l2 a1.c2, .bool b1.n, .slice b1.p b1.l b1.c, .bool b1.m, .slice b1.p2 b1.l2 b1.c2, .bool c1.n, .slice c1.p c1.l c1.c, .bool c1.m, .slice c1.p2 c1.l2 c1.c2, .bool d1.n, .slice d1.p d1.l d1.c, .bool d1.m, .slice d1.p2 d1.l2 d1.c2])
      refine md_one (i := 13) (listed' := #[true, true, true, true, true, true, true, true, true, true, true, true, true, true, false, true, true, true, true, true, true, true, true, true, true, true, true, true, true, false, false, false]) (v := .slice (some ⟨(wW.drew.alloc (.cells #[.bool a1.n, .slice a1.p a1.l a1.c, .bool a1.m, .slice a1.p2 a1.l2 a1.c2, .bool b1.n, .slice b1.p b1.l b1.c, .bool b1.m, .slice b1.p2 b1.l2 b1.c2, .bool c1.n, .slice c1.p c1.l c1.c, .bool c1.m, .slice c1.p2 c1.l2 c1.c2, .bool d1.n, .slice d1.p d1.l d1.c, .bool d1.m, .slice d1.p2 d1.l2 d1.c2] 26)).heap.size, 0, none⟩) 4 4) (w' := ((wW.drew.alloc (.cells #[.bool a1.n, .slice a1.p a1.l a1.c, .bool a1.m, .slice a1.p2 a1.l2 a1.c2, .bool b1.n, .slice b1.p b1.l b1.c, .bool b1.m, .slice b1.p2 b1.l2 b1.c2, .bool c1.n, .slice c1.p c1.l c1.c, .bool c1.m, .slice c1.p2 c1.l2 c1.c2, .bool d1.n, .slice d1.p d1.l d1.c, .bool d1.m, .slice d1.p2 d1.l2 d1.c2] 26)).alloc (.cells #[.bool a0.n, .slice a0.p a0.l a0.c, .bool a0.m, .slice a0.p2 a0.l2 a0.c2, .bool b0.n, .slice b0.p b0.l b0.c, .bool b0.m, .slice b0.p2 b0.l2 b0.c2, .bool c0.n, .slice c0.p c0.l c0.c, .bool c0.m, .slice c0.p2 c0.l2 c0.c2, .bool d0.n, .slice d0.p d0.l d0.c, .bool d0.m, .slice d0.p2 d0.l2 d0.c2] 26))) (by rfl) (by kernel_rfl) (by rfl) (by go_simp) (Own.of_ext ((E17.out.trans E18.out).alloc _)) (by kernel_rfl) ?_
      (try simp only [Act.put, List.setIfInBounds_toArray, List.set_cons_zero, List.set_cons_succ])
      have E19 := Lib.hid (show Ext (wW.drew.alloc (.cells #[.bool a1.n, .slice a1.p a1.l a1.c, .bool a1.m, .slice a1.p2 a1.l2 a1.c2, .bool b1.n, .slice b1.p b1.l b1.c, .bool b1.m, .slice b1.p2 b1.l2 b1.c2, .bool c1.n, .slice c1.p c1.l c1.c, .bool c1.m, .slice c1.p2 c1.l2 c1.c2, .bool d1.n, .slice d1.p d1.l d1.c, .bool d1.m, .slice d1.p2 d1.l2 d1.c2] 26)) ((wW.drew.alloc (.cells #[.bool a1.n, .slice a1.p a1.l a1.c, .bool a1.m, .slice a1.p2 a1.l2 a1.c2, .bool b1.n, .slice b1.p b1.l b1.c, .bool b1.m, .slice b1.p2 b1.l2 b1.c2, .bool c1.n, .slice c1.p c1.l c1.c, .bool c1.m, .slice c1.p2 c1.l2 c1.c2, .bool d1.n, .slice d1.p d1.l d1.c, .bool d1.m, .slice d1.p2 d1.l2 d1.c2] 26)).alloc (.cells #[.bool a0.n, .slice a0.p a0.l a0.c, .bool a0.m, .slice a0.p2 a0.l2 a0.c2, .bool b0.n, .slice b0.p b0.l b0.c, .bool b0.m, .slice b0.p2 b0.l2 b0.c2, .bool c0.n, .slice c0.p c0.l c0.c, .bool c0.m, .slice c0.p2 c0.l2 c0.c2, .bool d0.n, .slice d0.p d0.l d0.c, .bool d0.m, .slice d0.p2 d0.l2 d0.c2] 26)) from (Ext.refl _).alloc _)
      have Fnb13 := Lib.hid (Blk.new (wW.drew.alloc (.cells #[.bool a1.n, .slice a1.p a1.l a1.c, .bool a1.m, .slice a1.p2 a1.l2 a1.c2, .bool b1.n, .slice b1.p b1.l b1.c, .bool b1.m, .slice b1.p2 b1.l2 b1.c2, .bool c1.n, .slice c1.p c1.l c1.c, .bool c1.m, .slice c1.p2 c1.l2 c1.c2, .bool d1.n, .slice d1.p d1.l d1.c, .bool d1.m, .slice d1.p2 d1.l2 d1.c2] 26)) 26 #[.bool a0.n, .slice a0.p a0.l a0.c, .bool a0.m, .slice a0.p2 a0.l2 a0.c2, .bool b0.n, .slice b0.p b0.l b0.c, .bool b0.m, .slice b0.p2 b0.l2 b0.c2, .bool c0.n, .slice c0.p c0.l c0.c, .bool c0.m, .slice c0.p2 c0.l2 c0.c2, .bool d0.n, .slice d0.p d0.l d0.c, .bool d0.m, .slice d0.p2 d0.l2 d0.c2])
      refine md_call (i := 14) (listed' := #[true, true, true, true, true, true, true, true, true, true, true, true, true, true, true, true, true, true, true, true, true, true, true, true, true, true, true, true, true, false, false, false]) (by rfl) (by kernel_rfl) (by rfl) (by go_simp) (rweighted_any (4 * L + 8) _ _ [((((1 : Int) : Rat) - S) * ((((1 : Int) : Rat) - S) * (((1 : Int) : Rat) - S))), (((3 : Int) : Rat) * (S * ((((1 : Int) : Rat) - S) * (((1 : Int) : Rat) - S)))), (((3 : Int) : Rat) * ((S * S) * (((1 : Int) : Rat) - S))), (S * (S * S))] [A0, B0, C0, D0] _ (RatsV.of_blk (rs := [m1, m2, m3, m4]) (FbW.out.ext (E17.out.trans (E18.out.trans E19.out))) rfl (in4 ((Fm1.out.ext (E8.out.trans (E9.out.trans (E10.out.trans (E11.out.trans (E12.out.trans (E13.out.trans (E14.out.trans (E15.out.trans (E16.out.trans (E17.out.trans (E18.out.trans E19.out)))))))))))).isIn (by omega)) ((Fm2.out.ext (E11.out.trans (E12.out.trans (E13.out.trans (E14.out.trans (E15.out.trans (E16.out.trans (E17.out.trans (E18.out.trans E19.out))))))))).isIn (by omega)) ((Fm3.out.ext (E14.out.trans (E15.out.trans (E16.out.trans (E17.out.trans (E18.out.trans E19.out)))))).isIn (by omega)) ((Fm4.out.ext (E16.out.trans (E17.out.trans (E18.out.trans E19.out)))).isIn (by omega)))) (RatsV.of_blk (rs := [a0, b0, c0, d0]) Fnb13.out rfl (in4 ((Fa0.out.ext (E1.out.trans (E2.out.trans (E3.out.trans (E4.out.trans (E5.out.trans (E6.out.trans (E7.out.trans (E8.out.trans (E9.out.trans (E10.out.trans (E11.out.trans (E12.out.trans (E13.out.trans (E14.out.trans (E15.out.trans (E16.out.trans (E17.out.trans (E18.out.trans E19.out))))))))))))))))))).mono (by omega)) ((Fb0.out.ext (E1.out.trans (E2.out.trans (E3.out.trans (E4.out.trans (E5.out.trans (E6.out.trans (E7.out.trans (E8.out.trans (E9.out.trans (E10.out.trans (E11.out.trans (E12.out.trans (E13.out.trans (E14.out.trans (E15.out.trans (E16.out.trans (E17.out.trans (E18.out.trans E19.out))))))))))))))))))).mono (by omega)) ((Fc0.out.ext (E1.out.trans (E2.out.trans (E3.out.trans (E4.out.trans (E5.out.trans (E6.out.trans (E7.out.trans (E8.out.trans (E9.out.trans (E10.out.trans (E11.out.trans (E12.out.trans (E13.out.trans (E14.out.trans (E15.out.trans (E16.out.trans (E17.out.trans (E18.out.trans E19.out))))))))))))))))))).mono (by omega)) ((Fd0.out.ext (E1.out.trans (E2.out.trans (E3.out.trans (E4.out.trans (E5.out.trans (E6.out.trans (E7.out.trans (E8.out.trans (E9.out.trans (E10.out.trans (E11.out.trans (E12.out.trans (E13.out.trans (E14.out.trans (E15.out.trans (E16.out.trans (E17.out.trans (E18.out.trans E19.out))))))))))))))))))).mono (by omega)))) rfl (by simp) (by omega) (by omega)) (by kernel_rfl) ?_
      rintro e w20 ⟨u0, rfl, hc, hx⟩
      have E20 := Lib.hid (show Ext ((wW.drew.alloc (.cells #[.bool a1.n, .slice a1.p a1.l a1.c, .bool a1.m, .slice a1.p2 a1.l2 a1.c2, .bool b1.n, .slice b1.p b1.l b1.c, .bool b1.m, .slice b1.p2 b1.l2 b1.c2, .bool c1.n, .slice c1.p c1.l c1.c, .bool c1.m, .slice c1.p2 c1.l2 c1.c2, .bool d1.n, .slice d1.p d1.l d1.c, .bool d1.m, .slice d1.p2 d1.l2 d1.c2] 26)).alloc (.cells #[.bool a0.n, .slice a0.p a0.l a0.c, .bool a0.m, .slice a0.p2 a0.l2 a0.c2, .bool b0.n, .slice b0.p b0.l b0.c, .bool b0.m, .slice b0.p2 b0.l2 b0.c2, .bool c0.n, .slice c0.p c0.l c0.c, .bool c0.m, .slice c0.p2 c0.l2 c0.c2, .bool d0.n, .slice d0.p d0.l d0.c, .bool d0.m, .slice d0.p2 d0.l2 d0.c2] 26)) w20 from hx)
      rw [ev4] at hc
      have Fu0 := Lib.hid hc
      clear hc
      clear hx
      refine ⟨_, rfl, (Own.of_ext (E17.out.trans (E18.out.trans (E19.out.trans E20.out)))), ?_⟩
      (try simp only [Act.put, List.setIfInBounds_toArray, List.set_cons_zero, List.set_cons_succ])
      refine md_call (i := 29) (listed' := #[true, true, true, true, true, true, true, true, true, true, true, true, true, true, true, true, true, true, true, true, true, true, true, true, true, true, true, true, true, true, false, false]) (by rfl) (by kernel_rfl) (by rfl) (by go_simp) (rweighted_any (4 * L + 8) _ _ [((((1 : Int) : Rat) - S) * ((((1 : Int) : Rat) - S) * (((1 : Int) : Rat) - S))), (((3 : Int) : Rat) * (S * ((((1 : Int) : Rat) - S) * (((1 : Int) : Rat) - S)))), (((3 : Int) : Rat) * ((S * S) * (((1 : Int) : Rat) - S))), (S * (S * S))] [A1, B1, C1, D1] _ (RatsV.of_blk (rs := [m1, m2, m3, m4]) (FbW.out.ext (E17.out.trans (E18.out.trans (E19.out.trans E20.out)))) rfl (in4 ((Fm1.out.ext (E8.out.trans (E9.out.trans (E10.out.trans (E11.out.trans (E12.out.trans (E13.out.trans (E14.out.trans (E15.out.trans (E16.out.trans (E17.out.trans (E18.out.trans (E19.out.trans E20.out))))))))))))).isIn (by omega)) ((Fm2.out.ext (E11.out.trans (E12.out.trans (E13.out.trans (E14.out.trans (E15.out.trans (E16.out.trans (E17.out.trans (E18.out.trans (E19.out.trans E20.out)))))))))).isIn (by omega)) ((Fm3.out.ext (E14.out.trans (E15.out.trans (E16.out.trans (E17.out.trans (E18.out.trans (E19.out.trans E20.out))))))).isIn (by omega)) ((Fm4.out.ext (E16.out.trans (E17.out.trans (E18.out.trans (E19.out.trans E20.out))))).isIn (by omega)))) (RatsV.of_blk (rs := [a1, b1, c1, d1]) (Fnb28.out.ext (E19.out.trans E20.out)) rfl (in4 ((Fa1.out.ext (E1.out.trans (E2.out.trans (E3.out.trans (E4.out.trans (E5.out.trans (E6.out.trans (E7.out.trans (E8.out.trans (E9.out.trans (E10.out.trans (E11.out.trans (E12.out.trans (E13.out.trans (E14.out.trans (E15.out.trans (E16.out.trans (E17.out.trans (E18.out.trans (E19.out.trans E20.out)))))))))))))))))))).mono (by omega)) ((Fb1.out.ext (E1.out.trans (E2.out.trans (E3.out.trans (E4.out.trans (E5.out.trans (E6.out.trans (E7.out.trans (E8.out.trans (E9.out.trans (E10.out.trans (E11.out.trans (E12.out.trans (E13.out.trans (E14.out.trans (E15.out.trans (E16.out.trans (E17.out.trans (E18.out.trans (E19.out.trans E20.out)))))))))))))))))))).mono (by omega)) ((Fc1.out.ext (E1.out.trans (E2.out.trans (E3.out.trans (E4.out.trans (E5.out.trans (E6.out.trans (E7.out.trans (E8.out.trans (E9.out.trans (E10.out.trans (E11.out.trans (E12.out.trans (E13.out.trans (E14.out.trans (E15.out.trans (E16.out.trans (E17.out.trans (E18.out.trans (E19.out.trans E20.out)))))))))))))))))))).mono (by omega)) ((Fd1.out.ext (E1.out.trans (E2.out.trans (E3.out.trans (E4.out.trans (E5.out.trans (E6.out.trans (E7.out.trans (E8.out.trans (E9.out.trans (E10.out.trans (E11.out.trans (E12.out.trans (E13.out.trans (E14.out.trans (E15.out.trans (E16.out.trans (E17.out.trans (E18.out.trans (E19.out.trans E20.out)))))))))))))))))))).mono (by omega)))) rfl (by simp) (by omega) (by omega)) (by kernel_rfl) ?_
      rintro e w21 ⟨u1, rfl, hc, hx⟩
      have E21 := Lib.hid (show Ext w20 w21 from hx)
      rw [ev4] at hc
      have Fu1 := Lib.hid hc
      clear hc
      clear hx
      refine ⟨_, rfl, (Own.of_ext (E17.out.trans (E18.out.trans (E19.out.trans (E20.out.trans E21.out))))), ?_⟩
      (try simp only [Act.put, List.setIfInBounds_toArray, List.set_cons_zero, List.set_cons_succ])
      refine md_val (i := 30) (v := ?vm40) (listed' := #[true, true, true, true, true, true, true, true, true, true, true, true, true, true, true, true, true, true, true, true, true, true, true, true, true, true, true, true, true, true, true, false]) (by rfl) (by kernel_rfl) (by kernel_rfl) (by kernel_rfl) (by intro _ _ _ h; exact h) (by rfl) ?hm40 (Own.of_ext (E17.out.trans (E18.out.trans (E19.out.trans (E20.out.trans E21.out))))) (by kernel_rfl) ?rm40
      case hm40 => (intro w hSw; (try dsimp only at hSw); go_simp <;> with_reducible rfl)
      (try simp only [Act.put, List.setIfInBounds_toArray, List.set_cons_zero, List.set_cons_succ])
      have o1 := Own.setCells w21 R0 #[.bool u0.n, .slice u0.p u0.l u0.c, .bool u0.m, .slice u0.p2 u0.l2 u0.c2, .bool u1.n, .slice u1.p u1.l u1.c, .bool u1.m, .slice u1.p2 u1.l2 u1.c2]
      have kb1 := (FR0.out.ext (E2.out.trans (E3.out.trans (E4.out.trans (E5.out.trans (E6.out.trans (E7.out.trans (E8.out.trans (E9.out.trans (E10.out.trans (E11.out.trans (E12.out.trans (E13.out.trans (E14.out.trans (E15.out.trans (E16.out.trans (E17.out.trans (E18.out.trans (E19.out.trans (E20.out.trans E21.out))))))))))))))))))))
      have hs1 : Own R0 wW (w21.setCells R0 0 (#[.bool u0.n, .slice u0.p u0.l u0.c, .bool u0.m, .slice u0.p2 u0.l2 u0.c2, .bool u1.n, .slice u1.p u1.l u1.c, .bool u1.m, .slice u1.p2 u1.l2 u1.c2] : Array Value).toList) := (Own.then_ext' (E17.out.trans (E18.out.trans (E19.out.trans (E20.out.trans E21.out)))) o1)
      refine md_store (i := 31) (listed' := #[true, true, true, true, true, true, true, true, true, true, true, true, true, true, true, true, true, true, true, true, true, true, true, true, true, true, true, true, true, true, true, true]) (by rfl) (by kernel_rfl) (by rfl) _ _ _ (by rfl) R0 _ #[.bool false, .slice none 0 0, .bool false, .slice none 0 0, .bool false, .slice none 0 0, .bool false, .slice none 0 0] #[.bool u0.n, .slice u0.p u0.l u0.c, .bool u0.m, .slice u0.p2 u0.l2 u0.c2, .bool u1.n, .slice u1.p u1.l u1.c, .bool u1.m, .slice u1.p2 u1.l2 u1.c2] (by rfl) (by rfl) kb1 (by rw [show (#[.bool u0.n, .slice u0.p u0.l u0.c, .bool u0.m, .slice u0.p2 u0.l2 u0.c2, .bool u1.n, .slice u1.p u1.l u1.c, .bool u1.m, .slice u1.p2 u1.l2 u1.c2] : Array Value).size = 8 from rfl]; rfl) (by rw [show (#[.bool u0.n, .slice u0.p u0.l u0.c, .bool u0.m, .slice u0.p2 u0.l2 u0.c2, .bool u1.n, .slice u1.p u1.l u1.c, .bool u1.m, .slice u1.p2 u1.l2 u1.c2] : Array Value).size = 8 from rfl]; kernel_rfl) (all_oneCell_toArray (by simp [Value.oneCell'])) hs1 (by kernel_rfl) ?_
      (try simp only [Act.put, List.setIfInBounds_toArray, List.set_cons_zero, List.set_cons_succ])
      have kc1 := kb1.setCells #[.bool u0.n, .slice u0.p u0.l u0.c, .bool u0.m, .slice u0.p2 u0.l2 u0.c2, .bool u1.n, .slice u1.p u1.l u1.c, .bool u1.m, .slice u1.p2 u1.l2 u1.c2] (by rw [show (#[.bool u0.n, .slice u0.p u0.l u0.c, .bool u0.m, .slice u0.p2 u0.l2 u0.c2, .bool u1.n, .slice u1.p u1.l u1.c, .bool u1.m, .slice u1.p2 u1.l2 u1.c2] : Array Value).size = 8 from rfl]; rfl)
      refine wpAnyH_done (by kernel_rfl) ?_ _
      go_wp2_with fail
      refine bodyPost_ret (v := .agg #[.bool u0.n, .slice u0.p u0.l u0.c, .bool u0.m, .slice u0.p2 u0.l2 u0.c2, .bool u1.n, .slice u1.p u1.l u1.c, .bool u1.m, .slice u1.p2 u1.l2 u1.c2]) ?_ rfl ⟨_, rfl, ⟨u0, u1, rfl, ((Fu0.out.ext E21.out).own kb1 (noU_of _ (by simp)) o1), (Fu1.out.own kb1 (noU_of _ (by simp)) o1)⟩, (o1.ext (E1.out.trans (E2.out.trans (E3.out.trans (E4.out.trans (E5.out.trans (E6.out.trans (E7.out.trans (E8.out.trans (E9.out.trans (E10.out.trans (E11.out.trans (E12.out.trans (E13.out.trans (E14.out.trans (E15.out.trans (E16.out.trans (E17.out.trans (E18.out.trans (E19.out.trans (E20.out.trans E21.out)))))))))))))))))))) gR0)⟩
      exact results_cell1 rfl rfl (kc1.loadVar rfl rfl (by rfl))

end Go.Proofs.YtllpkoinjompcaaGreat

namespace Go.Proofs.YtllpkoinjompcaaGreat
open Go.RowKit
attribute [local go_sem ↓] Go.wp_at_zero Go.wp_at_succ run_eql_point run_neq_point

def clampI (n lo hi : Int) : Int := if n < lo then lo else if hi < n then hi else n

theorem clamp_any (n lo hi : Int) (w : World) :
    Calls Tryz.prog 124 #[.int .i64 n, .int .i64 lo, .int .i64 hi] w fun e w' => e = .returned (.int .i64 (clampI n lo hi)) ∧ w = w' := by
  go_enter Tryz.func124, Tryz.ntmps124
  go_wp2_with fail
  all_goals go_ret
  all_goals refine ⟨ret_int ?_, rfl⟩
  all_goals unfold clampI
  · rw [if_pos ‹_›]
  · rw [if_neg (by omega), if_pos ‹_›]
  · rw [if_neg (by omega), if_neg (by omega)]

theorem held_any (n : Int) (w : World) :
    Calls Tryz.prog 117 #[.int .i64 n] w fun e w' => e = .returned (.int .i64 (clampI n (-1048576) 1048576)) ∧ w = w' := by
  go_enter Tryz.func117, Tryz.ntmps117
  go_wp2_with (go_at_call 124; refine (clamp_any _ _ _ _).mono ?_; rintro e w' ⟨rfl, rfl⟩)
  go_ret
  exact ⟨rfl, rfl⟩

theorem hold_any (x y : Int) (w : World) :
    Calls Tryz.prog 100 #[.agg #[.int .i64 x, .int .i64 y]] w fun e w' => e = .returned (.agg #[.int .i64 (clampI x (-1048576) 1048576), .int .i64 (clampI y (-1048576) 1048576)]) ∧ Ext w w' := by
  go_enter Tryz.func100, Tryz.ntmps100
  go_wp2_with fail
  go_region_held3 (fun w' => w'.cell? ⟨w.heap.size, 0, none⟩ = some (.int .i64 x) ∧ w'.cell? ⟨w.heap.size, 1, none⟩ = some (.int .i64 y)) (go_keep)
    (first | (go_at_call 117; refine (held_any _ _).mono ?_; rintro e w' ⟨rfl, rfl⟩))
  go_wp2_with fail
  refine bodyPost_ret (v := .agg #[.int .i64 (clampI x (-1048576) 1048576), .int .i64 (clampI y (-1048576) 1048576)]) (by simp [results, Tryz.results100, go_sem]) rfl ⟨rfl, ?_⟩
  exact ((((Ext.refl _).alloc _).alloc _).drew)

theorem eq_clamp (x : Int) : (clampI x (-1048576) 1048576 == x) = decide (-1048576 ≤ x ∧ x ≤ 1048576) := by
  rw [Bool.eq_iff_iff]
  unfold clampI
  simp only [beq_iff_eq, decide_eq_true_eq]
  split
  · omega
  · split <;> omega

def okPt (x y : Int) : Bool := decide (-1048576 ≤ x ∧ x ≤ 1048576) && decide (-1048576 ≤ y ∧ y ≤ 1048576)

theorem valid_any (x y : Int) (w : World) :
    Calls Tryz.prog 80 #[.agg #[.int .i64 x, .int .i64 y]] w fun e w' => e = .returned (.bool (okPt x y)) ∧ Ext w w' := by
  have h0 : ∀ w', Ext (w.alloc (.cells #[.int .i64 x, .int .i64 y] 49)) w' → w'.cell? ⟨w.heap.size, 0, none⟩ = some (.int .i64 x) := fun w' h => h.get (by simp)
  have h1 : ∀ w', Ext (w.alloc (.cells #[.int .i64 x, .int .i64 y] 49)) w' → w'.cell? ⟨w.heap.size, 1, none⟩ = some (.int .i64 y) := fun w' h => h.get (by simp)
  go_enter Tryz.func80, Tryz.ntmps80
  go_wp2_with fail
  go_region_held3 (fun w' => Ext (w.alloc (.cells #[.int .i64 x, .int .i64 y] 49)) w') (first | assumption | exact Ext.drew (Ext.refl _) | (apply Ext.via; assumption; assumption))
    (first | (go_at_call 100; refine (hold_any _ _ _).mono ?_; rintro e w' ⟨rfl, hb⟩))
  go_wp2_with fail
  go_ret
  refine ⟨?_, ((Ext.refl _).alloc _).trans ‹_›⟩
  rw [eq_clamp, eq_clamp]; rfl

end Go.Proofs.YtllpkoinjompcaaGreat

namespace Go.Proofs.YtllpkoinjompcaaGreat
open Go.RowKit
attribute [local go_sem ↓] Go.wp_at_zero Go.wp_at_succ run_eql_point run_neq_point

/-- The points ps lie in block b from offset off on, two cells each. -/
def PtsAt (w : World) (b off : Nat) (ps : List (Int × Int)) : Prop :=
  ∀ i, i < ps.length → w.cell? ⟨b, off + i * 2, none⟩ = some (.int .i64 (ps.getD i (0, 0)).1) ∧ w.cell? ⟨b, off + i * 2 + 1, none⟩ = some (.int .i64 (ps.getD i (0, 0)).2)

theorem PtsAt.ext {w w' : World} {b off : Nat} {ps : List (Int × Int)} (h : PtsAt w b off ps) (e : Ext w w') : PtsAt w' b off ps :=
  fun i hi => ⟨e.get (h i hi).1, e.get (h i hi).2⟩

def okAll (ps : List (Int × Int)) : Bool := ps.all fun p => okPt p.1 p.2

theorem okAll_take_succ (ps : List (Int × Int)) (k : Nat) (hk : k < ps.length) :
    okAll (ps.take (k + 1)) = (okAll (ps.take k) && okPt (ps.getD k (0, 0)).1 (ps.getD k (0, 0)).2) := by
  unfold okAll
  rw [List.take_succ_eq_append_getElem hk, List.all_append]
  simp [List.getD, hk]

/-- The least number of segments from k on, among the next 'fuel' numbers. -/
def least (need tol : Int) : Nat → Nat → Option Nat
  | _, 0 => none
  | k, f + 1 => if need ≤ 16 * k * k * k * k * tol * tol then some k else least need tol (k + 1) f

def piecesV (need tol : Int) (ps : List (Int × Int)) : Int × Int :=
  if tol < 1 ∨ 256 < tol then (0, 2) else if okAll ps = false then (0, 6) else
    match least need tol 1 64 with
    | some k => (k, 0)
    | none => (0, 11)

theorem okAll_stop (ps : List (Int × Int)) (k : Nat) (hk : k < ps.length) (h : okPt ps[k].1 ps[k].2 = false) : okAll ps = false := by
  unfold okAll
  rw [List.all_eq_false]
  exact ⟨ps[k], List.getElem_mem hk, by simp [h]⟩
theorem okAll_step (ps : List (Int × Int)) (k : Nat) (hk : k < ps.length) (h0 : okAll (ps.take k) = true) (h : okPt ps[k].1 ps[k].2 = true) : okAll (ps.take (k + 1)) = true := by
  rw [okAll_take_succ ps k hk, h0]
  simp [List.getD, hk, h]
theorem okAll_end (ps : List (Int × Int)) (k : Nat) (hk : k ≤ ps.length) (hge : ¬ k < ps.length) (h0 : okAll (ps.take k) = true) : okAll ps = true := by
  rwa [List.take_of_length_le (by omega)] at h0

theorem least_step (need tol : Int) (k f : Nat) (h : ¬ need ≤ 16 * k * k * k * k * tol * tol) : least need tol k (f + 1) = least need tol (k + 1) f := by
  rw [least, if_neg h]
theorem least_hit (need tol : Int) (k f : Nat) (h : need ≤ 16 * k * k * k * k * tol * tol) : least need tol k (f + 1) = some k := by
  rw [least, if_pos h]

/-- The products of the search stay small. -/
theorem least_bounds (k : Nat) (tol : Int) (hk : k ≤ 64) (h1 : 1 ≤ tol) (h2 : tol ≤ 256) :
    0 ≤ 16 * (k : Int) * k ∧ 16 * (k : Int) * k ≤ 65536 ∧ 0 ≤ 16 * (k : Int) * k * k ∧ 16 * (k : Int) * k * k ≤ 4194304 ∧ 0 ≤ 16 * (k : Int) * k * k * k ∧ 16 * (k : Int) * k * k * k ≤ 268435456 ∧
    0 ≤ 16 * (k : Int) * k * k * k * tol ∧ 16 * (k : Int) * k * k * k * tol ≤ 68719476736 ∧ 0 ≤ 16 * (k : Int) * k * k * k * tol * tol ∧ 16 * (k : Int) * k * k * k * tol * tol ≤ 17592186044416 := by
  have hk0 : (0 : Int) ≤ k := by omega
  have hk1 : (k : Int) ≤ 64 := by omega
  have mb : ∀ a b A B : Int, 0 ≤ a → a ≤ A → 0 ≤ b → b ≤ B → 0 ≤ a * b ∧ a * b ≤ A * B := fun a b A B ha hA hb hB =>
    ⟨Int.mul_nonneg ha hb, Int.mul_le_mul hA hB hb (by omega)⟩
  have a1 := mb (16 * k) k 1024 64 (by omega) (by omega) hk0 hk1
  have a2 := mb _ k 65536 64 a1.1 (by omega) hk0 hk1
  have a3 := mb _ k 4194304 64 a2.1 (by omega) hk0 hk1
  have a4 := mb _ tol 268435456 256 a3.1 (by omega) (by omega) h2
  have a5 := mb _ tol 68719476736 256 a4.1 (by omega) (by omega) h2
  omega

theorem pieces_any (need tol : Int) (b off cap : Nat) (ps : List (Int × Int)) (w : World) (hn : ps.length ≤ 4096) (hp : PtsAt w b off ps) :
    Calls Tryz.prog 50 #[.int .i64 need, .int .i64 tol, .slice (some ⟨b, off, none⟩) ps.length cap] w fun e w' =>
      e = .returned (.tuple #[.int .i64 (piecesV need tol ps).1, .int .i64 (piecesV need tol ps).2]) ∧ Ext w w' := by
  by_cases ht : tol < 1 ∨ 256 < tol
  · have hv : piecesV need tol ps = (0, 2) := by unfold piecesV; rw [if_pos ht]
    rw [hv]
    clear hv
    rcases ht with ht | ht
    · go_enter Tryz.func50, Tryz.ntmps50
      go_wp2_with fail
      go_ret2
      exact ⟨rfl, Ext.refl _⟩
    · have ht' : ¬ tol < 1 := by omega
      go_enter Tryz.func50, Tryz.ntmps50
      go_wp2_with fail
      go_ret2
      exact ⟨rfl, Ext.refl _⟩
  have t1 : 1 ≤ tol := by omega
  have t2 : tol ≤ 256 := by omega
  have v1 : okAll ps = false → piecesV need tol ps = (0, 6) := fun h => by unfold piecesV; rw [if_neg ht, if_pos h]
  have v2 : ∀ k : Nat, okAll ps = true → least need tol 1 64 = some k → piecesV need tol ps = ((k : Int), 0) := fun k h hl => by unfold piecesV; rw [if_neg ht, if_neg (by simp [h]), hl]
  have v3 : okAll ps = true → least need tol 1 64 = none → piecesV need tol ps = (0, 11) := fun h hl => by unfold piecesV; rw [if_neg ht, if_neg (by simp [h]), hl]
  have H1 := Lib.hid v1
  have H2 := Lib.hid v2
  have H3 := Lib.hid v3
  clear v1 v2 v3 ht
  have d1 : decide (tol < 1) = false := by simp; omega
  have d2 : decide (256 < tol) = false := by simp; omega
  go_enter Tryz.func50, Tryz.ntmps50
  go_wp2_with fail
  go_loopw [19] (fun i wr => ∃ k : Nat, k ≤ ps.length ∧ i = .int .i64 k ∧ okAll (ps.take k) = true ∧ Ext w wr) (fun i _ => ps.length - (intOf i).toNat)
  case atStart => exact ⟨0, Nat.zero_le _, rfl, rfl, Ext.refl _⟩
  case round =>
    obtain ⟨k, hk, rfl, ho, he⟩ := hrel
    have HO := Lib.hid ho
    clear ho
    by_cases hlt : k < ps.length
    · obtain ⟨c0, c1⟩ := hp.ext he k hlt
      go_wp2_with (go_at_call 80; refine (valid_any _ _ _).mono ?_; rintro e w' ⟨rfl, hb⟩)
      · have hf : (!okPt ps[k].1 ps[k].2) = true := by assumption
        go_ret2
        rw [H1.out (okAll_stop ps k hlt (by simpa using hf))]
        exact ⟨rfl, (he.alloc _).trans ‹_›⟩
      · have hf : (!okPt ps[k].1 ps[k].2) = false := by assumption
        go_roundw
        case rel => exact ⟨k + 1, hlt, by go_num, okAll_step ps k hlt HO.out (by simpa using hf), (he.alloc _).trans ‹_›⟩
        case measure => simp [intOf]; omega
    · have HK := Lib.hid (okAll_end ps k hk hlt HO.out)
      clear HO
      go_wp2_with fail
      go_loop [10] (fun i => ∃ j : Nat, 1 ≤ j ∧ j ≤ 65 ∧ i = .int .i64 j ∧ least need tol 1 64 = least need tol j (65 - j)) (fun i => 65 - (intOf i).toNat)
      case atStart => exact ⟨1, Nat.le_refl _, by omega, rfl, rfl⟩
      case round =>
        obtain ⟨j, hj1, hj2, rfl, hl⟩ := hrel
        have HL := Lib.hid hl
        clear hl
        by_cases hj : j ≤ 64
        · have bd := least_bounds j tol hj t1 t2
          by_cases hit : need ≤ 16 * (j : Int) * j * j * j * tol * tol
          · have hr : least need tol 1 64 = some j := by
              rw [HL.out, show 65 - j = (64 - j) + 1 by omega]; exact least_hit _ _ _ _ hit
            have HR := Lib.hid hr
            clear hr
            go_wp2_with fail
            go_ret2
            rw [H2.out j HK.out HR.out]
            exact ⟨rfl, he⟩
          · have hr : least need tol 1 64 = least need tol (j + 1) (65 - (j + 1)) := by
              rw [HL.out, show 65 - j = (64 - j) + 1 by omega, least_step _ _ _ _ hit, show 64 - j = 65 - (j + 1) by omega]
            have HR := Lib.hid hr
            clear hr
            go_wp2_with fail
            go_round
            case rel => exact ⟨j + 1, by omega, by omega, by go_num, HR.out⟩
            case measure => simp [intOf]; omega
        · have hr : least need tol 1 64 = none := by
            rw [HL.out, show 65 - j = 0 by omega]; rfl
          have HR := Lib.hid hr
          clear hr
          go_wp2_with fail
          go_ret2
          rw [H3.out HK.out HR.out]
          exact ⟨rfl, he⟩

def sqD (a b c : Int × Int) : Int := (a.1 - 2 * b.1 + c.1) * (a.1 - 2 * b.1 + c.1) + (a.2 - 2 * b.2 + c.2) * (a.2 - 2 * b.2 + c.2)

theorem sq_bound (x : Int) (h1 : -4194304 ≤ x) (h2 : x ≤ 4194304) : 0 ≤ x * x ∧ x * x ≤ 17592186044416 := by
  have h : x * x ≤ 4194304 * 4194304 := by
    by_cases hx : 0 ≤ x
    · exact Int.mul_le_mul h2 h2 hx (by omega)
    · have := Int.mul_le_mul (a := -x) (c := 4194304) (b := -x) (d := 4194304) (by omega) (by omega) (by omega) (by omega)
      rw [Int.neg_mul_neg] at this
      exact this
  refine ⟨?_, by omega⟩
  by_cases hx : 0 ≤ x
  · exact Int.mul_nonneg hx hx
  · have := Int.mul_nonneg (a := -x) (b := -x) (by omega) (by omega)
    rw [Int.neg_mul_neg] at this
    exact this

/-- Valid points: their second difference is in range, and so are the products. -/
theorem okPt_iff (x y : Int) : okPt x y = true ↔ (-1048576 ≤ x ∧ x ≤ 1048576) ∧ -1048576 ≤ y ∧ y ≤ 1048576 := by simp [okPt]

def SquareSays (a b c : Int × Int) (w : World) (e : Ending) (w' : World) : Prop :=
  ∃ n : Int, e = .returned (.int .i64 n) ∧ (okAll [a, b, c] = true → n = sqD a b c) ∧ Ext w w'

theorem square_any (a b c : Int × Int) (w : World) :
    Calls Tryz.prog 51 #[.agg #[.int .i64 a.1, .int .i64 a.2], .agg #[.int .i64 b.1, .int .i64 b.2], .agg #[.int .i64 c.1, .int .i64 c.2]] w (SquareSays a b c w) := by
  obtain ⟨ax, ay⟩ := a
  obtain ⟨bx, bt⟩ := b
  obtain ⟨cx, cy⟩ := c
  by_cases hv : okAll [(ax, ay), (bx, bt), (cx, cy)] = true
  · have hb : ((-1048576 ≤ ax ∧ ax ≤ 1048576) ∧ -1048576 ≤ ay ∧ ay ≤ 1048576) ∧ ((-1048576 ≤ bx ∧ bx ≤ 1048576) ∧ -1048576 ≤ bt ∧ bt ≤ 1048576) ∧ ((-1048576 ≤ cx ∧ cx ≤ 1048576) ∧ -1048576 ≤ cy ∧ cy ≤ 1048576) := by
      simpa [okAll, okPt_iff] using hv
    have b1 := sq_bound (ax - 2 * bx + cx) (by omega) (by omega)
    have b2 := sq_bound (ay - 2 * bt + cy) (by omega) (by omega)
    clear hv
    go_enter Tryz.func51, Tryz.ntmps51
    go_wp2_with fail
    go_quiet (fail)
    go_wp2_with fail
    go_ret
    exact ⟨_, rfl, fun _ => rfl, ((((Ext.refl _).alloc _).alloc _).alloc _).drewN _⟩
  · have HV := Lib.hid hv
    clear hv
    go_enter Tryz.func51, Tryz.ntmps51
    go_wp2_with fail
    go_quiet (fail)
    go_wp2_with fail
    go_ret
    exact ⟨_, rfl, fun h => absurd h HV.out, ((((Ext.refl _).alloc _).alloc _).alloc _).drewN _⟩

theorem piecesV_bad (n m tol : Int) (ps : List (Int × Int)) (h : okAll ps = false) : piecesV n tol ps = piecesV m tol ps := by
  unfold piecesV
  simp [h]

def quadSegV (a b c : Int × Int) (tol : Int) : Int × Int := piecesV (sqD a b c) tol [a, b, c]
theorem pts3 {w : World} {g : Nat} {a b c : Int × Int} (h0 : w.cell? ⟨g, 0, none⟩ = some (.int .i64 a.1)) (h1 : w.cell? ⟨g, 1, none⟩ = some (.int .i64 a.2)) (h2 : w.cell? ⟨g, 2, none⟩ = some (.int .i64 b.1))
    (h3 : w.cell? ⟨g, 3, none⟩ = some (.int .i64 b.2)) (h4 : w.cell? ⟨g, 4, none⟩ = some (.int .i64 c.1)) (h5 : w.cell? ⟨g, 5, none⟩ = some (.int .i64 c.2)) : PtsAt w g 0 [a, b, c] := by
  intro i hi
  match i, hi with
  | 0, _ => exact ⟨h0, h1⟩
  | 1, _ => exact ⟨h2, h3⟩
  | 2, _ => exact ⟨h4, h5⟩
def PiecesSays (need tol : Int) (ps : List (Int × Int)) (w : World) (e : Ending) (w' : World) : Prop :=
  e = .returned (.tuple #[.int .i64 (piecesV need tol ps).1, .int .i64 (piecesV need tol ps).2]) ∧ Ext w w'

theorem pieces_len (need tol : Int) (n b off cap : Nat) (ps : List (Int × Int)) (w : World) (hl : ps.length = n) (hn : n ≤ 4096) (hp : PtsAt w b off ps) :
    Calls Tryz.prog 50 #[.int .i64 need, .int .i64 tol, .slice (some ⟨b, off, none⟩) n cap] w (PiecesSays need tol ps w) := by
  subst hl
  exact pieces_any need tol b off cap ps w hn hp

end Go.Proofs.YtllpkoinjompcaaGreat

namespace Go.Proofs.YtllpkoinjompcaaGreat
open Go.RowKit
attribute [local go_sem ↓] Go.wp_at_zero Go.wp_at_succ run_eql_point run_neq_point run_max_ii run_min_ii

theorem quadSeg_any (a b c : Int × Int) (tol : Int) (w : World) :
    Calls Tryz.prog 26 #[.agg #[.int .i64 a.1, .int .i64 a.2, .int .i64 b.1, .int .i64 b.2, .int .i64 c.1, .int .i64 c.2], .int .i64 tol] w fun e w' =>
      e = .returned (.tuple #[.int .i64 (quadSegV a b c tol).1, .int .i64 (quadSegV a b c tol).2]) ∧ Ext w w' := by
  have g : ∀ w', Ext (w.alloc (.cells #[.int .i64 a.1, .int .i64 a.2, .int .i64 b.1, .int .i64 b.2, .int .i64 c.1, .int .i64 c.2] 50)) w' →
      w'.cell? ⟨w.heap.size, 0, none⟩ = some (.int .i64 a.1) ∧ w'.cell? ⟨w.heap.size, 1, none⟩ = some (.int .i64 a.2) ∧ w'.cell? ⟨w.heap.size, 2, none⟩ = some (.int .i64 b.1) ∧
      w'.cell? ⟨w.heap.size, 3, none⟩ = some (.int .i64 b.2) ∧ w'.cell? ⟨w.heap.size, 4, none⟩ = some (.int .i64 c.1) ∧ w'.cell? ⟨w.heap.size, 5, none⟩ = some (.int .i64 c.2) := fun w' h =>
    ⟨h.get (by simp), h.get (by simp), h.get (by simp), h.get (by simp), h.get (by simp), h.get (by simp)⟩
  have hps : ∀ w', Ext (w.alloc (.cells #[.int .i64 a.1, .int .i64 a.2, .int .i64 b.1, .int .i64 b.2, .int .i64 c.1, .int .i64 c.2] 50)) w' → PtsAt w' w.heap.size 0 [a, b, c] := fun w' h => by
    obtain ⟨h0, h1, h2, h3, h4, h5⟩ := g w' h
    exact pts3 h0 h1 h2 h3 h4 h5
  have HP := Lib.hid hps
  clear hps
  go_enter Tryz.func26, Tryz.ntmps26
  go_wp2_with fail
  go_region_held3 (fun w' => Ext (w.alloc (.cells #[.int .i64 a.1, .int .i64 a.2, .int .i64 b.1, .int .i64 b.2, .int .i64 c.1, .int .i64 c.2] 50)) w') (first | assumption | exact Ext.drew (Ext.refl _) | (apply Ext.via; assumption; assumption))
    (first | (go_at_call 51; refine (square_any a b c _).mono ?_; rintro e w' ⟨n, rfl, hn, hb⟩) | (go_at_call 50; refine (pieces_len _ tol 3 w.heap.size 0 3 [a, b, c] _ rfl (by omega) (HP.out _ (by assumption))).mono ?_; rintro e w' ⟨rfl, hb2⟩))
  go_wp2_with fail
  go_ret2
  have hq : quadSegV a b c tol = piecesV n tol [a, b, c] := by
    unfold quadSegV
    by_cases hv : okAll [a, b, c] = true
    · rw [hn hv]
    · exact piecesV_bad _ _ _ _ (by simpa using hv)
  rw [hq]
  exact ⟨rfl, ((Ext.refl _).alloc _).trans ‹_›⟩

end Go.Proofs.YtllpkoinjompcaaGreat

namespace Go.Proofs.YtllpkoinjompcaaGreat
open Go.RowKit
attribute [local go_sem ↓] Go.wp_at_zero Go.wp_at_succ run_eql_point run_neq_point run_max_ii run_min_ii

end Go.Proofs.YtllpkoinjompcaaGreat
