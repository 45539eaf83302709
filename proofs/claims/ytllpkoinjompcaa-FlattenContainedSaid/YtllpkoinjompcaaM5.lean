/- In order: The program's bounding box: add. · The program's bounding box: put. -/
import Derived.Test.YtllpkoinjompcaaM4
namespace Go.Proofs.Ytllpkoinjompcaa
open Go.RowKit
attribute [local go_sem ↓] Go.wp_at_zero Go.wp_at_succ run_max_ii run_min_ii

theorem Own.trans {g : Nat} {a b c : World} (h : Own g a b) (k : Own g b c) : Own g a c :=
  ⟨k.os.trans h.os, k.tape.trans h.tape, k.output.trans h.output, Nat.le_trans h.size k.size, fun i hi hn => (k.block i (Nat.lt_of_lt_of_le hi h.size) hn).trans (h.block i hi hn)⟩
theorem RV.In.own {L : Nat} {w w' : World} {a : RV} {q : Rat} (h : a.In L w q) {g : Nat} {t : TypeId} {cs : Array Value} (hb : Blk w g t cs) (hn : NoU cs) (o : Own g w w') : a.In L w' q := by
  obtain ⟨y, z, ⟨m, ⟨xs, d1, k1⟩, e1⟩, ⟨n, ⟨ys, d2, k2⟩, e2⟩, e⟩ := h
  exact ⟨y, z, ⟨m, ⟨xs, d1.own hb hn o, k1⟩, e1⟩, ⟨n, ⟨ys, d2.own hb hn o, k2⟩, e2⟩, e⟩
def BoxAt (w : World) (X : Nat) (lx ly hx hy : Rat) : Prop := ∃ a b c d : RV, Blk w X 92 ([.bool a.n, .slice a.p a.l a.c, .bool a.m, .slice a.p2 a.l2 a.c2, .bool b.n, .slice b.p b.l b.c, .bool b.m, .slice b.p2 b.l2 b.c2, .bool c.n, .slice c.p c.l c.c, .bool c.m, .slice c.p2 c.l2 c.c2, .bool d.n, .slice d.p d.l d.c, .bool d.m, .slice d.p2 d.l2 d.c2, .bool true] : List Value).toArray ∧ a.Is w lx ∧ b.Is w ly ∧ c.Is w hx ∧ d.Is w hy
def Turn (X : Nat) (w w' : World) : Prop := Own X w w' ∧ ∀ (r : RV) (q : Rat), r.Is w q → r.Is w' q
theorem Turn.of_ext {X : Nat} {w w' : World} (h : Ext w w') : Turn X w w' := ⟨Own.of_ext h, fun _ _ k => k.ext h⟩
theorem Turn.trans {X : Nat} {a b c : World} (h : Turn X a b) (k : Turn X b c) : Turn X a c := ⟨h.1.trans k.1, fun r q x => k.2 r q (h.2 r q x)⟩
theorem xcmp {L : Nat} {w : World} {a b : RV} {q r : Rat} (h : a.In L w q) (h' : b.In L w r) (hL : L ≤ 70000) : Calls Try.prog 54 #[.agg #[.bool a.n, .slice a.p a.l a.c, .bool a.m, .slice a.p2 a.l2 a.c2], .agg #[.bool b.n, .slice b.p b.l b.c, .bool b.m, .slice b.p2 b.l2 b.c2]] w fun e w' => e = .returned (.int .i64 (rcmp q r)) ∧ Ext w w' := rcmp_any _ _ _ _ _ _ _ _ L q r w h h' hL
def lower (q l : Rat) : Rat := if q < l then q else l
def upper (q h : Rat) : Rat := if h < q then q else h
theorem lower_t {q l : Rat} (h : rcmp q l < 0) : lower q l = q := if_pos (rcmp_lt.1 h)
theorem lower_f {q l : Rat} (h : ¬ rcmp q l < 0) : lower q l = l := if_neg (fun x => h (rcmp_lt.2 x))
theorem rcmp_gt' {q r : Rat} : 0 < rcmp q r ↔ r < q := by
  have h : rcmp r q = - rcmp q r := by
    unfold rcmp
    rw [← Int.sign_neg]
    congr 1
    omega
  have h2 := rcmp_lt (q := r) (r := q)
  rw [h] at h2
  constructor
  · intro x; exact h2.1 (by omega)
  · intro x; have := h2.2 x; omega
theorem upper_t {q l : Rat} (h : 0 < rcmp q l) : upper q l = q := if_pos (rcmp_gt'.1 h)
theorem upper_f {q l : Rat} (h : ¬ 0 < rcmp q l) : upper q l = l := if_neg (fun x => h (rcmp_gt'.2 x))
set_option maxRecDepth 20000 in
set_option maxHeartbeats 8000000 in
theorem add0_any (L X : Nat) (n : RV) (lx ly hx hy q : Rat) (w : World) (hb : BoxAt w X lx ly hx hy) (hn : n.In L w q) (hlo : Nm.rl lx ≤ L) (hhi : Nm.rl hx ≤ L) (hL : L ≤ 60000) :
    Calls Try.prog 55 #[.pointer (some ⟨X, 0, none⟩), .int .i64 0, .agg #[.bool n.n, .slice n.p n.l n.c, .bool n.m, .slice n.p2 n.l2 n.c2]] w fun e w' => e = .returned (.tuple #[]) ∧ BoxAt w' X (lower q lx) ly (upper q hx) hy ∧ Turn X w w' := by
  obtain ⟨a, b, c, d, hX, ha, hb, hc, hd⟩ := hb
  have Fa := Lib.hid ha
  have Fb := Lib.hid hb
  have Fc := Lib.hid hc
  have Fd := Lib.hid hd
  have Fn := Lib.hid hn
  have FbX := Lib.hid hX
  have hlt := Blk.lt hX
  clear ha hb hc hd hn hX
  go_enter Try.func55, Try.ntmps55
  go_upto_region 1 with fail
  have hbx0 : Blk (w.alloc (.cells #[.bool n.n, .slice n.p n.l n.c, .bool n.m, .slice n.p2 n.l2 n.c2] 41)) (w.heap.size) 41 #[.bool n.n, .slice n.p n.l n.c, .bool n.m, .slice n.p2 n.l2 n.c2] := Blk.ext (Blk.new_at w _ (by simp) _ _) (Ext.refl _)
  have hE : Ext w (w.alloc (.cells #[.bool n.n, .slice n.p n.l n.c, .bool n.m, .slice n.p2 n.l2 n.c2] 41)) := ((Ext.refl _).alloc _)
  generalize (w.alloc (.cells #[.bool n.n, .slice n.p n.l n.c, .bool n.m, .slice n.p2 n.l2 n.c2] 41)) = wa at *
  have E1 := Lib.hid (show Ext w wa from hE)
  have Fbx0 := Lib.hid hbx0
  clear hE hbx0
  have nbx0_bX : w.heap.size ≠ X := by omega
  have TT := Lib.hid (Turn.of_ext (X := X) (Ext.refl w))
  by_cases hlt1 : rcmp q lx < 0
  · by_cases hgt1 : 0 < rcmp q hx
    · refine wp_region_held_drew (S := fun x => Ext wa x) (by kernel_rfl) (Ext.refl _).drew (fun _ => ?_)
      have E2 := Lib.hid (show Ext wa wa.drew from (Ext.refl _).drew)
      refine md_range (i := 0) (listed' := #[true, false, false, false, false, false, false, false, false]) (by rfl) (by kernel_rfl) (by kernel_rfl) (by kernel_rfl) _ _ (by rfl) w.heap.size 0 [.bool n.n, .slice n.p n.l n.c, .bool n.m, .slice n.p2 n.l2 n.c2] _ (by intro _ _ _ h; exact h) (by rfl) (by rfl) (fun x hx => ((Fbx0.out).ext hx).part 0 4) Try.underlying41 (by rfl) (by kernel_rfl) E2.out (by kernel_rfl) ?_
      (try simp only [Act.put, sIT, sC0, sCS])
      refine md_val (i := 1) (v := ?vm1) (listed' := #[true, true, false, false, false, false, false, false, false]) (by rfl) (by kernel_rfl) (by kernel_rfl) (by kernel_rfl) (by intro _ _ _ h; exact h) (by rfl) ?hm1 E2.out (by kernel_rfl) ?rm1
      case hm1 => (intro w hSw; (try dsimp only at hSw); go_simp <;> with_reducible rfl)
      (try simp only [Act.put, sIT, sC0, sCS])
      refine md_val (i := 2) (v := ?vm2) (listed' := #[true, true, true, false, false, false, false, false, false]) (by rfl) (by kernel_rfl) (by kernel_rfl) (by kernel_rfl) (by intro _ _ _ h; exact h) (by rfl) ?hm2 E2.out (by kernel_rfl) ?rm2
      case hm2 => (intro w hSw; (try dsimp only at hSw); go_simp <;> with_reducible rfl)
      (try simp only [Act.put, sIT, sC0, sCS])
      refine md_val (i := 3) (v := ?vm3) (listed' := #[true, true, true, true, false, false, false, false, false]) (by rfl) (by kernel_rfl) (by kernel_rfl) (by kernel_rfl) (by intro _ _ _ h; exact h) (by rfl) ?hm3 E2.out (by kernel_rfl) ?rm3
      case hm3 => (intro w hSw; (try dsimp only at hSw); go_simp <;> with_reducible rfl)
      (try simp only [Act.put, sIT, sC0, sCS])
      refine md_val (i := 4) (v := ?vm4) (listed' := #[true, true, true, true, true, false, false, false, false]) (by rfl) (by kernel_rfl) (by kernel_rfl) (by kernel_rfl) (by intro _ _ _ h; exact h) (by rfl) ?hm4 E2.out (by kernel_rfl) ?rm4
      case hm4 => (intro w hSw; (try dsimp only at hSw); go_simp <;> with_reducible rfl)
      (try simp only [Act.put, sIT, sC0, sCS])
      refine md_val (i := 5) (v := ?vm5) (listed' := #[true, true, true, true, true, true, false, false, false]) (by rfl) (by kernel_rfl) (by kernel_rfl) (by kernel_rfl) (by intro _ _ _ h; exact h) (by rfl) ?hm5 E2.out (by kernel_rfl) ?rm5
      case hm5 => (intro w hSw; (try dsimp only at hSw); go_simp <;> with_reducible rfl)
      (try simp only [Act.put, sIT, sC0, sCS])
      refine md_range (i := 6) (listed' := #[true, true, true, true, true, true, true, false, false]) (by rfl) (by kernel_rfl) (by kernel_rfl) (by kernel_rfl) _ _ (by rfl) X 0 [.bool a.n, .slice a.p a.l a.c, .bool a.m, .slice a.p2 a.l2 a.c2] _ (by intro _ _ _ h; exact h) (by rfl) (by rfl) (fun x hx => (((FbX.out.ext E1.out)).ext hx).part 0 4) Try.underlying41 (by rfl) (by kernel_rfl) E2.out (by kernel_rfl) ?_
      (try simp only [Act.put, sIT, sC0, sCS])
      refine md_call (i := 7) (listed' := #[true, true, true, true, true, true, true, true, false]) (by rfl) (by kernel_rfl) (by rfl) (by go_simp) (xcmp (L := L) (Fn.out.ext (E1.out.trans E2.out)) ((Fa.out.ext (E1.out.trans E2.out)).isIn hlo) (by omega)) (by kernel_rfl) ?_
      rintro e w3 ⟨rfl, hx⟩
      have E3 := Lib.hid (show Ext wa.drew w3 from hx)
      clear hx
      refine ⟨_, rfl, (E2.out.trans E3.out), ?_⟩
      (try simp only [Act.put, sIT, sC0, sCS])
      refine md_val (i := 8) (v := ?vm6) (listed' := #[true, true, true, true, true, true, true, true, true]) (by rfl) (by kernel_rfl) (by kernel_rfl) (by kernel_rfl) (by intro _ _ _ h; exact h) (by rfl) ?hm6 (E2.out.trans E3.out) (by kernel_rfl) ?rm6
      case hm6 => (intro w hSw; (try dsimp only at hSw); go_simp <;> with_reducible rfl)
      (try simp only [Act.put, sIT, sC0, sCS])
      refine wpAnyH_done (by kernel_rfl) ?_ _
      go_upto_region 2 with fail
      refine wp_region_held_drew (S := fun x => Own X w3 x) (by kernel_rfl) (Own.of_ext (Ext.refl _).drew) (fun _ => ?_)
      have E4 := Lib.hid (show Ext w3 w3.drew from (Ext.refl _).drew)
      refine md_val (i := 0) (v := ?vm7) (listed' := #[true, false, false, false, false, false, false, false]) (by rfl) (by kernel_rfl) (by kernel_rfl) (by kernel_rfl) (by intro _ _ _ h; exact h) (by rfl) ?hm7 (Own.of_ext E4.out) (by kernel_rfl) ?rm7
      case hm7 => (intro w hSw; (try dsimp only at hSw); go_simp <;> with_reducible rfl)
      (try simp only [Act.put, sIT, sC0, sCS])
      refine md_val (i := 1) (v := ?vm8) (listed' := #[true, true, false, false, false, false, false, false]) (by rfl) (by kernel_rfl) (by kernel_rfl) (by kernel_rfl) (by intro _ _ _ h; exact h) (by rfl) ?hm8 (Own.of_ext E4.out) (by kernel_rfl) ?rm8
      case hm8 => (intro w hSw; (try dsimp only at hSw); go_simp <;> with_reducible rfl)
      (try simp only [Act.put, sIT, sC0, sCS])
      refine md_range (i := 2) (listed' := #[true, true, true, false, false, false, false, false]) (by rfl) (by kernel_rfl) (by kernel_rfl) (by kernel_rfl) _ _ (by rfl) w.heap.size 0 [.bool n.n, .slice n.p n.l n.c, .bool n.m, .slice n.p2 n.l2 n.c2] _ (by intro _ _ _ h; exact h) (by rfl) (by rfl) (fun x hx => (((Fbx0.out.ext (E2.out.trans E3.out))).own hx nbx0_bX).part 0 4) Try.underlying41 (by rfl) (by kernel_rfl) (Own.of_ext E4.out) (by kernel_rfl) ?_
      (try simp only [Act.put, sIT, sC0, sCS])
      refine md_val (i := 4) (v := ?vm9) (listed' := #[true, true, true, false, true, false, false, false]) (by rfl) (by kernel_rfl) (by kernel_rfl) (by kernel_rfl) (by intro _ _ _ h; exact h) (by rfl) ?hm9 (Own.of_ext E4.out) (by kernel_rfl) ?rm9
      case hm9 => (intro w hSw; (try dsimp only at hSw); go_simp <;> with_reducible rfl)
      (try simp only [Act.put, sIT, sC0, sCS])
      refine md_val (i := 5) (v := ?vm10) (listed' := #[true, true, true, false, true, true, false, false]) (by rfl) (by kernel_rfl) (by kernel_rfl) (by kernel_rfl) (by intro _ _ _ h; exact h) (by rfl) ?hm10 (Own.of_ext E4.out) (by kernel_rfl) ?rm10
      case hm10 => (intro w hSw; (try dsimp only at hSw); go_simp <;> with_reducible rfl)
      (try simp only [Act.put, sIT, sC0, sCS])
      refine md_call (i := 3) (listed' := #[true, true, true, true, true, true, false, false]) (by rfl) (by kernel_rfl) (by rfl) (by go_simp) (xnorm (L := L) (Fn.out.ext (E1.out.trans (E2.out.trans (E3.out.trans E4.out)))) (by omega)) (by kernel_rfl) ?_
      rintro e w5 ⟨u1, rfl, hc, hx⟩
      have E5 := Lib.hid (show Ext w3.drew w5 from hx)
      have Fu1 := Lib.hid hc
      clear hc
      clear hx
      refine ⟨_, rfl, (Own.of_ext (E4.out.trans E5.out)), ?_⟩
      (try simp only [Act.put, sIT, sC0, sCS])
      refine md_val (i := 6) (v := ?vm11) (listed' := #[true, true, true, true, true, true, true, false]) (by rfl) (by kernel_rfl) (by kernel_rfl) (by kernel_rfl) (by intro _ _ _ h; exact h) (by rfl) ?hm11 (Own.of_ext (E4.out.trans E5.out)) (by kernel_rfl) ?rm11
      case hm11 => (intro w hSw; (try dsimp only at hSw); go_simp <;> with_reducible rfl)
      (try simp only [Act.put, sIT, sC0, sCS])
      have kb := (FbX.out.ext (E1.out.trans (E2.out.trans (E3.out.trans (E4.out.trans E5.out)))))
      have ob : Own X w5 (w5.setCells X 0 (#[.bool u1.n, .slice u1.p u1.l u1.c, .bool u1.m, .slice u1.p2 u1.l2 u1.c2] : Array Value).toList) := Own.setCells_l _ _ (Own.refl _ _)
      have kc := kb.setPart 0 (#[.bool u1.n, .slice u1.p u1.l u1.c, .bool u1.m, .slice u1.p2 u1.l2 u1.c2] : Array Value).toList (by simp)
      refine md_pstore (i := 7) (listed' := #[true, true, true, true, true, true, true, true]) (by rfl) (by kernel_rfl) (by rfl) _ _ _ (by rfl) X 0 _ [.bool a.n, .slice a.p a.l a.c, .bool a.m, .slice a.p2 a.l2 a.c2, .bool b.n, .slice b.p b.l b.c, .bool b.m, .slice b.p2 b.l2 b.c2, .bool c.n, .slice c.p c.l c.c, .bool c.m, .slice c.p2 c.l2 c.c2, .bool d.n, .slice d.p d.l d.c, .bool d.m, .slice d.p2 d.l2 d.c2, .bool true] #[.bool u1.n, .slice u1.p u1.l u1.c, .bool u1.m, .slice u1.p2 u1.l2 u1.c2] (by rfl) (by rfl) kb (by simp) (by kernel_rfl) (all_oneCell_toArray (by simp [Value.oneCell'])) (Own.then_ext' (E4.out.trans E5.out) ob) (by kernel_rfl) ?_
      (try simp only [Act.put])
      refine wpAnyH_done (by kernel_rfl) ?_ _
      have kc2 : Blk (w5.setCells X 0 (#[.bool u1.n, .slice u1.p u1.l u1.c, .bool u1.m, .slice u1.p2 u1.l2 u1.c2] : Array Value).toList) X 92 ([.bool u1.n, .slice u1.p u1.l u1.c, .bool u1.m, .slice u1.p2 u1.l2 u1.c2, .bool b.n, .slice b.p b.l b.c, .bool b.m, .slice b.p2 b.l2 b.c2, .bool c.n, .slice c.p c.l c.c, .bool c.m, .slice c.p2 c.l2 c.c2, .bool d.n, .slice d.p d.l d.c, .bool d.m, .slice d.p2 d.l2 d.c2, .bool true] : List Value).toArray := kc
      have tn : Turn X w (w5.setCells X 0 (#[.bool u1.n, .slice u1.p u1.l u1.c, .bool u1.m, .slice u1.p2 u1.l2 u1.c2] : Array Value).toList) := (TT.out.trans (Turn.of_ext (E1.out.trans (E2.out.trans (E3.out.trans (E4.out.trans E5.out)))))).trans ⟨ob, fun r q h => h.own kb (noU_of _ (by simp)) ob⟩
      have ib := (Fb.out.ext (E1.out.trans (E2.out.trans (E3.out.trans (E4.out.trans E5.out))))).own kb (noU_of _ (by simp)) ob
      have iu1 := Fu1.out.own kb (noU_of _ (by simp)) ob
      have id := (Fd.out.ext (E1.out.trans (E2.out.trans (E3.out.trans (E4.out.trans E5.out))))).own kb (noU_of _ (by simp)) ob
      have ic := (Fc.out.ext (E1.out.trans (E2.out.trans (E3.out.trans (E4.out.trans E5.out))))).own kb (noU_of _ (by simp)) ob
      have in_ := (Fn.out.ext (E1.out.trans (E2.out.trans (E3.out.trans (E4.out.trans E5.out))))).own kb (noU_of _ (by simp)) ob
      have ib0 := (Fbx0.out.ext (E2.out.trans (E3.out.trans (E4.out.trans E5.out)))).own ob nbx0_bX
      clear kc kb ob
      generalize (w5.setCells X 0 (#[.bool u1.n, .slice u1.p u1.l u1.c, .bool u1.m, .slice u1.p2 u1.l2 u1.c2] : Array Value).toList) = wz2 at *
      have TT := Lib.hid tn
      clear tn
      have Fb := Lib.hid ib
      have Fu1 := Lib.hid iu1
      have Fd := Lib.hid id
      have Fc := Lib.hid ic
      have Fn := Lib.hid in_
      have Fbx0 := Lib.hid ib0
      have FbX := Lib.hid kc2
      clear kc2 in_ ib0 ib iu1 id ic
      go_upto_region 3 with fail
      refine wp_region_held_drew (S := fun x => Ext wz2 x) (by kernel_rfl) (Ext.refl _).drew (fun _ => ?_)
      have E1 := Lib.hid (show Ext wz2 wz2.drew from (Ext.refl _).drew)
      refine md_range (i := 0) (listed' := #[true, false, false, false, false, false, false, false, false]) (by rfl) (by kernel_rfl) (by kernel_rfl) (by kernel_rfl) _ _ (by rfl) w.heap.size 0 [.bool n.n, .slice n.p n.l n.c, .bool n.m, .slice n.p2 n.l2 n.c2] _ (by intro _ _ _ h; exact h) (by rfl) (by rfl) (fun x hx => ((Fbx0.out).ext hx).part 0 4) Try.underlying41 (by rfl) (by kernel_rfl) E1.out (by kernel_rfl) ?_
      (try simp only [Act.put, sIT, sC0, sCS])
      refine md_val (i := 1) (v := ?vm12) (listed' := #[true, true, false, false, false, false, false, false, false]) (by rfl) (by kernel_rfl) (by kernel_rfl) (by kernel_rfl) (by intro _ _ _ h; exact h) (by rfl) ?hm12 E1.out (by kernel_rfl) ?rm12
      case hm12 => (intro w hSw; (try dsimp only at hSw); go_simp <;> with_reducible rfl)
      (try simp only [Act.put, sIT, sC0, sCS])
      refine md_val (i := 2) (v := ?vm13) (listed' := #[true, true, true, false, false, false, false, false, false]) (by rfl) (by kernel_rfl) (by kernel_rfl) (by kernel_rfl) (by intro _ _ _ h; exact h) (by rfl) ?hm13 E1.out (by kernel_rfl) ?rm13
      case hm13 => (intro w hSw; (try dsimp only at hSw); go_simp <;> with_reducible rfl)
      (try simp only [Act.put, sIT, sC0, sCS])
      refine md_val (i := 3) (v := ?vm14) (listed' := #[true, true, true, true, false, false, false, false, false]) (by rfl) (by kernel_rfl) (by kernel_rfl) (by kernel_rfl) (by intro _ _ _ h; exact h) (by rfl) ?hm14 E1.out (by kernel_rfl) ?rm14
      case hm14 => (intro w hSw; (try dsimp only at hSw); go_simp <;> with_reducible rfl)
      (try simp only [Act.put, sIT, sC0, sCS])
      refine md_val (i := 4) (v := ?vm15) (listed' := #[true, true, true, true, true, false, false, false, false]) (by rfl) (by kernel_rfl) (by kernel_rfl) (by kernel_rfl) (by intro _ _ _ h; exact h) (by rfl) ?hm15 E1.out (by kernel_rfl) ?rm15
      case hm15 => (intro w hSw; (try dsimp only at hSw); go_simp <;> with_reducible rfl)
      (try simp only [Act.put, sIT, sC0, sCS])
      refine md_val (i := 5) (v := ?vm16) (listed' := #[true, true, true, true, true, true, false, false, false]) (by rfl) (by kernel_rfl) (by kernel_rfl) (by kernel_rfl) (by intro _ _ _ h; exact h) (by rfl) ?hm16 E1.out (by kernel_rfl) ?rm16
      case hm16 => (intro w hSw; (try dsimp only at hSw); go_simp <;> with_reducible rfl)
      (try simp only [Act.put, sIT, sC0, sCS])
      refine md_range (i := 6) (listed' := #[true, true, true, true, true, true, true, false, false]) (by rfl) (by kernel_rfl) (by kernel_rfl) (by kernel_rfl) _ _ (by rfl) X 8 [.bool c.n, .slice c.p c.l c.c, .bool c.m, .slice c.p2 c.l2 c.c2] _ (by intro _ _ _ h; exact h) (by rfl) (by rfl) (fun x hx => ((FbX.out).ext hx).part 8 4) Try.underlying41 (by rfl) (by kernel_rfl) E1.out (by kernel_rfl) ?_
      (try simp only [Act.put, sIT, sC0, sCS])
      refine md_call (i := 7) (listed' := #[true, true, true, true, true, true, true, true, false]) (by rfl) (by kernel_rfl) (by rfl) (by go_simp) (xcmp (L := L) (Fn.out.ext E1.out) ((Fc.out.ext E1.out).isIn hhi) (by omega)) (by kernel_rfl) ?_
      rintro e w2 ⟨rfl, hx⟩
      have E2 := Lib.hid (show Ext wz2.drew w2 from hx)
      clear hx
      refine ⟨_, rfl, (E1.out.trans E2.out), ?_⟩
      (try simp only [Act.put, sIT, sC0, sCS])
      refine md_val (i := 8) (v := ?vm17) (listed' := #[true, true, true, true, true, true, true, true, true]) (by rfl) (by kernel_rfl) (by kernel_rfl) (by kernel_rfl) (by intro _ _ _ h; exact h) (by rfl) ?hm17 (E1.out.trans E2.out) (by kernel_rfl) ?rm17
      case hm17 => (intro w hSw; (try dsimp only at hSw); go_simp <;> with_reducible rfl)
      (try simp only [Act.put, sIT, sC0, sCS])
      refine wpAnyH_done (by kernel_rfl) ?_ _
      go_upto_region 4 with fail
      refine wp_region_held_drew (S := fun x => Own X w2 x) (by kernel_rfl) (Own.of_ext (Ext.refl _).drew) (fun _ => ?_)
      have E3 := Lib.hid (show Ext w2 w2.drew from (Ext.refl _).drew)
      refine md_val (i := 0) (v := ?vm18) (listed' := #[true, false, false, false, false, false, false, false]) (by rfl) (by kernel_rfl) (by kernel_rfl) (by kernel_rfl) (by intro _ _ _ h; exact h) (by rfl) ?hm18 (Own.of_ext E3.out) (by kernel_rfl) ?rm18
      case hm18 => (intro w hSw; (try dsimp only at hSw); go_simp <;> with_reducible rfl)
      (try simp only [Act.put, sIT, sC0, sCS])
      refine md_val (i := 1) (v := ?vm19) (listed' := #[true, true, false, false, false, false, false, false]) (by rfl) (by kernel_rfl) (by kernel_rfl) (by kernel_rfl) (by intro _ _ _ h; exact h) (by rfl) ?hm19 (Own.of_ext E3.out) (by kernel_rfl) ?rm19
      case hm19 => (intro w hSw; (try dsimp only at hSw); go_simp <;> with_reducible rfl)
      (try simp only [Act.put, sIT, sC0, sCS])
      refine md_range (i := 2) (listed' := #[true, true, true, false, false, false, false, false]) (by rfl) (by kernel_rfl) (by kernel_rfl) (by kernel_rfl) _ _ (by rfl) w.heap.size 0 [.bool n.n, .slice n.p n.l n.c, .bool n.m, .slice n.p2 n.l2 n.c2] _ (by intro _ _ _ h; exact h) (by rfl) (by rfl) (fun x hx => (((Fbx0.out.ext (E1.out.trans E2.out))).own hx nbx0_bX).part 0 4) Try.underlying41 (by rfl) (by kernel_rfl) (Own.of_ext E3.out) (by kernel_rfl) ?_
      (try simp only [Act.put, sIT, sC0, sCS])
      refine md_val (i := 4) (v := ?vm20) (listed' := #[true, true, true, false, true, false, false, false]) (by rfl) (by kernel_rfl) (by kernel_rfl) (by kernel_rfl) (by intro _ _ _ h; exact h) (by rfl) ?hm20 (Own.of_ext E3.out) (by kernel_rfl) ?rm20
      case hm20 => (intro w hSw; (try dsimp only at hSw); go_simp <;> with_reducible rfl)
      (try simp only [Act.put, sIT, sC0, sCS])
      refine md_val (i := 5) (v := ?vm21) (listed' := #[true, true, true, false, true, true, false, false]) (by rfl) (by kernel_rfl) (by kernel_rfl) (by kernel_rfl) (by intro _ _ _ h; exact h) (by rfl) ?hm21 (Own.of_ext E3.out) (by kernel_rfl) ?rm21
      case hm21 => (intro w hSw; (try dsimp only at hSw); go_simp <;> with_reducible rfl)
      (try simp only [Act.put, sIT, sC0, sCS])
      refine md_call (i := 3) (listed' := #[true, true, true, true, true, true, false, false]) (by rfl) (by kernel_rfl) (by rfl) (by go_simp) (xnorm (L := L) (Fn.out.ext (E1.out.trans (E2.out.trans E3.out))) (by omega)) (by kernel_rfl) ?_
      rintro e w4 ⟨u2, rfl, hc, hx⟩
      have E4 := Lib.hid (show Ext w2.drew w4 from hx)
      have Fu2 := Lib.hid hc
      clear hc
      clear hx
      refine ⟨_, rfl, (Own.of_ext (E3.out.trans E4.out)), ?_⟩
      (try simp only [Act.put, sIT, sC0, sCS])
      refine md_val (i := 6) (v := ?vm22) (listed' := #[true, true, true, true, true, true, true, false]) (by rfl) (by kernel_rfl) (by kernel_rfl) (by kernel_rfl) (by intro _ _ _ h; exact h) (by rfl) ?hm22 (Own.of_ext (E3.out.trans E4.out)) (by kernel_rfl) ?rm22
      case hm22 => (intro w hSw; (try dsimp only at hSw); go_simp <;> with_reducible rfl)
      (try simp only [Act.put, sIT, sC0, sCS])
      have kb := (FbX.out.ext (E1.out.trans (E2.out.trans (E3.out.trans E4.out))))
      have ob : Own X w4 (w4.setCells X 8 (#[.bool u2.n, .slice u2.p u2.l u2.c, .bool u2.m, .slice u2.p2 u2.l2 u2.c2] : Array Value).toList) := Own.setCells_l _ _ (Own.refl _ _)
      have kc := kb.setPart 8 (#[.bool u2.n, .slice u2.p u2.l u2.c, .bool u2.m, .slice u2.p2 u2.l2 u2.c2] : Array Value).toList (by simp)
      refine md_pstore (i := 7) (listed' := #[true, true, true, true, true, true, true, true]) (by rfl) (by kernel_rfl) (by rfl) _ _ _ (by rfl) X 8 _ [.bool u1.n, .slice u1.p u1.l u1.c, .bool u1.m, .slice u1.p2 u1.l2 u1.c2, .bool b.n, .slice b.p b.l b.c, .bool b.m, .slice b.p2 b.l2 b.c2, .bool c.n, .slice c.p c.l c.c, .bool c.m, .slice c.p2 c.l2 c.c2, .bool d.n, .slice d.p d.l d.c, .bool d.m, .slice d.p2 d.l2 d.c2, .bool true] #[.bool u2.n, .slice u2.p u2.l u2.c, .bool u2.m, .slice u2.p2 u2.l2 u2.c2] (by rfl) (by rfl) kb (by simp) (by kernel_rfl) (all_oneCell_toArray (by simp [Value.oneCell'])) (Own.then_ext' (E3.out.trans E4.out) ob) (by kernel_rfl) ?_
      (try simp only [Act.put])
      refine wpAnyH_done (by kernel_rfl) ?_ _
      have kc2 : Blk (w4.setCells X 8 (#[.bool u2.n, .slice u2.p u2.l u2.c, .bool u2.m, .slice u2.p2 u2.l2 u2.c2] : Array Value).toList) X 92 ([.bool u1.n, .slice u1.p u1.l u1.c, .bool u1.m, .slice u1.p2 u1.l2 u1.c2, .bool b.n, .slice b.p b.l b.c, .bool b.m, .slice b.p2 b.l2 b.c2, .bool u2.n, .slice u2.p u2.l u2.c, .bool u2.m, .slice u2.p2 u2.l2 u2.c2, .bool d.n, .slice d.p d.l d.c, .bool d.m, .slice d.p2 d.l2 d.c2, .bool true] : List Value).toArray := kc
      have tn : Turn X w (w4.setCells X 8 (#[.bool u2.n, .slice u2.p u2.l u2.c, .bool u2.m, .slice u2.p2 u2.l2 u2.c2] : Array Value).toList) := (TT.out.trans (Turn.of_ext (E1.out.trans (E2.out.trans (E3.out.trans E4.out))))).trans ⟨ob, fun r q h => h.own kb (noU_of _ (by simp)) ob⟩
      have ib := (Fb.out.ext (E1.out.trans (E2.out.trans (E3.out.trans E4.out)))).own kb (noU_of _ (by simp)) ob
      have iu1 := (Fu1.out.ext (E1.out.trans (E2.out.trans (E3.out.trans E4.out)))).own kb (noU_of _ (by simp)) ob
      have id := (Fd.out.ext (E1.out.trans (E2.out.trans (E3.out.trans E4.out)))).own kb (noU_of _ (by simp)) ob
      have iu2 := Fu2.out.own kb (noU_of _ (by simp)) ob
      have in_ := (Fn.out.ext (E1.out.trans (E2.out.trans (E3.out.trans E4.out)))).own kb (noU_of _ (by simp)) ob
      have ib0 := (Fbx0.out.ext (E1.out.trans (E2.out.trans (E3.out.trans E4.out)))).own ob nbx0_bX
      clear kc kb ob
      generalize (w4.setCells X 8 (#[.bool u2.n, .slice u2.p u2.l u2.c, .bool u2.m, .slice u2.p2 u2.l2 u2.c2] : Array Value).toList) = wz4 at *
      have TT := Lib.hid tn
      clear tn
      have Fb := Lib.hid ib
      have Fu1 := Lib.hid iu1
      have Fd := Lib.hid id
      have Fu2 := Lib.hid iu2
      have Fn := Lib.hid in_
      have Fbx0 := Lib.hid ib0
      have FbX := Lib.hid kc2
      clear kc2 in_ ib0 ib iu1 id iu2
      go_wp2_with fail
      first | refine bodyPost_end (v := .tuple #[]) (results_none rfl _ _ _) rfl ?_ | refine bodyPost_ret (v := .tuple #[]) (results_none rfl _ _ _) rfl ?_
      rw [lower_t (by omega), upper_t (by omega)]
      exact ⟨rfl, ⟨u1, b, u2, d, FbX.out, Fu1.out, Fb.out, Fu2.out, Fd.out⟩, TT.out.trans (Turn.of_ext (Ext.refl _))⟩
    · refine wp_region_held_drew (S := fun x => Ext wa x) (by kernel_rfl) (Ext.refl _).drew (fun _ => ?_)
      have E2 := Lib.hid (show Ext wa wa.drew from (Ext.refl _).drew)
      refine md_range (i := 0) (listed' := #[true, false, false, false, false, false, false, false, false]) (by rfl) (by kernel_rfl) (by kernel_rfl) (by kernel_rfl) _ _ (by rfl) w.heap.size 0 [.bool n.n, .slice n.p n.l n.c, .bool n.m, .slice n.p2 n.l2 n.c2] _ (by intro _ _ _ h; exact h) (by rfl) (by rfl) (fun x hx => ((Fbx0.out).ext hx).part 0 4) Try.underlying41 (by rfl) (by kernel_rfl) E2.out (by kernel_rfl) ?_
      (try simp only [Act.put, sIT, sC0, sCS])
      refine md_val (i := 1) (v := ?vm23) (listed' := #[true, true, false, false, false, false, false, false, false]) (by rfl) (by kernel_rfl) (by kernel_rfl) (by kernel_rfl) (by intro _ _ _ h; exact h) (by rfl) ?hm23 E2.out (by kernel_rfl) ?rm23
      case hm23 => (intro w hSw; (try dsimp only at hSw); go_simp <;> with_reducible rfl)
      (try simp only [Act.put, sIT, sC0, sCS])
      refine md_val (i := 2) (v := ?vm24) (listed' := #[true, true, true, false, false, false, false, false, false]) (by rfl) (by kernel_rfl) (by kernel_rfl) (by kernel_rfl) (by intro _ _ _ h; exact h) (by rfl) ?hm24 E2.out (by kernel_rfl) ?rm24
      case hm24 => (intro w hSw; (try dsimp only at hSw); go_simp <;> with_reducible rfl)
      (try simp only [Act.put, sIT, sC0, sCS])
      refine md_val (i := 3) (v := ?vm25) (listed' := #[true, true, true, true, false, false, false, false, false]) (by rfl) (by kernel_rfl) (by kernel_rfl) (by kernel_rfl) (by intro _ _ _ h; exact h) (by rfl) ?hm25 E2.out (by kernel_rfl) ?rm25
      case hm25 => (intro w hSw; (try dsimp only at hSw); go_simp <;> with_reducible rfl)
      (try simp only [Act.put, sIT, sC0, sCS])
      refine md_val (i := 4) (v := ?vm26) (listed' := #[true, true, true, true, true, false, false, false, false]) (by rfl) (by kernel_rfl) (by kernel_rfl) (by kernel_rfl) (by intro _ _ _ h; exact h) (by rfl) ?hm26 E2.out (by kernel_rfl) ?rm26
      case hm26 => (intro w hSw; (try dsimp only at hSw); go_simp <;> with_reducible rfl)
      (try simp only [Act.put, sIT, sC0, sCS])
      refine md_val (i := 5) (v := ?vm27) (listed' := #[true, true, true, true, true, true, false, false, false]) (by rfl) (by kernel_rfl) (by kernel_rfl) (by kernel_rfl) (by intro _ _ _ h; exact h) (by rfl) ?hm27 E2.out (by kernel_rfl) ?rm27
      case hm27 => (intro w hSw; (try dsimp only at hSw); go_simp <;> with_reducible rfl)
      (try simp only [Act.put, sIT, sC0, sCS])
      refine md_range (i := 6) (listed' := #[true, true, true, true, true, true, true, false, false]) (by rfl) (by kernel_rfl) (by kernel_rfl) (by kernel_rfl) _ _ (by rfl) X 0 [.bool a.n, .slice a.p a.l a.c, .bool a.m, .slice a.p2 a.l2 a.c2] _ (by intro _ _ _ h; exact h) (by rfl) (by rfl) (fun x hx => (((FbX.out.ext E1.out)).ext hx).part 0 4) Try.underlying41 (by rfl) (by kernel_rfl) E2.out (by kernel_rfl) ?_
      (try simp only [Act.put, sIT, sC0, sCS])
      refine md_call (i := 7) (listed' := #[true, true, true, true, true, true, true, true, false]) (by rfl) (by kernel_rfl) (by rfl) (by go_simp) (xcmp (L := L) (Fn.out.ext (E1.out.trans E2.out)) ((Fa.out.ext (E1.out.trans E2.out)).isIn hlo) (by omega)) (by kernel_rfl) ?_
      rintro e w3 ⟨rfl, hx⟩
      have E3 := Lib.hid (show Ext wa.drew w3 from hx)
      clear hx
      refine ⟨_, rfl, (E2.out.trans E3.out), ?_⟩
      (try simp only [Act.put, sIT, sC0, sCS])
      refine md_val (i := 8) (v := ?vm28) (listed' := #[true, true, true, true, true, true, true, true, true]) (by rfl) (by kernel_rfl) (by kernel_rfl) (by kernel_rfl) (by intro _ _ _ h; exact h) (by rfl) ?hm28 (E2.out.trans E3.out) (by kernel_rfl) ?rm28
      case hm28 => (intro w hSw; (try dsimp only at hSw); go_simp <;> with_reducible rfl)
      (try simp only [Act.put, sIT, sC0, sCS])
      refine wpAnyH_done (by kernel_rfl) ?_ _
      go_upto_region 2 with fail
      refine wp_region_held_drew (S := fun x => Own X w3 x) (by kernel_rfl) (Own.of_ext (Ext.refl _).drew) (fun _ => ?_)
      have E4 := Lib.hid (show Ext w3 w3.drew from (Ext.refl _).drew)
      refine md_val (i := 0) (v := ?vm29) (listed' := #[true, false, false, false, false, false, false, false]) (by rfl) (by kernel_rfl) (by kernel_rfl) (by kernel_rfl) (by intro _ _ _ h; exact h) (by rfl) ?hm29 (Own.of_ext E4.out) (by kernel_rfl) ?rm29
      case hm29 => (intro w hSw; (try dsimp only at hSw); go_simp <;> with_reducible rfl)
      (try simp only [Act.put, sIT, sC0, sCS])
      refine md_val (i := 1) (v := ?vm30) (listed' := #[true, true, false, false, false, false, false, false]) (by rfl) (by kernel_rfl) (by kernel_rfl) (by kernel_rfl) (by intro _ _ _ h; exact h) (by rfl) ?hm30 (Own.of_ext E4.out) (by kernel_rfl) ?rm30
      case hm30 => (intro w hSw; (try dsimp only at hSw); go_simp <;> with_reducible rfl)
      (try simp only [Act.put, sIT, sC0, sCS])
      refine md_range (i := 2) (listed' := #[true, true, true, false, false, false, false, false]) (by rfl) (by kernel_rfl) (by kernel_rfl) (by kernel_rfl) _ _ (by rfl) w.heap.size 0 [.bool n.n, .slice n.p n.l n.c, .bool n.m, .slice n.p2 n.l2 n.c2] _ (by intro _ _ _ h; exact h) (by rfl) (by rfl) (fun x hx => (((Fbx0.out.ext (E2.out.trans E3.out))).own hx nbx0_bX).part 0 4) Try.underlying41 (by rfl) (by kernel_rfl) (Own.of_ext E4.out) (by kernel_rfl) ?_
      (try simp only [Act.put, sIT, sC0, sCS])
      refine md_val (i := 4) (v := ?vm31) (listed' := #[true, true, true, false, true, false, false, false]) (by rfl) (by kernel_rfl) (by kernel_rfl) (by kernel_rfl) (by intro _ _ _ h; exact h) (by rfl) ?hm31 (Own.of_ext E4.out) (by kernel_rfl) ?rm31
      case hm31 => (intro w hSw; (try dsimp only at hSw); go_simp <;> with_reducible rfl)
      (try simp only [Act.put, sIT, sC0, sCS])
      refine md_val (i := 5) (v := ?vm32) (listed' := #[true, true, true, false, true, true, false, false]) (by rfl) (by kernel_rfl) (by kernel_rfl) (by kernel_rfl) (by intro _ _ _ h; exact h) (by rfl) ?hm32 (Own.of_ext E4.out) (by kernel_rfl) ?rm32
      case hm32 => (intro w hSw; (try dsimp only at hSw); go_simp <;> with_reducible rfl)
      (try simp only [Act.put, sIT, sC0, sCS])
      refine md_call (i := 3) (listed' := #[true, true, true, true, true, true, false, false]) (by rfl) (by kernel_rfl) (by rfl) (by go_simp) (xnorm (L := L) (Fn.out.ext (E1.out.trans (E2.out.trans (E3.out.trans E4.out)))) (by omega)) (by kernel_rfl) ?_
      rintro e w5 ⟨u1, rfl, hc, hx⟩
      have E5 := Lib.hid (show Ext w3.drew w5 from hx)
      have Fu1 := Lib.hid hc
      clear hc
      clear hx
      refine ⟨_, rfl, (Own.of_ext (E4.out.trans E5.out)), ?_⟩
      (try simp only [Act.put, sIT, sC0, sCS])
      refine md_val (i := 6) (v := ?vm33) (listed' := #[true, true, true, true, true, true, true, false]) (by rfl) (by kernel_rfl) (by kernel_rfl) (by kernel_rfl) (by intro _ _ _ h; exact h) (by rfl) ?hm33 (Own.of_ext (E4.out.trans E5.out)) (by kernel_rfl) ?rm33
      case hm33 => (intro w hSw; (try dsimp only at hSw); go_simp <;> with_reducible rfl)
      (try simp only [Act.put, sIT, sC0, sCS])
      have kb := (FbX.out.ext (E1.out.trans (E2.out.trans (E3.out.trans (E4.out.trans E5.out)))))
      have ob : Own X w5 (w5.setCells X 0 (#[.bool u1.n, .slice u1.p u1.l u1.c, .bool u1.m, .slice u1.p2 u1.l2 u1.c2] : Array Value).toList) := Own.setCells_l _ _ (Own.refl _ _)
      have kc := kb.setPart 0 (#[.bool u1.n, .slice u1.p u1.l u1.c, .bool u1.m, .slice u1.p2 u1.l2 u1.c2] : Array Value).toList (by simp)
      refine md_pstore (i := 7) (listed' := #[true, true, true, true, true, true, true, true]) (by rfl) (by kernel_rfl) (by rfl) _ _ _ (by rfl) X 0 _ [.bool a.n, .slice a.p a.l a.c, .bool a.m, .slice a.p2 a.l2 a.c2, .bool b.n, .slice b.p b.l b.c, .bool b.m, .slice b.p2 b.l2 b.c2, .bool c.n, .slice c.p c.l c.c, .bool c.m, .slice c.p2 c.l2 c.c2, .bool d.n, .slice d.p d.l d.c, .bool d.m, .slice d.p2 d.l2 d.c2, .bool true] #[.bool u1.n, .slice u1.p u1.l u1.c, .bool u1.m, .slice u1.p2 u1.l2 u1.c2] (by rfl) (by rfl) kb (by simp) (by kernel_rfl) (all_oneCell_toArray (by simp [Value.oneCell'])) (Own.then_ext' (E4.out.trans E5.out) ob) (by kernel_rfl) ?_
      (try simp only [Act.put])
      refine wpAnyH_done (by kernel_rfl) ?_ _
      have kc2 : Blk (w5.setCells X 0 (#[.bool u1.n, .slice u1.p u1.l u1.c, .bool u1.m, .slice u1.p2 u1.l2 u1.c2] : Array Value).toList) X 92 ([.bool u1.n, .slice u1.p u1.l u1.c, .bool u1.m, .slice u1.p2 u1.l2 u1.c2, .bool b.n, .slice b.p b.l b.c, .bool b.m, .slice b.p2 b.l2 b.c2, .bool c.n, .slice c.p c.l c.c, .bool c.m, .slice c.p2 c.l2 c.c2, .bool d.n, .slice d.p d.l d.c, .bool d.m, .slice d.p2 d.l2 d.c2, .bool true] : List Value).toArray := kc
      have tn : Turn X w (w5.setCells X 0 (#[.bool u1.n, .slice u1.p u1.l u1.c, .bool u1.m, .slice u1.p2 u1.l2 u1.c2] : Array Value).toList) := (TT.out.trans (Turn.of_ext (E1.out.trans (E2.out.trans (E3.out.trans (E4.out.trans E5.out)))))).trans ⟨ob, fun r q h => h.own kb (noU_of _ (by simp)) ob⟩
      have ib := (Fb.out.ext (E1.out.trans (E2.out.trans (E3.out.trans (E4.out.trans E5.out))))).own kb (noU_of _ (by simp)) ob
      have iu1 := Fu1.out.own kb (noU_of _ (by simp)) ob
      have id := (Fd.out.ext (E1.out.trans (E2.out.trans (E3.out.trans (E4.out.trans E5.out))))).own kb (noU_of _ (by simp)) ob
      have ic := (Fc.out.ext (E1.out.trans (E2.out.trans (E3.out.trans (E4.out.trans E5.out))))).own kb (noU_of _ (by simp)) ob
      have in_ := (Fn.out.ext (E1.out.trans (E2.out.trans (E3.out.trans (E4.out.trans E5.out))))).own kb (noU_of _ (by simp)) ob
      have ib0 := (Fbx0.out.ext (E2.out.trans (E3.out.trans (E4.out.trans E5.out)))).own ob nbx0_bX
      clear kc kb ob
      generalize (w5.setCells X 0 (#[.bool u1.n, .slice u1.p u1.l u1.c, .bool u1.m, .slice u1.p2 u1.l2 u1.c2] : Array Value).toList) = wz2 at *
      have TT := Lib.hid tn
      clear tn
      have Fb := Lib.hid ib
      have Fu1 := Lib.hid iu1
      have Fd := Lib.hid id
      have Fc := Lib.hid ic
      have Fn := Lib.hid in_
      have Fbx0 := Lib.hid ib0
      have FbX := Lib.hid kc2
      clear kc2 in_ ib0 ib iu1 id ic
      go_upto_region 3 with fail
      refine wp_region_held_drew (S := fun x => Ext wz2 x) (by kernel_rfl) (Ext.refl _).drew (fun _ => ?_)
      have E1 := Lib.hid (show Ext wz2 wz2.drew from (Ext.refl _).drew)
      refine md_range (i := 0) (listed' := #[true, false, false, false, false, false, false, false, false]) (by rfl) (by kernel_rfl) (by kernel_rfl) (by kernel_rfl) _ _ (by rfl) w.heap.size 0 [.bool n.n, .slice n.p n.l n.c, .bool n.m, .slice n.p2 n.l2 n.c2] _ (by intro _ _ _ h; exact h) (by rfl) (by rfl) (fun x hx => ((Fbx0.out).ext hx).part 0 4) Try.underlying41 (by rfl) (by kernel_rfl) E1.out (by kernel_rfl) ?_
      (try simp only [Act.put, sIT, sC0, sCS])
      refine md_val (i := 1) (v := ?vm34) (listed' := #[true, true, false, false, false, false, false, false, false]) (by rfl) (by kernel_rfl) (by kernel_rfl) (by kernel_rfl) (by intro _ _ _ h; exact h) (by rfl) ?hm34 E1.out (by kernel_rfl) ?rm34
      case hm34 => (intro w hSw; (try dsimp only at hSw); go_simp <;> with_reducible rfl)
      (try simp only [Act.put, sIT, sC0, sCS])
      refine md_val (i := 2) (v := ?vm35) (listed' := #[true, true, true, false, false, false, false, false, false]) (by rfl) (by kernel_rfl) (by kernel_rfl) (by kernel_rfl) (by intro _ _ _ h; exact h) (by rfl) ?hm35 E1.out (by kernel_rfl) ?rm35
      case hm35 => (intro w hSw; (try dsimp only at hSw); go_simp <;> with_reducible rfl)
      (try simp only [Act.put, sIT, sC0, sCS])
      refine md_val (i := 3) (v := ?vm36) (listed' := #[true, true, true, true, false, false, false, false, false]) (by rfl) (by kernel_rfl) (by kernel_rfl) (by kernel_rfl) (by intro _ _ _ h; exact h) (by rfl) ?hm36 E1.out (by kernel_rfl) ?rm36
      case hm36 => (intro w hSw; (try dsimp only at hSw); go_simp <;> with_reducible rfl)
      (try simp only [Act.put, sIT, sC0, sCS])
      refine md_val (i := 4) (v := ?vm37) (listed' := #[true, true, true, true, true, false, false, false, false]) (by rfl) (by kernel_rfl) (by kernel_rfl) (by kernel_rfl) (by intro _ _ _ h; exact h) (by rfl) ?hm37 E1.out (by kernel_rfl) ?rm37
      case hm37 => (intro w hSw; (try dsimp only at hSw); go_simp <;> with_reducible rfl)
      (try simp only [Act.put, sIT, sC0, sCS])
      refine md_val (i := 5) (v := ?vm38) (listed' := #[true, true, true, true, true, true, false, false, false]) (by rfl) (by kernel_rfl) (by kernel_rfl) (by kernel_rfl) (by intro _ _ _ h; exact h) (by rfl) ?hm38 E1.out (by kernel_rfl) ?rm38
      case hm38 => (intro w hSw; (try dsimp only at hSw); go_simp <;> with_reducible rfl)
      (try simp only [Act.put, sIT, sC0, sCS])
      refine md_range (i := 6) (listed' := #[true, true, true, true, true, true, true, false, false]) (by rfl) (by kernel_rfl) (by kernel_rfl) (by kernel_rfl) _ _ (by rfl) X 8 [.bool c.n, .slice c.p c.l c.c, .bool c.m, .slice c.p2 c.l2 c.c2] _ (by intro _ _ _ h; exact h) (by rfl) (by rfl) (fun x hx => ((FbX.out).ext hx).part 8 4) Try.underlying41 (by rfl) (by kernel_rfl) E1.out (by kernel_rfl) ?_
      (try simp only [Act.put, sIT, sC0, sCS])
      refine md_call (i := 7) (listed' := #[true, true, true, true, true, true, true, true, false]) (by rfl) (by kernel_rfl) (by rfl) (by go_simp) (xcmp (L := L) (Fn.out.ext E1.out) ((Fc.out.ext E1.out).isIn hhi) (by omega)) (by kernel_rfl) ?_
      rintro e w2 ⟨rfl, hx⟩
      have E2 := Lib.hid (show Ext wz2.drew w2 from hx)
      clear hx
      refine ⟨_, rfl, (E1.out.trans E2.out), ?_⟩
      (try simp only [Act.put, sIT, sC0, sCS])
      refine md_val (i := 8) (v := ?vm39) (listed' := #[true, true, true, true, true, true, true, true, true]) (by rfl) (by kernel_rfl) (by kernel_rfl) (by kernel_rfl) (by intro _ _ _ h; exact h) (by rfl) ?hm39 (E1.out.trans E2.out) (by kernel_rfl) ?rm39
      case hm39 => (intro w hSw; (try dsimp only at hSw); go_simp <;> with_reducible rfl)
      (try simp only [Act.put, sIT, sC0, sCS])
      refine wpAnyH_done (by kernel_rfl) ?_ _
      go_wp2_with fail
      first | refine bodyPost_end (v := .tuple #[]) (results_none rfl _ _ _) rfl ?_ | refine bodyPost_ret (v := .tuple #[]) (results_none rfl _ _ _) rfl ?_
      rw [lower_t (by omega), upper_f (by omega)]
      exact ⟨rfl, ⟨u1, b, c, d, (FbX.out.ext (E1.out.trans E2.out)), (Fu1.out.ext (E1.out.trans E2.out)), (Fb.out.ext (E1.out.trans E2.out)), (Fc.out.ext (E1.out.trans E2.out)), (Fd.out.ext (E1.out.trans E2.out))⟩, TT.out.trans (Turn.of_ext (E1.out.trans E2.out))⟩
  · by_cases hgt1 : 0 < rcmp q hx
    · refine wp_region_held_drew (S := fun x => Ext wa x) (by kernel_rfl) (Ext.refl _).drew (fun _ => ?_)
      have E2 := Lib.hid (show Ext wa wa.drew from (Ext.refl _).drew)
      refine md_range (i := 0) (listed' := #[true, false, false, false, false, false, false, false, false]) (by rfl) (by kernel_rfl) (by kernel_rfl) (by kernel_rfl) _ _ (by rfl) w.heap.size 0 [.bool n.n, .slice n.p n.l n.c, .bool n.m, .slice n.p2 n.l2 n.c2] _ (by intro _ _ _ h; exact h) (by rfl) (by rfl) (fun x hx => ((Fbx0.out).ext hx).part 0 4) Try.underlying41 (by rfl) (by kernel_rfl) E2.out (by kernel_rfl) ?_
      (try simp only [Act.put, sIT, sC0, sCS])
      refine md_val (i := 1) (v := ?vm40) (listed' := #[true, true, false, false, false, false, false, false, false]) (by rfl) (by kernel_rfl) (by kernel_rfl) (by kernel_rfl) (by intro _ _ _ h; exact h) (by rfl) ?hm40 E2.out (by kernel_rfl) ?rm40
      case hm40 => (intro w hSw; (try dsimp only at hSw); go_simp <;> with_reducible rfl)
      (try simp only [Act.put, sIT, sC0, sCS])
      refine md_val (i := 2) (v := ?vm41) (listed' := #[true, true, true, false, false, false, false, false, false]) (by rfl) (by kernel_rfl) (by kernel_rfl) (by kernel_rfl) (by intro _ _ _ h; exact h) (by rfl) ?hm41 E2.out (by kernel_rfl) ?rm41
      case hm41 => (intro w hSw; (try dsimp only at hSw); go_simp <;> with_reducible rfl)
      (try simp only [Act.put, sIT, sC0, sCS])
      refine md_val (i := 3) (v := ?vm42) (listed' := #[true, true, true, true, false, false, false, false, false]) (by rfl) (by kernel_rfl) (by kernel_rfl) (by kernel_rfl) (by intro _ _ _ h; exact h) (by rfl) ?hm42 E2.out (by kernel_rfl) ?rm42
      case hm42 => (intro w hSw; (try dsimp only at hSw); go_simp <;> with_reducible rfl)
      (try simp only [Act.put, sIT, sC0, sCS])
      refine md_val (i := 4) (v := ?vm43) (listed' := #[true, true, true, true, true, false, false, false, false]) (by rfl) (by kernel_rfl) (by kernel_rfl) (by kernel_rfl) (by intro _ _ _ h; exact h) (by rfl) ?hm43 E2.out (by kernel_rfl) ?rm43
      case hm43 => (intro w hSw; (try dsimp only at hSw); go_simp <;> with_reducible rfl)
      (try simp only [Act.put, sIT, sC0, sCS])
      refine md_val (i := 5) (v := ?vm44) (listed' := #[true, true, true, true, true, true, false, false, false]) (by rfl) (by kernel_rfl) (by kernel_rfl) (by kernel_rfl) (by intro _ _ _ h; exact h) (by rfl) ?hm44 E2.out (by kernel_rfl) ?rm44
      case hm44 => (intro w hSw; (try dsimp only at hSw); go_simp <;> with_reducible rfl)
      (try simp only [Act.put, sIT, sC0, sCS])
      refine md_range (i := 6) (listed' := #[true, true, true, true, true, true, true, false, false]) (by rfl) (by kernel_rfl) (by kernel_rfl) (by kernel_rfl) _ _ (by rfl) X 0 [.bool a.n, .slice a.p a.l a.c, .bool a.m, .slice a.p2 a.l2 a.c2] _ (by intro _ _ _ h; exact h) (by rfl) (by rfl) (fun x hx => (((FbX.out.ext E1.out)).ext hx).part 0 4) Try.underlying41 (by rfl) (by kernel_rfl) E2.out (by kernel_rfl) ?_
      (try simp only [Act.put, sIT, sC0, sCS])
      refine md_call (i := 7) (listed' := #[true, true, true, true, true, true, true, true, false]) (by rfl) (by kernel_rfl) (by rfl) (by go_simp) (xcmp (L := L) (Fn.out.ext (E1.out.trans E2.out)) ((Fa.out.ext (E1.out.trans E2.out)).isIn hlo) (by omega)) (by kernel_rfl) ?_
      rintro e w3 ⟨rfl, hx⟩
      have E3 := Lib.hid (show Ext wa.drew w3 from hx)
      clear hx
      refine ⟨_, rfl, (E2.out.trans E3.out), ?_⟩
      (try simp only [Act.put, sIT, sC0, sCS])
      refine md_val (i := 8) (v := ?vm45) (listed' := #[true, true, true, true, true, true, true, true, true]) (by rfl) (by kernel_rfl) (by kernel_rfl) (by kernel_rfl) (by intro _ _ _ h; exact h) (by rfl) ?hm45 (E2.out.trans E3.out) (by kernel_rfl) ?rm45
      case hm45 => (intro w hSw; (try dsimp only at hSw); go_simp <;> with_reducible rfl)
      (try simp only [Act.put, sIT, sC0, sCS])
      refine wpAnyH_done (by kernel_rfl) ?_ _
      go_upto_region 3 with fail
      refine wp_region_held_drew (S := fun x => Ext w3 x) (by kernel_rfl) (Ext.refl _).drew (fun _ => ?_)
      have E4 := Lib.hid (show Ext w3 w3.drew from (Ext.refl _).drew)
      refine md_range (i := 0) (listed' := #[true, false, false, false, false, false, false, false, false]) (by rfl) (by kernel_rfl) (by kernel_rfl) (by kernel_rfl) _ _ (by rfl) w.heap.size 0 [.bool n.n, .slice n.p n.l n.c, .bool n.m, .slice n.p2 n.l2 n.c2] _ (by intro _ _ _ h; exact h) (by rfl) (by rfl) (fun x hx => (((Fbx0.out.ext (E2.out.trans E3.out))).ext hx).part 0 4) Try.underlying41 (by rfl) (by kernel_rfl) E4.out (by kernel_rfl) ?_
      (try simp only [Act.put, sIT, sC0, sCS])
      refine md_val (i := 1) (v := ?vm46) (listed' := #[true, true, false, false, false, false, false, false, false]) (by rfl) (by kernel_rfl) (by kernel_rfl) (by kernel_rfl) (by intro _ _ _ h; exact h) (by rfl) ?hm46 E4.out (by kernel_rfl) ?rm46
      case hm46 => (intro w hSw; (try dsimp only at hSw); go_simp <;> with_reducible rfl)
      (try simp only [Act.put, sIT, sC0, sCS])
      refine md_val (i := 2) (v := ?vm47) (listed' := #[true, true, true, false, false, false, false, false, false]) (by rfl) (by kernel_rfl) (by kernel_rfl) (by kernel_rfl) (by intro _ _ _ h; exact h) (by rfl) ?hm47 E4.out (by kernel_rfl) ?rm47
      case hm47 => (intro w hSw; (try dsimp only at hSw); go_simp <;> with_reducible rfl)
      (try simp only [Act.put, sIT, sC0, sCS])
      refine md_val (i := 3) (v := ?vm48) (listed' := #[true, true, true, true, false, false, false, false, false]) (by rfl) (by kernel_rfl) (by kernel_rfl) (by kernel_rfl) (by intro _ _ _ h; exact h) (by rfl) ?hm48 E4.out (by kernel_rfl) ?rm48
      case hm48 => (intro w hSw; (try dsimp only at hSw); go_simp <;> with_reducible rfl)
      (try simp only [Act.put, sIT, sC0, sCS])
      refine md_val (i := 4) (v := ?vm49) (listed' := #[true, true, true, true, true, false, false, false, false]) (by rfl) (by kernel_rfl) (by kernel_rfl) (by kernel_rfl) (by intro _ _ _ h; exact h) (by rfl) ?hm49 E4.out (by kernel_rfl) ?rm49
      case hm49 => (intro w hSw; (try dsimp only at hSw); go_simp <;> with_reducible rfl)
      (try simp only [Act.put, sIT, sC0, sCS])
      refine md_val (i := 5) (v := ?vm50) (listed' := #[true, true, true, true, true, true, false, false, false]) (by rfl) (by kernel_rfl) (by kernel_rfl) (by kernel_rfl) (by intro _ _ _ h; exact h) (by rfl) ?hm50 E4.out (by kernel_rfl) ?rm50
      case hm50 => (intro w hSw; (try dsimp only at hSw); go_simp <;> with_reducible rfl)
      (try simp only [Act.put, sIT, sC0, sCS])
      refine md_range (i := 6) (listed' := #[true, true, true, true, true, true, true, false, false]) (by rfl) (by kernel_rfl) (by kernel_rfl) (by kernel_rfl) _ _ (by rfl) X 8 [.bool c.n, .slice c.p c.l c.c, .bool c.m, .slice c.p2 c.l2 c.c2] _ (by intro _ _ _ h; exact h) (by rfl) (by rfl) (fun x hx => (((FbX.out.ext (E1.out.trans (E2.out.trans E3.out)))).ext hx).part 8 4) Try.underlying41 (by rfl) (by kernel_rfl) E4.out (by kernel_rfl) ?_
      (try simp only [Act.put, sIT, sC0, sCS])
      refine md_call (i := 7) (listed' := #[true, true, true, true, true, true, true, true, false]) (by rfl) (by kernel_rfl) (by rfl) (by go_simp) (xcmp (L := L) (Fn.out.ext (E1.out.trans (E2.out.trans (E3.out.trans E4.out)))) ((Fc.out.ext (E1.out.trans (E2.out.trans (E3.out.trans E4.out)))).isIn hhi) (by omega)) (by kernel_rfl) ?_
      rintro e w5 ⟨rfl, hx⟩
      have E5 := Lib.hid (show Ext w3.drew w5 from hx)
      clear hx
      refine ⟨_, rfl, (E4.out.trans E5.out), ?_⟩
      (try simp only [Act.put, sIT, sC0, sCS])
      refine md_val (i := 8) (v := ?vm51) (listed' := #[true, true, true, true, true, true, true, true, true]) (by rfl) (by kernel_rfl) (by kernel_rfl) (by kernel_rfl) (by intro _ _ _ h; exact h) (by rfl) ?hm51 (E4.out.trans E5.out) (by kernel_rfl) ?rm51
      case hm51 => (intro w hSw; (try dsimp only at hSw); go_simp <;> with_reducible rfl)
      (try simp only [Act.put, sIT, sC0, sCS])
      refine wpAnyH_done (by kernel_rfl) ?_ _
      go_upto_region 4 with fail
      refine wp_region_held_drew (S := fun x => Own X w5 x) (by kernel_rfl) (Own.of_ext (Ext.refl _).drew) (fun _ => ?_)
      have E6 := Lib.hid (show Ext w5 w5.drew from (Ext.refl _).drew)
      refine md_val (i := 0) (v := ?vm52) (listed' := #[true, false, false, false, false, false, false, false]) (by rfl) (by kernel_rfl) (by kernel_rfl) (by kernel_rfl) (by intro _ _ _ h; exact h) (by rfl) ?hm52 (Own.of_ext E6.out) (by kernel_rfl) ?rm52
      case hm52 => (intro w hSw; (try dsimp only at hSw); go_simp <;> with_reducible rfl)
      (try simp only [Act.put, sIT, sC0, sCS])
      refine md_val (i := 1) (v := ?vm53) (listed' := #[true, true, false, false, false, false, false, false]) (by rfl) (by kernel_rfl) (by kernel_rfl) (by kernel_rfl) (by intro _ _ _ h; exact h) (by rfl) ?hm53 (Own.of_ext E6.out) (by kernel_rfl) ?rm53
      case hm53 => (intro w hSw; (try dsimp only at hSw); go_simp <;> with_reducible rfl)
      (try simp only [Act.put, sIT, sC0, sCS])
      refine md_range (i := 2) (listed' := #[true, true, true, false, false, false, false, false]) (by rfl) (by kernel_rfl) (by kernel_rfl) (by kernel_rfl) _ _ (by rfl) w.heap.size 0 [.bool n.n, .slice n.p n.l n.c, .bool n.m, .slice n.p2 n.l2 n.c2] _ (by intro _ _ _ h; exact h) (by rfl) (by rfl) (fun x hx => (((Fbx0.out.ext (E2.out.trans (E3.out.trans (E4.out.trans E5.out))))).own hx nbx0_bX).part 0 4) Try.underlying41 (by rfl) (by kernel_rfl) (Own.of_ext E6.out) (by kernel_rfl) ?_
      (try simp only [Act.put, sIT, sC0, sCS])
      refine md_val (i := 4) (v := ?vm54) (listed' := #[true, true, true, false, true, false, false, false]) (by rfl) (by kernel_rfl) (by kernel_rfl) (by kernel_rfl) (by intro _ _ _ h; exact h) (by rfl) ?hm54 (Own.of_ext E6.out) (by kernel_rfl) ?rm54
      case hm54 => (intro w hSw; (try dsimp only at hSw); go_simp <;> with_reducible rfl)
      (try simp only [Act.put, sIT, sC0, sCS])
      refine md_val (i := 5) (v := ?vm55) (listed' := #[true, true, true, false, true, true, false, false]) (by rfl) (by kernel_rfl) (by kernel_rfl) (by kernel_rfl) (by intro _ _ _ h; exact h) (by rfl) ?hm55 (Own.of_ext E6.out) (by kernel_rfl) ?rm55
      case hm55 => (intro w hSw; (try dsimp only at hSw); go_simp <;> with_reducible rfl)
      (try simp only [Act.put, sIT, sC0, sCS])
      refine md_call (i := 3) (listed' := #[true, true, true, true, true, true, false, false]) (by rfl) (by kernel_rfl) (by rfl) (by go_simp) (xnorm (L := L) (Fn.out.ext (E1.out.trans (E2.out.trans (E3.out.trans (E4.out.trans (E5.out.trans E6.out)))))) (by omega)) (by kernel_rfl) ?_
      rintro e w7 ⟨u2, rfl, hc, hx⟩
      have E7 := Lib.hid (show Ext w5.drew w7 from hx)
      have Fu2 := Lib.hid hc
      clear hc
      clear hx
      refine ⟨_, rfl, (Own.of_ext (E6.out.trans E7.out)), ?_⟩
      (try simp only [Act.put, sIT, sC0, sCS])
      refine md_val (i := 6) (v := ?vm56) (listed' := #[true, true, true, true, true, true, true, false]) (by rfl) (by kernel_rfl) (by kernel_rfl) (by kernel_rfl) (by intro _ _ _ h; exact h) (by rfl) ?hm56 (Own.of_ext (E6.out.trans E7.out)) (by kernel_rfl) ?rm56
      case hm56 => (intro w hSw; (try dsimp only at hSw); go_simp <;> with_reducible rfl)
      (try simp only [Act.put, sIT, sC0, sCS])
      have kb := (FbX.out.ext (E1.out.trans (E2.out.trans (E3.out.trans (E4.out.trans (E5.out.trans (E6.out.trans E7.out)))))))
      have ob : Own X w7 (w7.setCells X 8 (#[.bool u2.n, .slice u2.p u2.l u2.c, .bool u2.m, .slice u2.p2 u2.l2 u2.c2] : Array Value).toList) := Own.setCells_l _ _ (Own.refl _ _)
      have kc := kb.setPart 8 (#[.bool u2.n, .slice u2.p u2.l u2.c, .bool u2.m, .slice u2.p2 u2.l2 u2.c2] : Array Value).toList (by simp)
      refine md_pstore (i := 7) (listed' := #[true, true, true, true, true, true, true, true]) (by rfl) (by kernel_rfl) (by rfl) _ _ _ (by rfl) X 8 _ [.bool a.n, .slice a.p a.l a.c, .bool a.m, .slice a.p2 a.l2 a.c2, .bool b.n, .slice b.p b.l b.c, .bool b.m, .slice b.p2 b.l2 b.c2, .bool c.n, .slice c.p c.l c.c, .bool c.m, .slice c.p2 c.l2 c.c2, .bool d.n, .slice d.p d.l d.c, .bool d.m, .slice d.p2 d.l2 d.c2, .bool true] #[.bool u2.n, .slice u2.p u2.l u2.c, .bool u2.m, .slice u2.p2 u2.l2 u2.c2] (by rfl) (by rfl) kb (by simp) (by kernel_rfl) (all_oneCell_toArray (by simp [Value.oneCell'])) (Own.then_ext' (E6.out.trans E7.out) ob) (by kernel_rfl) ?_
      (try simp only [Act.put])
      refine wpAnyH_done (by kernel_rfl) ?_ _
      have kc2 : Blk (w7.setCells X 8 (#[.bool u2.n, .slice u2.p u2.l u2.c, .bool u2.m, .slice u2.p2 u2.l2 u2.c2] : Array Value).toList) X 92 ([.bool a.n, .slice a.p a.l a.c, .bool a.m, .slice a.p2 a.l2 a.c2, .bool b.n, .slice b.p b.l b.c, .bool b.m, .slice b.p2 b.l2 b.c2, .bool u2.n, .slice u2.p u2.l u2.c, .bool u2.m, .slice u2.p2 u2.l2 u2.c2, .bool d.n, .slice d.p d.l d.c, .bool d.m, .slice d.p2 d.l2 d.c2, .bool true] : List Value).toArray := kc
      have tn : Turn X w (w7.setCells X 8 (#[.bool u2.n, .slice u2.p u2.l u2.c, .bool u2.m, .slice u2.p2 u2.l2 u2.c2] : Array Value).toList) := (TT.out.trans (Turn.of_ext (E1.out.trans (E2.out.trans (E3.out.trans (E4.out.trans (E5.out.trans (E6.out.trans E7.out)))))))).trans ⟨ob, fun r q h => h.own kb (noU_of _ (by simp)) ob⟩
      have ib := (Fb.out.ext (E1.out.trans (E2.out.trans (E3.out.trans (E4.out.trans (E5.out.trans (E6.out.trans E7.out))))))).own kb (noU_of _ (by simp)) ob
      have id := (Fd.out.ext (E1.out.trans (E2.out.trans (E3.out.trans (E4.out.trans (E5.out.trans (E6.out.trans E7.out))))))).own kb (noU_of _ (by simp)) ob
      have ia := (Fa.out.ext (E1.out.trans (E2.out.trans (E3.out.trans (E4.out.trans (E5.out.trans (E6.out.trans E7.out))))))).own kb (noU_of _ (by simp)) ob
      have iu2 := Fu2.out.own kb (noU_of _ (by simp)) ob
      have in_ := (Fn.out.ext (E1.out.trans (E2.out.trans (E3.out.trans (E4.out.trans (E5.out.trans (E6.out.trans E7.out))))))).own kb (noU_of _ (by simp)) ob
      have ib0 := (Fbx0.out.ext (E2.out.trans (E3.out.trans (E4.out.trans (E5.out.trans (E6.out.trans E7.out)))))).own ob nbx0_bX
      clear kc kb ob
      generalize (w7.setCells X 8 (#[.bool u2.n, .slice u2.p u2.l u2.c, .bool u2.m, .slice u2.p2 u2.l2 u2.c2] : Array Value).toList) = wz4 at *
      have TT := Lib.hid tn
      clear tn
      have Fb := Lib.hid ib
      have Fd := Lib.hid id
      have Fa := Lib.hid ia
      have Fu2 := Lib.hid iu2
      have Fn := Lib.hid in_
      have Fbx0 := Lib.hid ib0
      have FbX := Lib.hid kc2
      clear kc2 in_ ib0 ib id ia iu2
      go_wp2_with fail
      first | refine bodyPost_end (v := .tuple #[]) (results_none rfl _ _ _) rfl ?_ | refine bodyPost_ret (v := .tuple #[]) (results_none rfl _ _ _) rfl ?_
      rw [lower_f (by omega), upper_t (by omega)]
      exact ⟨rfl, ⟨a, b, u2, d, FbX.out, Fa.out, Fb.out, Fu2.out, Fd.out⟩, TT.out.trans (Turn.of_ext (Ext.refl _))⟩
    · refine wp_region_held_drew (S := fun x => Ext wa x) (by kernel_rfl) (Ext.refl _).drew (fun _ => ?_)
      have E2 := Lib.hid (show Ext wa wa.drew from (Ext.refl _).drew)
      refine md_range (i := 0) (listed' := #[true, false, false, false, false, false, false, false, false]) (by rfl) (by kernel_rfl) (by kernel_rfl) (by kernel_rfl) _ _ (by rfl) w.heap.size 0 [.bool n.n, .slice n.p n.l n.c, .bool n.m, .slice n.p2 n.l2 n.c2] _ (by intro _ _ _ h; exact h) (by rfl) (by rfl) (fun x hx => ((Fbx0.out).ext hx).part 0 4) Try.underlying41 (by rfl) (by kernel_rfl) E2.out (by kernel_rfl) ?_
      (try simp only [Act.put, sIT, sC0, sCS])
      refine md_val (i := 1) (v := ?vm57) (listed' := #[true, true, false, false, false, false, false, false, false]) (by rfl) (by kernel_rfl) (by kernel_rfl) (by kernel_rfl) (by intro _ _ _ h; exact h) (by rfl) ?hm57 E2.out (by kernel_rfl) ?rm57
      case hm57 => (intro w hSw; (try dsimp only at hSw); go_simp <;> with_reducible rfl)
      (try simp only [Act.put, sIT, sC0, sCS])
      refine md_val (i := 2) (v := ?vm58) (listed' := #[true, true, true, false, false, false, false, false, false]) (by rfl) (by kernel_rfl) (by kernel_rfl) (by kernel_rfl) (by intro _ _ _ h; exact h) (by rfl) ?hm58 E2.out (by kernel_rfl) ?rm58
      case hm58 => (intro w hSw; (try dsimp only at hSw); go_simp <;> with_reducible rfl)
      (try simp only [Act.put, sIT, sC0, sCS])
      refine md_val (i := 3) (v := ?vm59) (listed' := #[true, true, true, true, false, false, false, false, false]) (by rfl) (by kernel_rfl) (by kernel_rfl) (by kernel_rfl) (by intro _ _ _ h; exact h) (by rfl) ?hm59 E2.out (by kernel_rfl) ?rm59
      case hm59 => (intro w hSw; (try dsimp only at hSw); go_simp <;> with_reducible rfl)
      (try simp only [Act.put, sIT, sC0, sCS])
      refine md_val (i := 4) (v := ?vm60) (listed' := #[true, true, true, true, true, false, false, false, false]) (by rfl) (by kernel_rfl) (by kernel_rfl) (by kernel_rfl) (by intro _ _ _ h; exact h) (by rfl) ?hm60 E2.out (by kernel_rfl) ?rm60
      case hm60 => (intro w hSw; (try dsimp only at hSw); go_simp <;> with_reducible rfl)
      (try simp only [Act.put, sIT, sC0, sCS])
      refine md_val (i := 5) (v := ?vm61) (listed' := #[true, true, true, true, true, true, false, false, false]) (by rfl) (by kernel_rfl) (by kernel_rfl) (by kernel_rfl) (by intro _ _ _ h; exact h) (by rfl) ?hm61 E2.out (by kernel_rfl) ?rm61
      case hm61 => (intro w hSw; (try dsimp only at hSw); go_simp <;> with_reducible rfl)
      (try simp only [Act.put, sIT, sC0, sCS])
      refine md_range (i := 6) (listed' := #[true, true, true, true, true, true, true, false, false]) (by rfl) (by kernel_rfl) (by kernel_rfl) (by kernel_rfl) _ _ (by rfl) X 0 [.bool a.n, .slice a.p a.l a.c, .bool a.m, .slice a.p2 a.l2 a.c2] _ (by intro _ _ _ h; exact h) (by rfl) (by rfl) (fun x hx => (((FbX.out.ext E1.out)).ext hx).part 0 4) Try.underlying41 (by rfl) (by kernel_rfl) E2.out (by kernel_rfl) ?_
      (try simp only [Act.put, sIT, sC0, sCS])
      refine md_call (i := 7) (listed' := #[true, true, true, true, true, true, true, true, false]) (by rfl) (by kernel_rfl) (by rfl) (by go_simp) (xcmp (L := L) (Fn.out.ext (E1.out.trans E2.out)) ((Fa.out.ext (E1.out.trans E2.out)).isIn hlo) (by omega)) (by kernel_rfl) ?_
      rintro e w3 ⟨rfl, hx⟩
      have E3 := Lib.hid (show Ext wa.drew w3 from hx)
      clear hx
      refine ⟨_, rfl, (E2.out.trans E3.out), ?_⟩
      (try simp only [Act.put, sIT, sC0, sCS])
      refine md_val (i := 8) (v := ?vm62) (listed' := #[true, true, true, true, true, true, true, true, true]) (by rfl) (by kernel_rfl) (by kernel_rfl) (by kernel_rfl) (by intro _ _ _ h; exact h) (by rfl) ?hm62 (E2.out.trans E3.out) (by kernel_rfl) ?rm62
      case hm62 => (intro w hSw; (try dsimp only at hSw); go_simp <;> with_reducible rfl)
      (try simp only [Act.put, sIT, sC0, sCS])
      refine wpAnyH_done (by kernel_rfl) ?_ _
      go_upto_region 3 with fail
      refine wp_region_held_drew (S := fun x => Ext w3 x) (by kernel_rfl) (Ext.refl _).drew (fun _ => ?_)
      have E4 := Lib.hid (show Ext w3 w3.drew from (Ext.refl _).drew)
      refine md_range (i := 0) (listed' := #[true, false, false, false, false, false, false, false, false]) (by rfl) (by kernel_rfl) (by kernel_rfl) (by kernel_rfl) _ _ (by rfl) w.heap.size 0 [.bool n.n, .slice n.p n.l n.c, .bool n.m, .slice n.p2 n.l2 n.c2] _ (by intro _ _ _ h; exact h) (by rfl) (by rfl) (fun x hx => (((Fbx0.out.ext (E2.out.trans E3.out))).ext hx).part 0 4) Try.underlying41 (by rfl) (by kernel_rfl) E4.out (by kernel_rfl) ?_
      (try simp only [Act.put, sIT, sC0, sCS])
      refine md_val (i := 1) (v := ?vm63) (listed' := #[true, true, false, false, false, false, false, false, false]) (by rfl) (by kernel_rfl) (by kernel_rfl) (by kernel_rfl) (by intro _ _ _ h; exact h) (by rfl) ?hm63 E4.out (by kernel_rfl) ?rm63
      case hm63 => (intro w hSw; (try dsimp only at hSw); go_simp <;> with_reducible rfl)
      (try simp only [Act.put, sIT, sC0, sCS])
      refine md_val (i := 2) (v := ?vm64) (listed' := #[true, true, true, false, false, false, false, false, false]) (by rfl) (by kernel_rfl) (by kernel_rfl) (by kernel_rfl) (by intro _ _ _ h; exact h) (by rfl) ?hm64 E4.out (by kernel_rfl) ?rm64
      case hm64 => (intro w hSw; (try dsimp only at hSw); go_simp <;> with_reducible rfl)
      (try simp only [Act.put, sIT, sC0, sCS])
      refine md_val (i := 3) (v := ?vm65) (listed' := #[true, true, true, true, false, false, false, false, false]) (by rfl) (by kernel_rfl) (by kernel_rfl) (by kernel_rfl) (by intro _ _ _ h; exact h) (by rfl) ?hm65 E4.out (by kernel_rfl) ?rm65
      case hm65 => (intro w hSw; (try dsimp only at hSw); go_simp <;> with_reducible rfl)
      (try simp only [Act.put, sIT, sC0, sCS])
      refine md_val (i := 4) (v := ?vm66) (listed' := #[true, true, true, true, true, false, false, false, false]) (by rfl) (by kernel_rfl) (by kernel_rfl) (by kernel_rfl) (by intro _ _ _ h; exact h) (by rfl) ?hm66 E4.out (by kernel_rfl) ?rm66
      case hm66 => (intro w hSw; (try dsimp only at hSw); go_simp <;> with_reducible rfl)
      (try simp only [Act.put, sIT, sC0, sCS])
      refine md_val (i := 5) (v := ?vm67) (listed' := #[true, true, true, true, true, true, false, false, false]) (by rfl) (by kernel_rfl) (by kernel_rfl) (by kernel_rfl) (by intro _ _ _ h; exact h) (by rfl) ?hm67 E4.out (by kernel_rfl) ?rm67
      case hm67 => (intro w hSw; (try dsimp only at hSw); go_simp <;> with_reducible rfl)
      (try simp only [Act.put, sIT, sC0, sCS])
      refine md_range (i := 6) (listed' := #[true, true, true, true, true, true, true, false, false]) (by rfl) (by kernel_rfl) (by kernel_rfl) (by kernel_rfl) _ _ (by rfl) X 8 [.bool c.n, .slice c.p c.l c.c, .bool c.m, .slice c.p2 c.l2 c.c2] _ (by intro _ _ _ h; exact h) (by rfl) (by rfl) (fun x hx => (((FbX.out.ext (E1.out.trans (E2.out.trans E3.out)))).ext hx).part 8 4) Try.underlying41 (by rfl) (by kernel_rfl) E4.out (by kernel_rfl) ?_
      (try simp only [Act.put, sIT, sC0, sCS])
      refine md_call (i := 7) (listed' := #[true, true, true, true, true, true, true, true, false]) (by rfl) (by kernel_rfl) (by rfl) (by go_simp) (xcmp (L := L) (Fn.out.ext (E1.out.trans (E2.out.trans (E3.out.trans E4.out)))) ((Fc.out.ext (E1.out.trans (E2.out.trans (E3.out.trans E4.out)))).isIn hhi) (by omega)) (by kernel_rfl) ?_
      rintro e w5 ⟨rfl, hx⟩
      have E5 := Lib.hid (show Ext w3.drew w5 from hx)
      clear hx
      refine ⟨_, rfl, (E4.out.trans E5.out), ?_⟩
      (try simp only [Act.put, sIT, sC0, sCS])
      refine md_val (i := 8) (v := ?vm68) (listed' := #[true, true, true, true, true, true, true, true, true]) (by rfl) (by kernel_rfl) (by kernel_rfl) (by kernel_rfl) (by intro _ _ _ h; exact h) (by rfl) ?hm68 (E4.out.trans E5.out) (by kernel_rfl) ?rm68
      case hm68 => (intro w hSw; (try dsimp only at hSw); go_simp <;> with_reducible rfl)
      (try simp only [Act.put, sIT, sC0, sCS])
      refine wpAnyH_done (by kernel_rfl) ?_ _
      go_wp2_with fail
      first | refine bodyPost_end (v := .tuple #[]) (results_none rfl _ _ _) rfl ?_ | refine bodyPost_ret (v := .tuple #[]) (results_none rfl _ _ _) rfl ?_
      rw [lower_f (by omega), upper_f (by omega)]
      exact ⟨rfl, ⟨a, b, c, d, (FbX.out.ext (E1.out.trans (E2.out.trans (E3.out.trans (E4.out.trans E5.out))))), (Fa.out.ext (E1.out.trans (E2.out.trans (E3.out.trans (E4.out.trans E5.out))))), (Fb.out.ext (E1.out.trans (E2.out.trans (E3.out.trans (E4.out.trans E5.out))))), (Fc.out.ext (E1.out.trans (E2.out.trans (E3.out.trans (E4.out.trans E5.out))))), (Fd.out.ext (E1.out.trans (E2.out.trans (E3.out.trans (E4.out.trans E5.out)))))⟩, TT.out.trans (Turn.of_ext (E1.out.trans (E2.out.trans (E3.out.trans (E4.out.trans E5.out)))))⟩
set_option maxRecDepth 20000 in
set_option maxHeartbeats 8000000 in
theorem add1_any (L X : Nat) (n : RV) (lx ly hx hy q : Rat) (w : World) (hb : BoxAt w X lx ly hx hy) (hn : n.In L w q) (hlo : Nm.rl ly ≤ L) (hhi : Nm.rl hy ≤ L) (hL : L ≤ 60000) :
    Calls Try.prog 55 #[.pointer (some ⟨X, 0, none⟩), .int .i64 1, .agg #[.bool n.n, .slice n.p n.l n.c, .bool n.m, .slice n.p2 n.l2 n.c2]] w fun e w' => e = .returned (.tuple #[]) ∧ BoxAt w' X lx (lower q ly) hx (upper q hy) ∧ Turn X w w' := by
  obtain ⟨a, b, c, d, hX, ha, hb, hc, hd⟩ := hb
  have Fa := Lib.hid ha
  have Fb := Lib.hid hb
  have Fc := Lib.hid hc
  have Fd := Lib.hid hd
  have Fn := Lib.hid hn
  have FbX := Lib.hid hX
  have hlt := Blk.lt hX
  clear ha hb hc hd hn hX
  go_enter Try.func55, Try.ntmps55
  go_upto_region 1 with fail
  have hbx0 : Blk (w.alloc (.cells #[.bool n.n, .slice n.p n.l n.c, .bool n.m, .slice n.p2 n.l2 n.c2] 41)) (w.heap.size) 41 #[.bool n.n, .slice n.p n.l n.c, .bool n.m, .slice n.p2 n.l2 n.c2] := Blk.ext (Blk.new_at w _ (by simp) _ _) (Ext.refl _)
  have hE : Ext w (w.alloc (.cells #[.bool n.n, .slice n.p n.l n.c, .bool n.m, .slice n.p2 n.l2 n.c2] 41)) := ((Ext.refl _).alloc _)
  generalize (w.alloc (.cells #[.bool n.n, .slice n.p n.l n.c, .bool n.m, .slice n.p2 n.l2 n.c2] 41)) = wa at *
  have E1 := Lib.hid (show Ext w wa from hE)
  have Fbx0 := Lib.hid hbx0
  clear hE hbx0
  have nbx0_bX : w.heap.size ≠ X := by omega
  have TT := Lib.hid (Turn.of_ext (X := X) (Ext.refl w))
  by_cases hlt1 : rcmp q ly < 0
  · by_cases hgt1 : 0 < rcmp q hy
    · refine wp_region_held_drew (S := fun x => Ext wa x) (by kernel_rfl) (Ext.refl _).drew (fun _ => ?_)
      have E2 := Lib.hid (show Ext wa wa.drew from (Ext.refl _).drew)
      refine md_range (i := 0) (listed' := #[true, false, false, false, false, false, false, false, false]) (by rfl) (by kernel_rfl) (by kernel_rfl) (by kernel_rfl) _ _ (by rfl) w.heap.size 0 [.bool n.n, .slice n.p n.l n.c, .bool n.m, .slice n.p2 n.l2 n.c2] _ (by intro _ _ _ h; exact h) (by rfl) (by rfl) (fun x hx => ((Fbx0.out).ext hx).part 0 4) Try.underlying41 (by rfl) (by kernel_rfl) E2.out (by kernel_rfl) ?_
      (try simp only [Act.put, sIT, sC0, sCS])
      refine md_val (i := 1) (v := ?vm69) (listed' := #[true, true, false, false, false, false, false, false, false]) (by rfl) (by kernel_rfl) (by kernel_rfl) (by kernel_rfl) (by intro _ _ _ h; exact h) (by rfl) ?hm69 E2.out (by kernel_rfl) ?rm69
      case hm69 => (intro w hSw; (try dsimp only at hSw); go_simp <;> with_reducible rfl)
      (try simp only [Act.put, sIT, sC0, sCS])
      refine md_val (i := 2) (v := ?vm70) (listed' := #[true, true, true, false, false, false, false, false, false]) (by rfl) (by kernel_rfl) (by kernel_rfl) (by kernel_rfl) (by intro _ _ _ h; exact h) (by rfl) ?hm70 E2.out (by kernel_rfl) ?rm70
      case hm70 => (intro w hSw; (try dsimp only at hSw); go_simp <;> with_reducible rfl)
      (try simp only [Act.put, sIT, sC0, sCS])
      refine md_val (i := 3) (v := ?vm71) (listed' := #[true, true, true, true, false, false, false, false, false]) (by rfl) (by kernel_rfl) (by kernel_rfl) (by kernel_rfl) (by intro _ _ _ h; exact h) (by rfl) ?hm71 E2.out (by kernel_rfl) ?rm71
      case hm71 => (intro w hSw; (try dsimp only at hSw); go_simp <;> with_reducible rfl)
      (try simp only [Act.put, sIT, sC0, sCS])
      refine md_val (i := 4) (v := ?vm72) (listed' := #[true, true, true, true, true, false, false, false, false]) (by rfl) (by kernel_rfl) (by kernel_rfl) (by kernel_rfl) (by intro _ _ _ h; exact h) (by rfl) ?hm72 E2.out (by kernel_rfl) ?rm72
      case hm72 => (intro w hSw; (try dsimp only at hSw); go_simp <;> with_reducible rfl)
      (try simp only [Act.put, sIT, sC0, sCS])
      refine md_val (i := 5) (v := ?vm73) (listed' := #[true, true, true, true, true, true, false, false, false]) (by rfl) (by kernel_rfl) (by kernel_rfl) (by kernel_rfl) (by intro _ _ _ h; exact h) (by rfl) ?hm73 E2.out (by kernel_rfl) ?rm73
      case hm73 => (intro w hSw; (try dsimp only at hSw); go_simp <;> with_reducible rfl)
      (try simp only [Act.put, sIT, sC0, sCS])
      refine md_range (i := 6) (listed' := #[true, true, true, true, true, true, true, false, false]) (by rfl) (by kernel_rfl) (by kernel_rfl) (by kernel_rfl) _ _ (by rfl) X 4 [.bool b.n, .slice b.p b.l b.c, .bool b.m, .slice b.p2 b.l2 b.c2] _ (by intro _ _ _ h; exact h) (by rfl) (by rfl) (fun x hx => (((FbX.out.ext E1.out)).ext hx).part 4 4) Try.underlying41 (by rfl) (by kernel_rfl) E2.out (by kernel_rfl) ?_
      (try simp only [Act.put, sIT, sC0, sCS])
      refine md_call (i := 7) (listed' := #[true, true, true, true, true, true, true, true, false]) (by rfl) (by kernel_rfl) (by rfl) (by go_simp) (xcmp (L := L) (Fn.out.ext (E1.out.trans E2.out)) ((Fb.out.ext (E1.out.trans E2.out)).isIn hlo) (by omega)) (by kernel_rfl) ?_
      rintro e w3 ⟨rfl, hx⟩
      have E3 := Lib.hid (show Ext wa.drew w3 from hx)
      clear hx
      refine ⟨_, rfl, (E2.out.trans E3.out), ?_⟩
      (try simp only [Act.put, sIT, sC0, sCS])
      refine md_val (i := 8) (v := ?vm74) (listed' := #[true, true, true, true, true, true, true, true, true]) (by rfl) (by kernel_rfl) (by kernel_rfl) (by kernel_rfl) (by intro _ _ _ h; exact h) (by rfl) ?hm74 (E2.out.trans E3.out) (by kernel_rfl) ?rm74
      case hm74 => (intro w hSw; (try dsimp only at hSw); go_simp <;> with_reducible rfl)
      (try simp only [Act.put, sIT, sC0, sCS])
      refine wpAnyH_done (by kernel_rfl) ?_ _
      go_upto_region 2 with fail
      refine wp_region_held_drew (S := fun x => Own X w3 x) (by kernel_rfl) (Own.of_ext (Ext.refl _).drew) (fun _ => ?_)
      have E4 := Lib.hid (show Ext w3 w3.drew from (Ext.refl _).drew)
      refine md_val (i := 0) (v := ?vm75) (listed' := #[true, false, false, false, false, false, false, false]) (by rfl) (by kernel_rfl) (by kernel_rfl) (by kernel_rfl) (by intro _ _ _ h; exact h) (by rfl) ?hm75 (Own.of_ext E4.out) (by kernel_rfl) ?rm75
      case hm75 => (intro w hSw; (try dsimp only at hSw); go_simp <;> with_reducible rfl)
      (try simp only [Act.put, sIT, sC0, sCS])
      refine md_val (i := 1) (v := ?vm76) (listed' := #[true, true, false, false, false, false, false, false]) (by rfl) (by kernel_rfl) (by kernel_rfl) (by kernel_rfl) (by intro _ _ _ h; exact h) (by rfl) ?hm76 (Own.of_ext E4.out) (by kernel_rfl) ?rm76
      case hm76 => (intro w hSw; (try dsimp only at hSw); go_simp <;> with_reducible rfl)
      (try simp only [Act.put, sIT, sC0, sCS])
      refine md_range (i := 2) (listed' := #[true, true, true, false, false, false, false, false]) (by rfl) (by kernel_rfl) (by kernel_rfl) (by kernel_rfl) _ _ (by rfl) w.heap.size 0 [.bool n.n, .slice n.p n.l n.c, .bool n.m, .slice n.p2 n.l2 n.c2] _ (by intro _ _ _ h; exact h) (by rfl) (by rfl) (fun x hx => (((Fbx0.out.ext (E2.out.trans E3.out))).own hx nbx0_bX).part 0 4) Try.underlying41 (by rfl) (by kernel_rfl) (Own.of_ext E4.out) (by kernel_rfl) ?_
      (try simp only [Act.put, sIT, sC0, sCS])
      refine md_val (i := 4) (v := ?vm77) (listed' := #[true, true, true, false, true, false, false, false]) (by rfl) (by kernel_rfl) (by kernel_rfl) (by kernel_rfl) (by intro _ _ _ h; exact h) (by rfl) ?hm77 (Own.of_ext E4.out) (by kernel_rfl) ?rm77
      case hm77 => (intro w hSw; (try dsimp only at hSw); go_simp <;> with_reducible rfl)
      (try simp only [Act.put, sIT, sC0, sCS])
      refine md_val (i := 5) (v := ?vm78) (listed' := #[true, true, true, false, true, true, false, false]) (by rfl) (by kernel_rfl) (by kernel_rfl) (by kernel_rfl) (by intro _ _ _ h; exact h) (by rfl) ?hm78 (Own.of_ext E4.out) (by kernel_rfl) ?rm78
      case hm78 => (intro w hSw; (try dsimp only at hSw); go_simp <;> with_reducible rfl)
      (try simp only [Act.put, sIT, sC0, sCS])
      refine md_call (i := 3) (listed' := #[true, true, true, true, true, true, false, false]) (by rfl) (by kernel_rfl) (by rfl) (by go_simp) (xnorm (L := L) (Fn.out.ext (E1.out.trans (E2.out.trans (E3.out.trans E4.out)))) (by omega)) (by kernel_rfl) ?_
      rintro e w5 ⟨u1, rfl, hc, hx⟩
      have E5 := Lib.hid (show Ext w3.drew w5 from hx)
      have Fu1 := Lib.hid hc
      clear hc
      clear hx
      refine ⟨_, rfl, (Own.of_ext (E4.out.trans E5.out)), ?_⟩
      (try simp only [Act.put, sIT, sC0, sCS])
      refine md_val (i := 6) (v := ?vm79) (listed' := #[true, true, true, true, true, true, true, false]) (by rfl) (by kernel_rfl) (by kernel_rfl) (by kernel_rfl) (by intro _ _ _ h; exact h) (by rfl) ?hm79 (Own.of_ext (E4.out.trans E5.out)) (by kernel_rfl) ?rm79
      case hm79 => (intro w hSw; (try dsimp only at hSw); go_simp <;> with_reducible rfl)
      (try simp only [Act.put, sIT, sC0, sCS])
      have kb := (FbX.out.ext (E1.out.trans (E2.out.trans (E3.out.trans (E4.out.trans E5.out)))))
      have ob : Own X w5 (w5.setCells X 4 (#[.bool u1.n, .slice u1.p u1.l u1.c, .bool u1.m, .slice u1.p2 u1.l2 u1.c2] : Array Value).toList) := Own.setCells_l _ _ (Own.refl _ _)
      have kc := kb.setPart 4 (#[.bool u1.n, .slice u1.p u1.l u1.c, .bool u1.m, .slice u1.p2 u1.l2 u1.c2] : Array Value).toList (by simp)
      refine md_pstore (i := 7) (listed' := #[true, true, true, true, true, true, true, true]) (by rfl) (by kernel_rfl) (by rfl) _ _ _ (by rfl) X 4 _ [.bool a.n, .slice a.p a.l a.c, .bool a.m, .slice a.p2 a.l2 a.c2, .bool b.n, .slice b.p b.l b.c, .bool b.m, .slice b.p2 b.l2 b.c2, .bool c.n, .slice c.p c.l c.c, .bool c.m, .slice c.p2 c.l2 c.c2, .bool d.n, .slice d.p d.l d.c, .bool d.m, .slice d.p2 d.l2 d.c2, .bool true] #[.bool u1.n, .slice u1.p u1.l u1.c, .bool u1.m, .slice u1.p2 u1.l2 u1.c2] (by rfl) (by rfl) kb (by simp) (by kernel_rfl) (all_oneCell_toArray (by simp [Value.oneCell'])) (Own.then_ext' (E4.out.trans E5.out) ob) (by kernel_rfl) ?_
      (try simp only [Act.put])
      refine wpAnyH_done (by kernel_rfl) ?_ _
      have kc2 : Blk (w5.setCells X 4 (#[.bool u1.n, .slice u1.p u1.l u1.c, .bool u1.m, .slice u1.p2 u1.l2 u1.c2] : Array Value).toList) X 92 ([.bool a.n, .slice a.p a.l a.c, .bool a.m, .slice a.p2 a.l2 a.c2, .bool u1.n, .slice u1.p u1.l u1.c, .bool u1.m, .slice u1.p2 u1.l2 u1.c2, .bool c.n, .slice c.p c.l c.c, .bool c.m, .slice c.p2 c.l2 c.c2, .bool d.n, .slice d.p d.l d.c, .bool d.m, .slice d.p2 d.l2 d.c2, .bool true] : List Value).toArray := kc
      have tn : Turn X w (w5.setCells X 4 (#[.bool u1.n, .slice u1.p u1.l u1.c, .bool u1.m, .slice u1.p2 u1.l2 u1.c2] : Array Value).toList) := (TT.out.trans (Turn.of_ext (E1.out.trans (E2.out.trans (E3.out.trans (E4.out.trans E5.out)))))).trans ⟨ob, fun r q h => h.own kb (noU_of _ (by simp)) ob⟩
      have id := (Fd.out.ext (E1.out.trans (E2.out.trans (E3.out.trans (E4.out.trans E5.out))))).own kb (noU_of _ (by simp)) ob
      have iu1 := Fu1.out.own kb (noU_of _ (by simp)) ob
      have ia := (Fa.out.ext (E1.out.trans (E2.out.trans (E3.out.trans (E4.out.trans E5.out))))).own kb (noU_of _ (by simp)) ob
      have ic := (Fc.out.ext (E1.out.trans (E2.out.trans (E3.out.trans (E4.out.trans E5.out))))).own kb (noU_of _ (by simp)) ob
      have in_ := (Fn.out.ext (E1.out.trans (E2.out.trans (E3.out.trans (E4.out.trans E5.out))))).own kb (noU_of _ (by simp)) ob
      have ib0 := (Fbx0.out.ext (E2.out.trans (E3.out.trans (E4.out.trans E5.out)))).own ob nbx0_bX
      clear kc kb ob
      generalize (w5.setCells X 4 (#[.bool u1.n, .slice u1.p u1.l u1.c, .bool u1.m, .slice u1.p2 u1.l2 u1.c2] : Array Value).toList) = wz2 at *
      have TT := Lib.hid tn
      clear tn
      have Fd := Lib.hid id
      have Fu1 := Lib.hid iu1
      have Fa := Lib.hid ia
      have Fc := Lib.hid ic
      have Fn := Lib.hid in_
      have Fbx0 := Lib.hid ib0
      have FbX := Lib.hid kc2
      clear kc2 in_ ib0 id iu1 ia ic
      go_upto_region 3 with fail
      refine wp_region_held_drew (S := fun x => Ext wz2 x) (by kernel_rfl) (Ext.refl _).drew (fun _ => ?_)
      have E1 := Lib.hid (show Ext wz2 wz2.drew from (Ext.refl _).drew)
      refine md_range (i := 0) (listed' := #[true, false, false, false, false, false, false, false, false]) (by rfl) (by kernel_rfl) (by kernel_rfl) (by kernel_rfl) _ _ (by rfl) w.heap.size 0 [.bool n.n, .slice n.p n.l n.c, .bool n.m, .slice n.p2 n.l2 n.c2] _ (by intro _ _ _ h; exact h) (by rfl) (by rfl) (fun x hx => ((Fbx0.out).ext hx).part 0 4) Try.underlying41 (by rfl) (by kernel_rfl) E1.out (by kernel_rfl) ?_
      (try simp only [Act.put, sIT, sC0, sCS])
      refine md_val (i := 1) (v := ?vm80) (listed' := #[true, true, false, false, false, false, false, false, false]) (by rfl) (by kernel_rfl) (by kernel_rfl) (by kernel_rfl) (by intro _ _ _ h; exact h) (by rfl) ?hm80 E1.out (by kernel_rfl) ?rm80
      case hm80 => (intro w hSw; (try dsimp only at hSw); go_simp <;> with_reducible rfl)
      (try simp only [Act.put, sIT, sC0, sCS])
      refine md_val (i := 2) (v := ?vm81) (listed' := #[true, true, true, false, false, false, false, false, false]) (by rfl) (by kernel_rfl) (by kernel_rfl) (by kernel_rfl) (by intro _ _ _ h; exact h) (by rfl) ?hm81 E1.out (by kernel_rfl) ?rm81
      case hm81 => (intro w hSw; (try dsimp only at hSw); go_simp <;> with_reducible rfl)
      (try simp only [Act.put, sIT, sC0, sCS])
      refine md_val (i := 3) (v := ?vm82) (listed' := #[true, true, true, true, false, false, false, false, false]) (by rfl) (by kernel_rfl) (by kernel_rfl) (by kernel_rfl) (by intro _ _ _ h; exact h) (by rfl) ?hm82 E1.out (by kernel_rfl) ?rm82
      case hm82 => (intro w hSw; (try dsimp only at hSw); go_simp <;> with_reducible rfl)
      (try simp only [Act.put, sIT, sC0, sCS])
      refine md_val (i := 4) (v := ?vm83) (listed' := #[true, true, true, true, true, false, false, false, false]) (by rfl) (by kernel_rfl) (by kernel_rfl) (by kernel_rfl) (by intro _ _ _ h; exact h) (by rfl) ?hm83 E1.out (by kernel_rfl) ?rm83
      case hm83 => (intro w hSw; (try dsimp only at hSw); go_simp <;> with_reducible rfl)
      (try simp only [Act.put, sIT, sC0, sCS])
      refine md_val (i := 5) (v := ?vm84) (listed' := #[true, true, true, true, true, true, false, false, false]) (by rfl) (by kernel_rfl) (by kernel_rfl) (by kernel_rfl) (by intro _ _ _ h; exact h) (by rfl) ?hm84 E1.out (by kernel_rfl) ?rm84
      case hm84 => (intro w hSw; (try dsimp only at hSw); go_simp <;> with_reducible rfl)
      (try simp only [Act.put, sIT, sC0, sCS])
      refine md_range (i := 6) (listed' := #[true, true, true, true, true, true, true, false, false]) (by rfl) (by kernel_rfl) (by kernel_rfl) (by kernel_rfl) _ _ (by rfl) X 12 [.bool d.n, .slice d.p d.l d.c, .bool d.m, .slice d.p2 d.l2 d.c2] _ (by intro _ _ _ h; exact h) (by rfl) (by rfl) (fun x hx => ((FbX.out).ext hx).part 12 4) Try.underlying41 (by rfl) (by kernel_rfl) E1.out (by kernel_rfl) ?_
      (try simp only [Act.put, sIT, sC0, sCS])
      refine md_call (i := 7) (listed' := #[true, true, true, true, true, true, true, true, false]) (by rfl) (by kernel_rfl) (by rfl) (by go_simp) (xcmp (L := L) (Fn.out.ext E1.out) ((Fd.out.ext E1.out).isIn hhi) (by omega)) (by kernel_rfl) ?_
      rintro e w2 ⟨rfl, hx⟩
      have E2 := Lib.hid (show Ext wz2.drew w2 from hx)
      clear hx
      refine ⟨_, rfl, (E1.out.trans E2.out), ?_⟩
      (try simp only [Act.put, sIT, sC0, sCS])
      refine md_val (i := 8) (v := ?vm85) (listed' := #[true, true, true, true, true, true, true, true, true]) (by rfl) (by kernel_rfl) (by kernel_rfl) (by kernel_rfl) (by intro _ _ _ h; exact h) (by rfl) ?hm85 (E1.out.trans E2.out) (by kernel_rfl) ?rm85
      case hm85 => (intro w hSw; (try dsimp only at hSw); go_simp <;> with_reducible rfl)
      (try simp only [Act.put, sIT, sC0, sCS])
      refine wpAnyH_done (by kernel_rfl) ?_ _
      go_upto_region 4 with fail
      refine wp_region_held_drew (S := fun x => Own X w2 x) (by kernel_rfl) (Own.of_ext (Ext.refl _).drew) (fun _ => ?_)
      have E3 := Lib.hid (show Ext w2 w2.drew from (Ext.refl _).drew)
      refine md_val (i := 0) (v := ?vm86) (listed' := #[true, false, false, false, false, false, false, false]) (by rfl) (by kernel_rfl) (by kernel_rfl) (by kernel_rfl) (by intro _ _ _ h; exact h) (by rfl) ?hm86 (Own.of_ext E3.out) (by kernel_rfl) ?rm86
      case hm86 => (intro w hSw; (try dsimp only at hSw); go_simp <;> with_reducible rfl)
      (try simp only [Act.put, sIT, sC0, sCS])
      refine md_val (i := 1) (v := ?vm87) (listed' := #[true, true, false, false, false, false, false, false]) (by rfl) (by kernel_rfl) (by kernel_rfl) (by kernel_rfl) (by intro _ _ _ h; exact h) (by rfl) ?hm87 (Own.of_ext E3.out) (by kernel_rfl) ?rm87
      case hm87 => (intro w hSw; (try dsimp only at hSw); go_simp <;> with_reducible rfl)
      (try simp only [Act.put, sIT, sC0, sCS])
      refine md_range (i := 2) (listed' := #[true, true, true, false, false, false, false, false]) (by rfl) (by kernel_rfl) (by kernel_rfl) (by kernel_rfl) _ _ (by rfl) w.heap.size 0 [.bool n.n, .slice n.p n.l n.c, .bool n.m, .slice n.p2 n.l2 n.c2] _ (by intro _ _ _ h; exact h) (by rfl) (by rfl) (fun x hx => (((Fbx0.out.ext (E1.out.trans E2.out))).own hx nbx0_bX).part 0 4) Try.underlying41 (by rfl) (by kernel_rfl) (Own.of_ext E3.out) (by kernel_rfl) ?_
      (try simp only [Act.put, sIT, sC0, sCS])
      refine md_val (i := 4) (v := ?vm88) (listed' := #[true, true, true, false, true, false, false, false]) (by rfl) (by kernel_rfl) (by kernel_rfl) (by kernel_rfl) (by intro _ _ _ h; exact h) (by rfl) ?hm88 (Own.of_ext E3.out) (by kernel_rfl) ?rm88
      case hm88 => (intro w hSw; (try dsimp only at hSw); go_simp <;> with_reducible rfl)
      (try simp only [Act.put, sIT, sC0, sCS])
      refine md_val (i := 5) (v := ?vm89) (listed' := #[true, true, true, false, true, true, false, false]) (by rfl) (by kernel_rfl) (by kernel_rfl) (by kernel_rfl) (by intro _ _ _ h; exact h) (by rfl) ?hm89 (Own.of_ext E3.out) (by kernel_rfl) ?rm89
      case hm89 => (intro w hSw; (try dsimp only at hSw); go_simp <;> with_reducible rfl)
      (try simp only [Act.put, sIT, sC0, sCS])
      refine md_call (i := 3) (listed' := #[true, true, true, true, true, true, false, false]) (by rfl) (by kernel_rfl) (by rfl) (by go_simp) (xnorm (L := L) (Fn.out.ext (E1.out.trans (E2.out.trans E3.out))) (by omega)) (by kernel_rfl) ?_
      rintro e w4 ⟨u2, rfl, hc, hx⟩
      have E4 := Lib.hid (show Ext w2.drew w4 from hx)
      have Fu2 := Lib.hid hc
      clear hc
      clear hx
      refine ⟨_, rfl, (Own.of_ext (E3.out.trans E4.out)), ?_⟩
      (try simp only [Act.put, sIT, sC0, sCS])
      refine md_val (i := 6) (v := ?vm90) (listed' := #[true, true, true, true, true, true, true, false]) (by rfl) (by kernel_rfl) (by kernel_rfl) (by kernel_rfl) (by intro _ _ _ h; exact h) (by rfl) ?hm90 (Own.of_ext (E3.out.trans E4.out)) (by kernel_rfl) ?rm90
      case hm90 => (intro w hSw; (try dsimp only at hSw); go_simp <;> with_reducible rfl)
      (try simp only [Act.put, sIT, sC0, sCS])
      have kb := (FbX.out.ext (E1.out.trans (E2.out.trans (E3.out.trans E4.out))))
      have ob : Own X w4 (w4.setCells X 12 (#[.bool u2.n, .slice u2.p u2.l u2.c, .bool u2.m, .slice u2.p2 u2.l2 u2.c2] : Array Value).toList) := Own.setCells_l _ _ (Own.refl _ _)
      have kc := kb.setPart 12 (#[.bool u2.n, .slice u2.p u2.l u2.c, .bool u2.m, .slice u2.p2 u2.l2 u2.c2] : Array Value).toList (by simp)
      refine md_pstore (i := 7) (listed' := #[true, true, true, true, true, true, true, true]) (by rfl) (by kernel_rfl) (by rfl) _ _ _ (by rfl) X 12 _ [.bool a.n, .slice a.p a.l a.c, .bool a.m, .slice a.p2 a.l2 a.c2, .bool u1.n, .slice u1.p u1.l u1.c, .bool u1.m, .slice u1.p2 u1.l2 u1.c2, .bool c.n, .slice c.p c.l c.c, .bool c.m, .slice c.p2 c.l2 c.c2, .bool d.n, .slice d.p d.l d.c, .bool d.m, .slice d.p2 d.l2 d.c2, .bool true] #[.bool u2.n, .slice u2.p u2.l u2.c, .bool u2.m, .slice u2.p2 u2.l2 u2.c2] (by rfl) (by rfl) kb (by simp) (by kernel_rfl) (all_oneCell_toArray (by simp [Value.oneCell'])) (Own.then_ext' (E3.out.trans E4.out) ob) (by kernel_rfl) ?_
      (try simp only [Act.put])
      refine wpAnyH_done (by kernel_rfl) ?_ _
      have kc2 : Blk (w4.setCells X 12 (#[.bool u2.n, .slice u2.p u2.l u2.c, .bool u2.m, .slice u2.p2 u2.l2 u2.c2] : Array Value).toList) X 92 ([.bool a.n, .slice a.p a.l a.c, .bool a.m, .slice a.p2 a.l2 a.c2, .bool u1.n, .slice u1.p u1.l u1.c, .bool u1.m, .slice u1.p2 u1.l2 u1.c2, .bool c.n, .slice c.p c.l c.c, .bool c.m, .slice c.p2 c.l2 c.c2, .bool u2.n, .slice u2.p u2.l u2.c, .bool u2.m, .slice u2.p2 u2.l2 u2.c2, .bool true] : List Value).toArray := kc
      have tn : Turn X w (w4.setCells X 12 (#[.bool u2.n, .slice u2.p u2.l u2.c, .bool u2.m, .slice u2.p2 u2.l2 u2.c2] : Array Value).toList) := (TT.out.trans (Turn.of_ext (E1.out.trans (E2.out.trans (E3.out.trans E4.out))))).trans ⟨ob, fun r q h => h.own kb (noU_of _ (by simp)) ob⟩
      have iu2 := Fu2.out.own kb (noU_of _ (by simp)) ob
      have iu1 := (Fu1.out.ext (E1.out.trans (E2.out.trans (E3.out.trans E4.out)))).own kb (noU_of _ (by simp)) ob
      have ia := (Fa.out.ext (E1.out.trans (E2.out.trans (E3.out.trans E4.out)))).own kb (noU_of _ (by simp)) ob
      have ic := (Fc.out.ext (E1.out.trans (E2.out.trans (E3.out.trans E4.out)))).own kb (noU_of _ (by simp)) ob
      have in_ := (Fn.out.ext (E1.out.trans (E2.out.trans (E3.out.trans E4.out)))).own kb (noU_of _ (by simp)) ob
      have ib0 := (Fbx0.out.ext (E1.out.trans (E2.out.trans (E3.out.trans E4.out)))).own ob nbx0_bX
      clear kc kb ob
      generalize (w4.setCells X 12 (#[.bool u2.n, .slice u2.p u2.l u2.c, .bool u2.m, .slice u2.p2 u2.l2 u2.c2] : Array Value).toList) = wz4 at *
      have TT := Lib.hid tn
      clear tn
      have Fu2 := Lib.hid iu2
      have Fu1 := Lib.hid iu1
      have Fa := Lib.hid ia
      have Fc := Lib.hid ic
      have Fn := Lib.hid in_
      have Fbx0 := Lib.hid ib0
      have FbX := Lib.hid kc2
      clear kc2 in_ ib0 iu2 iu1 ia ic
      go_wp2_with fail
      first | refine bodyPost_end (v := .tuple #[]) (results_none rfl _ _ _) rfl ?_ | refine bodyPost_ret (v := .tuple #[]) (results_none rfl _ _ _) rfl ?_
      rw [lower_t (by omega), upper_t (by omega)]
      exact ⟨rfl, ⟨a, u1, c, u2, FbX.out, Fa.out, Fu1.out, Fc.out, Fu2.out⟩, TT.out.trans (Turn.of_ext (Ext.refl _))⟩
    · refine wp_region_held_drew (S := fun x => Ext wa x) (by kernel_rfl) (Ext.refl _).drew (fun _ => ?_)
      have E2 := Lib.hid (show Ext wa wa.drew from (Ext.refl _).drew)
      refine md_range (i := 0) (listed' := #[true, false, false, false, false, false, false, false, false]) (by rfl) (by kernel_rfl) (by kernel_rfl) (by kernel_rfl) _ _ (by rfl) w.heap.size 0 [.bool n.n, .slice n.p n.l n.c, .bool n.m, .slice n.p2 n.l2 n.c2] _ (by intro _ _ _ h; exact h) (by rfl) (by rfl) (fun x hx => ((Fbx0.out).ext hx).part 0 4) Try.underlying41 (by rfl) (by kernel_rfl) E2.out (by kernel_rfl) ?_
      (try simp only [Act.put, sIT, sC0, sCS])
      refine md_val (i := 1) (v := ?vm91) (listed' := #[true, true, false, false, false, false, false, false, false]) (by rfl) (by kernel_rfl) (by kernel_rfl) (by kernel_rfl) (by intro _ _ _ h; exact h) (by rfl) ?hm91 E2.out (by kernel_rfl) ?rm91
      case hm91 => (intro w hSw; (try dsimp only at hSw); go_simp <;> with_reducible rfl)
      (try simp only [Act.put, sIT, sC0, sCS])
      refine md_val (i := 2) (v := ?vm92) (listed' := #[true, true, true, false, false, false, false, false, false]) (by rfl) (by kernel_rfl) (by kernel_rfl) (by kernel_rfl) (by intro _ _ _ h; exact h) (by rfl) ?hm92 E2.out (by kernel_rfl) ?rm92
      case hm92 => (intro w hSw; (try dsimp only at hSw); go_simp <;> with_reducible rfl)
      (try simp only [Act.put, sIT, sC0, sCS])
      refine md_val (i := 3) (v := ?vm93) (listed' := #[true, true, true, true, false, false, false, false, false]) (by rfl) (by kernel_rfl) (by kernel_rfl) (by kernel_rfl) (by intro _ _ _ h; exact h) (by rfl) ?hm93 E2.out (by kernel_rfl) ?rm93
      case hm93 => (intro w hSw; (try dsimp only at hSw); go_simp <;> with_reducible rfl)
      (try simp only [Act.put, sIT, sC0, sCS])
      refine md_val (i := 4) (v := ?vm94) (listed' := #[true, true, true, true, true, false, false, false, false]) (by rfl) (by kernel_rfl) (by kernel_rfl) (by kernel_rfl) (by intro _ _ _ h; exact h) (by rfl) ?hm94 E2.out (by kernel_rfl) ?rm94
      case hm94 => (intro w hSw; (try dsimp only at hSw); go_simp <;> with_reducible rfl)
      (try simp only [Act.put, sIT, sC0, sCS])
      refine md_val (i := 5) (v := ?vm95) (listed' := #[true, true, true, true, true, true, false, false, false]) (by rfl) (by kernel_rfl) (by kernel_rfl) (by kernel_rfl) (by intro _ _ _ h; exact h) (by rfl) ?hm95 E2.out (by kernel_rfl) ?rm95
      case hm95 => (intro w hSw; (try dsimp only at hSw); go_simp <;> with_reducible rfl)
      (try simp only [Act.put, sIT, sC0, sCS])
      refine md_range (i := 6) (listed' := #[true, true, true, true, true, true, true, false, false]) (by rfl) (by kernel_rfl) (by kernel_rfl) (by kernel_rfl) _ _ (by rfl) X 4 [.bool b.n, .slice b.p b.l b.c, .bool b.m, .slice b.p2 b.l2 b.c2] _ (by intro _ _ _ h; exact h) (by rfl) (by rfl) (fun x hx => (((FbX.out.ext E1.out)).ext hx).part 4 4) Try.underlying41 (by rfl) (by kernel_rfl) E2.out (by kernel_rfl) ?_
      (try simp only [Act.put, sIT, sC0, sCS])
      refine md_call (i := 7) (listed' := #[true, true, true, true, true, true, true, true, false]) (by rfl) (by kernel_rfl) (by rfl) (by go_simp) (xcmp (L := L) (Fn.out.ext (E1.out.trans E2.out)) ((Fb.out.ext (E1.out.trans E2.out)).isIn hlo) (by omega)) (by kernel_rfl) ?_
      rintro e w3 ⟨rfl, hx⟩
      have E3 := Lib.hid (show Ext wa.drew w3 from hx)
      clear hx
      refine ⟨_, rfl, (E2.out.trans E3.out), ?_⟩
      (try simp only [Act.put, sIT, sC0, sCS])
      refine md_val (i := 8) (v := ?vm96) (listed' := #[true, true, true, true, true, true, true, true, true]) (by rfl) (by kernel_rfl) (by kernel_rfl) (by kernel_rfl) (by intro _ _ _ h; exact h) (by rfl) ?hm96 (E2.out.trans E3.out) (by kernel_rfl) ?rm96
      case hm96 => (intro w hSw; (try dsimp only at hSw); go_simp <;> with_reducible rfl)
      (try simp only [Act.put, sIT, sC0, sCS])
      refine wpAnyH_done (by kernel_rfl) ?_ _
      go_upto_region 2 with fail
      refine wp_region_held_drew (S := fun x => Own X w3 x) (by kernel_rfl) (Own.of_ext (Ext.refl _).drew) (fun _ => ?_)
      have E4 := Lib.hid (show Ext w3 w3.drew from (Ext.refl _).drew)
      refine md_val (i := 0) (v := ?vm97) (listed' := #[true, false, false, false, false, false, false, false]) (by rfl) (by kernel_rfl) (by kernel_rfl) (by kernel_rfl) (by intro _ _ _ h; exact h) (by rfl) ?hm97 (Own.of_ext E4.out) (by kernel_rfl) ?rm97
      case hm97 => (intro w hSw; (try dsimp only at hSw); go_simp <;> with_reducible rfl)
      (try simp only [Act.put, sIT, sC0, sCS])
      refine md_val (i := 1) (v := ?vm98) (listed' := #[true, true, false, false, false, false, false, false]) (by rfl) (by kernel_rfl) (by kernel_rfl) (by kernel_rfl) (by intro _ _ _ h; exact h) (by rfl) ?hm98 (Own.of_ext E4.out) (by kernel_rfl) ?rm98
      case hm98 => (intro w hSw; (try dsimp only at hSw); go_simp <;> with_reducible rfl)
      (try simp only [Act.put, sIT, sC0, sCS])
      refine md_range (i := 2) (listed' := #[true, true, true, false, false, false, false, false]) (by rfl) (by kernel_rfl) (by kernel_rfl) (by kernel_rfl) _ _ (by rfl) w.heap.size 0 [.bool n.n, .slice n.p n.l n.c, .bool n.m, .slice n.p2 n.l2 n.c2] _ (by intro _ _ _ h; exact h) (by rfl) (by rfl) (fun x hx => (((Fbx0.out.ext (E2.out.trans E3.out))).own hx nbx0_bX).part 0 4) Try.underlying41 (by rfl) (by kernel_rfl) (Own.of_ext E4.out) (by kernel_rfl) ?_
      (try simp only [Act.put, sIT, sC0, sCS])
      refine md_val (i := 4) (v := ?vm99) (listed' := #[true, true, true, false, true, false, false, false]) (by rfl) (by kernel_rfl) (by kernel_rfl) (by kernel_rfl) (by intro _ _ _ h; exact h) (by rfl) ?hm99 (Own.of_ext E4.out) (by kernel_rfl) ?rm99
      case hm99 => (intro w hSw; (try dsimp only at hSw); go_simp <;> with_reducible rfl)
      (try simp only [Act.put, sIT, sC0, sCS])
      refine md_val (i := 5) (v := ?vm100) (listed' := #[true, true, true, false, true, true, false, false]) (by rfl) (by kernel_rfl) (by kernel_rfl) (by kernel_rfl) (by intro _ _ _ h; exact h) (by rfl) ?hm100 (Own.of_ext E4.out) (by kernel_rfl) ?rm100
      case hm100 => (intro w hSw; (try dsimp only at hSw); go_simp <;> with_reducible rfl)
      (try simp only [Act.put, sIT, sC0, sCS])
      refine md_call (i := 3) (listed' := #[true, true, true, true, true, true, false, false]) (by rfl) (by kernel_rfl) (by rfl) (by go_simp) (xnorm (L := L) (Fn.out.ext (E1.out.trans (E2.out.trans (E3.out.trans E4.out)))) (by omega)) (by kernel_rfl) ?_
      rintro e w5 ⟨u1, rfl, hc, hx⟩
      have E5 := Lib.hid (show Ext w3.drew w5 from hx)
      have Fu1 := Lib.hid hc
      clear hc
      clear hx
      refine ⟨_, rfl, (Own.of_ext (E4.out.trans E5.out)), ?_⟩
      (try simp only [Act.put, sIT, sC0, sCS])
      refine md_val (i := 6) (v := ?vm101) (listed' := #[true, true, true, true, true, true, true, false]) (by rfl) (by kernel_rfl) (by kernel_rfl) (by kernel_rfl) (by intro _ _ _ h; exact h) (by rfl) ?hm101 (Own.of_ext (E4.out.trans E5.out)) (by kernel_rfl) ?rm101
      case hm101 => (intro w hSw; (try dsimp only at hSw); go_simp <;> with_reducible rfl)
      (try simp only [Act.put, sIT, sC0, sCS])
      have kb := (FbX.out.ext (E1.out.trans (E2.out.trans (E3.out.trans (E4.out.trans E5.out)))))
      have ob : Own X w5 (w5.setCells X 4 (#[.bool u1.n, .slice u1.p u1.l u1.c, .bool u1.m, .slice u1.p2 u1.l2 u1.c2] : Array Value).toList) := Own.setCells_l _ _ (Own.refl _ _)
      have kc := kb.setPart 4 (#[.bool u1.n, .slice u1.p u1.l u1.c, .bool u1.m, .slice u1.p2 u1.l2 u1.c2] : Array Value).toList (by simp)
      refine md_pstore (i := 7) (listed' := #[true, true, true, true, true, true, true, true]) (by rfl) (by kernel_rfl) (by rfl) _ _ _ (by rfl) X 4 _ [.bool a.n, .slice a.p a.l a.c, .bool a.m, .slice a.p2 a.l2 a.c2, .bool b.n, .slice b.p b.l b.c, .bool b.m, .slice b.p2 b.l2 b.c2, .bool c.n, .slice c.p c.l c.c, .bool c.m, .slice c.p2 c.l2 c.c2, .bool d.n, .slice d.p d.l d.c, .bool d.m, .slice d.p2 d.l2 d.c2, .bool true] #[.bool u1.n, .slice u1.p u1.l u1.c, .bool u1.m, .slice u1.p2 u1.l2 u1.c2] (by rfl) (by rfl) kb (by simp) (by kernel_rfl) (all_oneCell_toArray (by simp [Value.oneCell'])) (Own.then_ext' (E4.out.trans E5.out) ob) (by kernel_rfl) ?_
      (try simp only [Act.put])
      refine wpAnyH_done (by kernel_rfl) ?_ _
      have kc2 : Blk (w5.setCells X 4 (#[.bool u1.n, .slice u1.p u1.l u1.c, .bool u1.m, .slice u1.p2 u1.l2 u1.c2] : Array Value).toList) X 92 ([.bool a.n, .slice a.p a.l a.c, .bool a.m, .slice a.p2 a.l2 a.c2, .bool u1.n, .slice u1.p u1.l u1.c, .bool u1.m, .slice u1.p2 u1.l2 u1.c2, .bool c.n, .slice c.p c.l c.c, .bool c.m, .slice c.p2 c.l2 c.c2, .bool d.n, .slice d.p d.l d.c, .bool d.m, .slice d.p2 d.l2 d.c2, .bool true] : List Value).toArray := kc
      have tn : Turn X w (w5.setCells X 4 (#[.bool u1.n, .slice u1.p u1.l u1.c, .bool u1.m, .slice u1.p2 u1.l2 u1.c2] : Array Value).toList) := (TT.out.trans (Turn.of_ext (E1.out.trans (E2.out.trans (E3.out.trans (E4.out.trans E5.out)))))).trans ⟨ob, fun r q h => h.own kb (noU_of _ (by simp)) ob⟩
      have id := (Fd.out.ext (E1.out.trans (E2.out.trans (E3.out.trans (E4.out.trans E5.out))))).own kb (noU_of _ (by simp)) ob
      have iu1 := Fu1.out.own kb (noU_of _ (by simp)) ob
      have ia := (Fa.out.ext (E1.out.trans (E2.out.trans (E3.out.trans (E4.out.trans E5.out))))).own kb (noU_of _ (by simp)) ob
      have ic := (Fc.out.ext (E1.out.trans (E2.out.trans (E3.out.trans (E4.out.trans E5.out))))).own kb (noU_of _ (by simp)) ob
      have in_ := (Fn.out.ext (E1.out.trans (E2.out.trans (E3.out.trans (E4.out.trans E5.out))))).own kb (noU_of _ (by simp)) ob
      have ib0 := (Fbx0.out.ext (E2.out.trans (E3.out.trans (E4.out.trans E5.out)))).own ob nbx0_bX
      clear kc kb ob
      generalize (w5.setCells X 4 (#[.bool u1.n, .slice u1.p u1.l u1.c, .bool u1.m, .slice u1.p2 u1.l2 u1.c2] : Array Value).toList) = wz2 at *
      have TT := Lib.hid tn
      clear tn
      have Fd := Lib.hid id
      have Fu1 := Lib.hid iu1
      have Fa := Lib.hid ia
      have Fc := Lib.hid ic
      have Fn := Lib.hid in_
      have Fbx0 := Lib.hid ib0
      have FbX := Lib.hid kc2
      clear kc2 in_ ib0 id iu1 ia ic
      go_upto_region 3 with fail
      refine wp_region_held_drew (S := fun x => Ext wz2 x) (by kernel_rfl) (Ext.refl _).drew (fun _ => ?_)
      have E1 := Lib.hid (show Ext wz2 wz2.drew from (Ext.refl _).drew)
      refine md_range (i := 0) (listed' := #[true, false, false, false, false, false, false, false, false]) (by rfl) (by kernel_rfl) (by kernel_rfl) (by kernel_rfl) _ _ (by rfl) w.heap.size 0 [.bool n.n, .slice n.p n.l n.c, .bool n.m, .slice n.p2 n.l2 n.c2] _ (by intro _ _ _ h; exact h) (by rfl) (by rfl) (fun x hx => ((Fbx0.out).ext hx).part 0 4) Try.underlying41 (by rfl) (by kernel_rfl) E1.out (by kernel_rfl) ?_
      (try simp only [Act.put, sIT, sC0, sCS])
      refine md_val (i := 1) (v := ?vm102) (listed' := #[true, true, false, false, false, false, false, false, false]) (by rfl) (by kernel_rfl) (by kernel_rfl) (by kernel_rfl) (by intro _ _ _ h; exact h) (by rfl) ?hm102 E1.out (by kernel_rfl) ?rm102
      case hm102 => (intro w hSw; (try dsimp only at hSw); go_simp <;> with_reducible rfl)
      (try simp only [Act.put, sIT, sC0, sCS])
      refine md_val (i := 2) (v := ?vm103) (listed' := #[true, true, true, false, false, false, false, false, false]) (by rfl) (by kernel_rfl) (by kernel_rfl) (by kernel_rfl) (by intro _ _ _ h; exact h) (by rfl) ?hm103 E1.out (by kernel_rfl) ?rm103
      case hm103 => (intro w hSw; (try dsimp only at hSw); go_simp <;> with_reducible rfl)
      (try simp only [Act.put, sIT, sC0, sCS])
      refine md_val (i := 3) (v := ?vm104) (listed' := #[true, true, true, true, false, false, false, false, false]) (by rfl) (by kernel_rfl) (by kernel_rfl) (by kernel_rfl) (by intro _ _ _ h; exact h) (by rfl) ?hm104 E1.out (by kernel_rfl) ?rm104
      case hm104 => (intro w hSw; (try dsimp only at hSw); go_simp <;> with_reducible rfl)
      (try simp only [Act.put, sIT, sC0, sCS])
      refine md_val (i := 4) (v := ?vm105) (listed' := #[true, true, true, true, true, false, false, false, false]) (by rfl) (by kernel_rfl) (by kernel_rfl) (by kernel_rfl) (by intro _ _ _ h; exact h) (by rfl) ?hm105 E1.out (by kernel_rfl) ?rm105
      case hm105 => (intro w hSw; (try dsimp only at hSw); go_simp <;> with_reducible rfl)
      (try simp only [Act.put, sIT, sC0, sCS])
      refine md_val (i := 5) (v := ?vm106) (listed' := #[true, true, true, true, true, true, false, false, false]) (by rfl) (by kernel_rfl) (by kernel_rfl) (by kernel_rfl) (by intro _ _ _ h; exact h) (by rfl) ?hm106 E1.out (by kernel_rfl) ?rm106
      case hm106 => (intro w hSw; (try dsimp only at hSw); go_simp <;> with_reducible rfl)
      (try simp only [Act.put, sIT, sC0, sCS])
      refine md_range (i := 6) (listed' := #[true, true, true, true, true, true, true, false, false]) (by rfl) (by kernel_rfl) (by kernel_rfl) (by kernel_rfl) _ _ (by rfl) X 12 [.bool d.n, .slice d.p d.l d.c, .bool d.m, .slice d.p2 d.l2 d.c2] _ (by intro _ _ _ h; exact h) (by rfl) (by rfl) (fun x hx => ((FbX.out).ext hx).part 12 4) Try.underlying41 (by rfl) (by kernel_rfl) E1.out (by kernel_rfl) ?_
      (try simp only [Act.put, sIT, sC0, sCS])
      refine md_call (i := 7) (listed' := #[true, true, true, true, true, true, true, true, false]) (by rfl) (by kernel_rfl) (by rfl) (by go_simp) (xcmp (L := L) (Fn.out.ext E1.out) ((Fd.out.ext E1.out).isIn hhi) (by omega)) (by kernel_rfl) ?_
      rintro e w2 ⟨rfl, hx⟩
      have E2 := Lib.hid (show Ext wz2.drew w2 from hx)
      clear hx
      refine ⟨_, rfl, (E1.out.trans E2.out), ?_⟩
      (try simp only [Act.put, sIT, sC0, sCS])
      refine md_val (i := 8) (v := ?vm107) (listed' := #[true, true, true, true, true, true, true, true, true]) (by rfl) (by kernel_rfl) (by kernel_rfl) (by kernel_rfl) (by intro _ _ _ h; exact h) (by rfl) ?hm107 (E1.out.trans E2.out) (by kernel_rfl) ?rm107
      case hm107 => (intro w hSw; (try dsimp only at hSw); go_simp <;> with_reducible rfl)
      (try simp only [Act.put, sIT, sC0, sCS])
      refine wpAnyH_done (by kernel_rfl) ?_ _
      go_wp2_with fail
      first | refine bodyPost_end (v := .tuple #[]) (results_none rfl _ _ _) rfl ?_ | refine bodyPost_ret (v := .tuple #[]) (results_none rfl _ _ _) rfl ?_
      rw [lower_t (by omega), upper_f (by omega)]
      exact ⟨rfl, ⟨a, u1, c, d, (FbX.out.ext (E1.out.trans E2.out)), (Fa.out.ext (E1.out.trans E2.out)), (Fu1.out.ext (E1.out.trans E2.out)), (Fc.out.ext (E1.out.trans E2.out)), (Fd.out.ext (E1.out.trans E2.out))⟩, TT.out.trans (Turn.of_ext (E1.out.trans E2.out))⟩
  · by_cases hgt1 : 0 < rcmp q hy
    · refine wp_region_held_drew (S := fun x => Ext wa x) (by kernel_rfl) (Ext.refl _).drew (fun _ => ?_)
      have E2 := Lib.hid (show Ext wa wa.drew from (Ext.refl _).drew)
      refine md_range (i := 0) (listed' := #[true, false, false, false, false, false, false, false, false]) (by rfl) (by kernel_rfl) (by kernel_rfl) (by kernel_rfl) _ _ (by rfl) w.heap.size 0 [.bool n.n, .slice n.p n.l n.c, .bool n.m, .slice n.p2 n.l2 n.c2] _ (by intro _ _ _ h; exact h) (by rfl) (by rfl) (fun x hx => ((Fbx0.out).ext hx).part 0 4) Try.underlying41 (by rfl) (by kernel_rfl) E2.out (by kernel_rfl) ?_
      (try simp only [Act.put, sIT, sC0, sCS])
      refine md_val (i := 1) (v := ?vm108) (listed' := #[true, true, false, false, false, false, false, false, false]) (by rfl) (by kernel_rfl) (by kernel_rfl) (by kernel_rfl) (by intro _ _ _ h; exact h) (by rfl) ?hm108 E2.out (by kernel_rfl) ?rm108
      case hm108 => (intro w hSw; (try dsimp only at hSw); go_simp <;> with_reducible rfl)
      (try simp only [Act.put, sIT, sC0, sCS])
      refine md_val (i := 2) (v := ?vm109) (listed' := #[true, true, true, false, false, false, false, false, false]) (by rfl) (by kernel_rfl) (by kernel_rfl) (by kernel_rfl) (by intro _ _ _ h; exact h) (by rfl) ?hm109 E2.out (by kernel_rfl) ?rm109
      case hm109 => (intro w hSw; (try dsimp only at hSw); go_simp <;> with_reducible rfl)
      (try simp only [Act.put, sIT, sC0, sCS])
      refine md_val (i := 3) (v := ?vm110) (listed' := #[true, true, true, true, false, false, false, false, false]) (by rfl) (by kernel_rfl) (by kernel_rfl) (by kernel_rfl) (by intro _ _ _ h; exact h) (by rfl) ?hm110 E2.out (by kernel_rfl) ?rm110
      case hm110 => (intro w hSw; (try dsimp only at hSw); go_simp <;> with_reducible rfl)
      (try simp only [Act.put, sIT, sC0, sCS])
      refine md_val (i := 4) (v := ?vm111) (listed' := #[true, true, true, true, true, false, false, false, false]) (by rfl) (by kernel_rfl) (by kernel_rfl) (by kernel_rfl) (by intro _ _ _ h; exact h) (by rfl) ?hm111 E2.out (by kernel_rfl) ?rm111
      case hm111 => (intro w hSw; (try dsimp only at hSw); go_simp <;> with_reducible rfl)
      (try simp only [Act.put, sIT, sC0, sCS])
      refine md_val (i := 5) (v := ?vm112) (listed' := #[true, true, true, true, true, true, false, false, false]) (by rfl) (by kernel_rfl) (by kernel_rfl) (by kernel_rfl) (by intro _ _ _ h; exact h) (by rfl) ?hm112 E2.out (by kernel_rfl) ?rm112
      case hm112 => (intro w hSw; (try dsimp only at hSw); go_simp <;> with_reducible rfl)
      (try simp only [Act.put, sIT, sC0, sCS])
      refine md_range (i := 6) (listed' := #[true, true, true, true, true, true, true, false, false]) (by rfl) (by kernel_rfl) (by kernel_rfl) (by kernel_rfl) _ _ (by rfl) X 4 [.bool b.n, .slice b.p b.l b.c, .bool b.m, .slice b.p2 b.l2 b.c2] _ (by intro _ _ _ h; exact h) (by rfl) (by rfl) (fun x hx => (((FbX.out.ext E1.out)).ext hx).part 4 4) Try.underlying41 (by rfl) (by kernel_rfl) E2.out (by kernel_rfl) ?_
      (try simp only [Act.put, sIT, sC0, sCS])
      refine md_call (i := 7) (listed' := #[true, true, true, true, true, true, true, true, false]) (by rfl) (by kernel_rfl) (by rfl) (by go_simp) (xcmp (L := L) (Fn.out.ext (E1.out.trans E2.out)) ((Fb.out.ext (E1.out.trans E2.out)).isIn hlo) (by omega)) (by kernel_rfl) ?_
      rintro e w3 ⟨rfl, hx⟩
      have E3 := Lib.hid (show Ext wa.drew w3 from hx)
      clear hx
      refine ⟨_, rfl, (E2.out.trans E3.out), ?_⟩
      (try simp only [Act.put, sIT, sC0, sCS])
      refine md_val (i := 8) (v := ?vm113) (listed' := #[true, true, true, true, true, true, true, true, true]) (by rfl) (by kernel_rfl) (by kernel_rfl) (by kernel_rfl) (by intro _ _ _ h; exact h) (by rfl) ?hm113 (E2.out.trans E3.out) (by kernel_rfl) ?rm113
      case hm113 => (intro w hSw; (try dsimp only at hSw); go_simp <;> with_reducible rfl)
      (try simp only [Act.put, sIT, sC0, sCS])
      refine wpAnyH_done (by kernel_rfl) ?_ _
      go_upto_region 3 with fail
      refine wp_region_held_drew (S := fun x => Ext w3 x) (by kernel_rfl) (Ext.refl _).drew (fun _ => ?_)
      have E4 := Lib.hid (show Ext w3 w3.drew from (Ext.refl _).drew)
      refine md_range (i := 0) (listed' := #[true, false, false, false, false, false, false, false, false]) (by rfl) (by kernel_rfl) (by kernel_rfl) (by kernel_rfl) _ _ (by rfl) w.heap.size 0 [.bool n.n, .slice n.p n.l n.c, .bool n.m, .slice n.p2 n.l2 n.c2] _ (by intro _ _ _ h; exact h) (by rfl) (by rfl) (fun x hx => (((Fbx0.out.ext (E2.out.trans E3.out))).ext hx).part 0 4) Try.underlying41 (by rfl) (by kernel_rfl) E4.out (by kernel_rfl) ?_
      (try simp only [Act.put, sIT, sC0, sCS])
      refine md_val (i := 1) (v := ?vm114) (listed' := #[true, true, false, false, false, false, false, false, false]) (by rfl) (by kernel_rfl) (by kernel_rfl) (by kernel_rfl) (by intro _ _ _ h; exact h) (by rfl) ?hm114 E4.out (by kernel_rfl) ?rm114
      case hm114 => (intro w hSw; (try dsimp only at hSw); go_simp <;> with_reducible rfl)
      (try simp only [Act.put, sIT, sC0, sCS])
      refine md_val (i := 2) (v := ?vm115) (listed' := #[true, true, true, false, false, false, false, false, false]) (by rfl) (by kernel_rfl) (by kernel_rfl) (by kernel_rfl) (by intro _ _ _ h; exact h) (by rfl) ?hm115 E4.out (by kernel_rfl) ?rm115
      case hm115 => (intro w hSw; (try dsimp only at hSw); go_simp <;> with_reducible rfl)
      (try simp only [Act.put, sIT, sC0, sCS])
      refine md_val (i := 3) (v := ?vm116) (listed' := #[true, true, true, true, false, false, false, false, false]) (by rfl) (by kernel_rfl) (by kernel_rfl) (by kernel_rfl) (by intro _ _ _ h; exact h) (by rfl) ?hm116 E4.out (by kernel_rfl) ?rm116
      case hm116 => (intro w hSw; (try dsimp only at hSw); go_simp <;> with_reducible rfl)
      (try simp only [Act.put, sIT, sC0, sCS])
      refine md_val (i := 4) (v := ?vm117) (listed' := #[true, true, true, true, true, false, false, false, false]) (by rfl) (by kernel_rfl) (by kernel_rfl) (by kernel_rfl) (by intro _ _ _ h; exact h) (by rfl) ?hm117 E4.out (by kernel_rfl) ?rm117
      case hm117 => (intro w hSw; (try dsimp only at hSw); go_simp <;> with_reducible rfl)
      (try simp only [Act.put, sIT, sC0, sCS])
      refine md_val (i := 5) (v := ?vm118) (listed' := #[true, true, true, true, true, true, false, false, false]) (by rfl) (by kernel_rfl) (by kernel_rfl) (by kernel_rfl) (by intro _ _ _ h; exact h) (by rfl) ?hm118 E4.out (by kernel_rfl) ?rm118
      case hm118 => (intro w hSw; (try dsimp only at hSw); go_simp <;> with_reducible rfl)
      (try simp only [Act.put, sIT, sC0, sCS])
      refine md_range (i := 6) (listed' := #[true, true, true, true, true, true, true, false, false]) (by rfl) (by kernel_rfl) (by kernel_rfl) (by kernel_rfl) _ _ (by rfl) X 12 [.bool d.n, .slice d.p d.l d.c, .bool d.m, .slice d.p2 d.l2 d.c2] _ (by intro _ _ _ h; exact h) (by rfl) (by rfl) (fun x hx => (((FbX.out.ext (E1.out.trans (E2.out.trans E3.out)))).ext hx).part 12 4) Try.underlying41 (by rfl) (by kernel_rfl) E4.out (by kernel_rfl) ?_
      (try simp only [Act.put, sIT, sC0, sCS])
      refine md_call (i := 7) (listed' := #[true, true, true, true, true, true, true, true, false]) (by rfl) (by kernel_rfl) (by rfl) (by go_simp) (xcmp (L := L) (Fn.out.ext (E1.out.trans (E2.out.trans (E3.out.trans E4.out)))) ((Fd.out.ext (E1.out.trans (E2.out.trans (E3.out.trans E4.out)))).isIn hhi) (by omega)) (by kernel_rfl) ?_
      rintro e w5 ⟨rfl, hx⟩
      have E5 := Lib.hid (show Ext w3.drew w5 from hx)
      clear hx
      refine ⟨_, rfl, (E4.out.trans E5.out), ?_⟩
      (try simp only [Act.put, sIT, sC0, sCS])
      refine md_val (i := 8) (v := ?vm119) (listed' := #[true, true, true, true, true, true, true, true, true]) (by rfl) (by kernel_rfl) (by kernel_rfl) (by kernel_rfl) (by intro _ _ _ h; exact h) (by rfl) ?hm119 (E4.out.trans E5.out) (by kernel_rfl) ?rm119
      case hm119 => (intro w hSw; (try dsimp only at hSw); go_simp <;> with_reducible rfl)
      (try simp only [Act.put, sIT, sC0, sCS])
      refine wpAnyH_done (by kernel_rfl) ?_ _
      go_upto_region 4 with fail
      refine wp_region_held_drew (S := fun x => Own X w5 x) (by kernel_rfl) (Own.of_ext (Ext.refl _).drew) (fun _ => ?_)
      have E6 := Lib.hid (show Ext w5 w5.drew from (Ext.refl _).drew)
      refine md_val (i := 0) (v := ?vm120) (listed' := #[true, false, false, false, false, false, false, false]) (by rfl) (by kernel_rfl) (by kernel_rfl) (by kernel_rfl) (by intro _ _ _ h; exact h) (by rfl) ?hm120 (Own.of_ext E6.out) (by kernel_rfl) ?rm120
      case hm120 => (intro w hSw; (try dsimp only at hSw); go_simp <;> with_reducible rfl)
      (try simp only [Act.put, sIT, sC0, sCS])
      refine md_val (i := 1) (v := ?vm121) (listed' := #[true, true, false, false, false, false, false, false]) (by rfl) (by kernel_rfl) (by kernel_rfl) (by kernel_rfl) (by intro _ _ _ h; exact h) (by rfl) ?hm121 (Own.of_ext E6.out) (by kernel_rfl) ?rm121
      case hm121 => (intro w hSw; (try dsimp only at hSw); go_simp <;> with_reducible rfl)
      (try simp only [Act.put, sIT, sC0, sCS])
      refine md_range (i := 2) (listed' := #[true, true, true, false, false, false, false, false]) (by rfl) (by kernel_rfl) (by kernel_rfl) (by kernel_rfl) _ _ (by rfl) w.heap.size 0 [.bool n.n, .slice n.p n.l n.c, .bool n.m, .slice n.p2 n.l2 n.c2] _ (by intro _ _ _ h; exact h) (by rfl) (by rfl) (fun x hx => (((Fbx0.out.ext (E2.out.trans (E3.out.trans (E4.out.trans E5.out))))).own hx nbx0_bX).part 0 4) Try.underlying41 (by rfl) (by kernel_rfl) (Own.of_ext E6.out) (by kernel_rfl) ?_
      (try simp only [Act.put, sIT, sC0, sCS])
      refine md_val (i := 4) (v := ?vm122) (listed' := #[true, true, true, false, true, false, false, false]) (by rfl) (by kernel_rfl) (by kernel_rfl) (by kernel_rfl) (by intro _ _ _ h; exact h) (by rfl) ?hm122 (Own.of_ext E6.out) (by kernel_rfl) ?rm122
      case hm122 => (intro w hSw; (try dsimp only at hSw); go_simp <;> with_reducible rfl)
      (try simp only [Act.put, sIT, sC0, sCS])
      refine md_val (i := 5) (v := ?vm123) (listed' := #[true, true, true, false, true, true, false, false]) (by rfl) (by kernel_rfl) (by kernel_rfl) (by kernel_rfl) (by intro _ _ _ h; exact h) (by rfl) ?hm123 (Own.of_ext E6.out) (by kernel_rfl) ?rm123
      case hm123 => (intro w hSw; (try dsimp only at hSw); go_simp <;> with_reducible rfl)
      (try simp only [Act.put, sIT, sC0, sCS])
      refine md_call (i := 3) (listed' := #[true, true, true, true, true, true, false, false]) (by rfl) (by kernel_rfl) (by rfl) (by go_simp) (xnorm (L := L) (Fn.out.ext (E1.out.trans (E2.out.trans (E3.out.trans (E4.out.trans (E5.out.trans E6.out)))))) (by omega)) (by kernel_rfl) ?_
      rintro e w7 ⟨u2, rfl, hc, hx⟩
      have E7 := Lib.hid (show Ext w5.drew w7 from hx)
      have Fu2 := Lib.hid hc
      clear hc
      clear hx
      refine ⟨_, rfl, (Own.of_ext (E6.out.trans E7.out)), ?_⟩
      (try simp only [Act.put, sIT, sC0, sCS])
      refine md_val (i := 6) (v := ?vm124) (listed' := #[true, true, true, true, true, true, true, false]) (by rfl) (by kernel_rfl) (by kernel_rfl) (by kernel_rfl) (by intro _ _ _ h; exact h) (by rfl) ?hm124 (Own.of_ext (E6.out.trans E7.out)) (by kernel_rfl) ?rm124
      case hm124 => (intro w hSw; (try dsimp only at hSw); go_simp <;> with_reducible rfl)
      (try simp only [Act.put, sIT, sC0, sCS])
      have kb := (FbX.out.ext (E1.out.trans (E2.out.trans (E3.out.trans (E4.out.trans (E5.out.trans (E6.out.trans E7.out)))))))
      have ob : Own X w7 (w7.setCells X 12 (#[.bool u2.n, .slice u2.p u2.l u2.c, .bool u2.m, .slice u2.p2 u2.l2 u2.c2] : Array Value).toList) := Own.setCells_l _ _ (Own.refl _ _)
      have kc := kb.setPart 12 (#[.bool u2.n, .slice u2.p u2.l u2.c, .bool u2.m, .slice u2.p2 u2.l2 u2.c2] : Array Value).toList (by simp)
      refine md_pstore (i := 7) (listed' := #[true, true, true, true, true, true, true, true]) (by rfl) (by kernel_rfl) (by rfl) _ _ _ (by rfl) X 12 _ [.bool a.n, .slice a.p a.l a.c, .bool a.m, .slice a.p2 a.l2 a.c2, .bool b.n, .slice b.p b.l b.c, .bool b.m, .slice b.p2 b.l2 b.c2, .bool c.n, .slice c.p c.l c.c, .bool c.m, .slice c.p2 c.l2 c.c2, .bool d.n, .slice d.p d.l d.c, .bool d.m, .slice d.p2 d.l2 d.c2, .bool true] #[.bool u2.n, .slice u2.p u2.l u2.c, .bool u2.m, .slice u2.p2 u2.l2 u2.c2] (by rfl) (by rfl) kb (by simp) (by kernel_rfl) (all_oneCell_toArray (by simp [Value.oneCell'])) (Own.then_ext' (E6.out.trans E7.out) ob) (by kernel_rfl) ?_
      (try simp only [Act.put])
      refine wpAnyH_done (by kernel_rfl) ?_ _
      have kc2 : Blk (w7.setCells X 12 (#[.bool u2.n, .slice u2.p u2.l u2.c, .bool u2.m, .slice u2.p2 u2.l2 u2.c2] : Array Value).toList) X 92 ([.bool a.n, .slice a.p a.l a.c, .bool a.m, .slice a.p2 a.l2 a.c2, .bool b.n, .slice b.p b.l b.c, .bool b.m, .slice b.p2 b.l2 b.c2, .bool c.n, .slice c.p c.l c.c, .bool c.m, .slice c.p2 c.l2 c.c2, .bool u2.n, .slice u2.p u2.l u2.c, .bool u2.m, .slice u2.p2 u2.l2 u2.c2, .bool true] : List Value).toArray := kc
      have tn : Turn X w (w7.setCells X 12 (#[.bool u2.n, .slice u2.p u2.l u2.c, .bool u2.m, .slice u2.p2 u2.l2 u2.c2] : Array Value).toList) := (TT.out.trans (Turn.of_ext (E1.out.trans (E2.out.trans (E3.out.trans (E4.out.trans (E5.out.trans (E6.out.trans E7.out)))))))).trans ⟨ob, fun r q h => h.own kb (noU_of _ (by simp)) ob⟩
      have ib := (Fb.out.ext (E1.out.trans (E2.out.trans (E3.out.trans (E4.out.trans (E5.out.trans (E6.out.trans E7.out))))))).own kb (noU_of _ (by simp)) ob
      have ia := (Fa.out.ext (E1.out.trans (E2.out.trans (E3.out.trans (E4.out.trans (E5.out.trans (E6.out.trans E7.out))))))).own kb (noU_of _ (by simp)) ob
      have ic := (Fc.out.ext (E1.out.trans (E2.out.trans (E3.out.trans (E4.out.trans (E5.out.trans (E6.out.trans E7.out))))))).own kb (noU_of _ (by simp)) ob
      have iu2 := Fu2.out.own kb (noU_of _ (by simp)) ob
      have in_ := (Fn.out.ext (E1.out.trans (E2.out.trans (E3.out.trans (E4.out.trans (E5.out.trans (E6.out.trans E7.out))))))).own kb (noU_of _ (by simp)) ob
      have ib0 := (Fbx0.out.ext (E2.out.trans (E3.out.trans (E4.out.trans (E5.out.trans (E6.out.trans E7.out)))))).own ob nbx0_bX
      clear kc kb ob
      generalize (w7.setCells X 12 (#[.bool u2.n, .slice u2.p u2.l u2.c, .bool u2.m, .slice u2.p2 u2.l2 u2.c2] : Array Value).toList) = wz4 at *
      have TT := Lib.hid tn
      clear tn
      have Fb := Lib.hid ib
      have Fa := Lib.hid ia
      have Fc := Lib.hid ic
      have Fu2 := Lib.hid iu2
      have Fn := Lib.hid in_
      have Fbx0 := Lib.hid ib0
      have FbX := Lib.hid kc2
      clear kc2 in_ ib0 ib ia ic iu2
      go_wp2_with fail
      first | refine bodyPost_end (v := .tuple #[]) (results_none rfl _ _ _) rfl ?_ | refine bodyPost_ret (v := .tuple #[]) (results_none rfl _ _ _) rfl ?_
      rw [lower_f (by omega), upper_t (by omega)]
      exact ⟨rfl, ⟨a, b, c, u2, FbX.out, Fa.out, Fb.out, Fc.out, Fu2.out⟩, TT.out.trans (Turn.of_ext (Ext.refl _))⟩
    · refine wp_region_held_drew (S := fun x => Ext wa x) (by kernel_rfl) (Ext.refl _).drew (fun _ => ?_)
      have E2 := Lib.hid (show Ext wa wa.drew from (Ext.refl _).drew)
      refine md_range (i := 0) (listed' := #[true, false, false, false, false, false, false, false, false]) (by rfl) (by kernel_rfl) (by kernel_rfl) (by kernel_rfl) _ _ (by rfl) w.heap.size 0 [.bool n.n, .slice n.p n.l n.c, .bool n.m, .slice n.p2 n.l2 n.c2] _ (by intro _ _ _ h; exact h) (by rfl) (by rfl) (fun x hx => ((Fbx0.out).ext hx).part 0 4) Try.underlying41 (by rfl) (by kernel_rfl) E2.out (by kernel_rfl) ?_
      (try simp only [Act.put, sIT, sC0, sCS])
      refine md_val (i := 1) (v := ?vm125) (listed' := #[true, true, false, false, false, false, false, false, false]) (by rfl) (by kernel_rfl) (by kernel_rfl) (by kernel_rfl) (by intro _ _ _ h; exact h) (by rfl) ?hm125 E2.out (by kernel_rfl) ?rm125
      case hm125 => (intro w hSw; (try dsimp only at hSw); go_simp <;> with_reducible rfl)
      (try simp only [Act.put, sIT, sC0, sCS])
      refine md_val (i := 2) (v := ?vm126) (listed' := #[true, true, true, false, false, false, false, false, false]) (by rfl) (by kernel_rfl) (by kernel_rfl) (by kernel_rfl) (by intro _ _ _ h; exact h) (by rfl) ?hm126 E2.out (by kernel_rfl) ?rm126
      case hm126 => (intro w hSw; (try dsimp only at hSw); go_simp <;> with_reducible rfl)
      (try simp only [Act.put, sIT, sC0, sCS])
      refine md_val (i := 3) (v := ?vm127) (listed' := #[true, true, true, true, false, false, false, false, false]) (by rfl) (by kernel_rfl) (by kernel_rfl) (by kernel_rfl) (by intro _ _ _ h; exact h) (by rfl) ?hm127 E2.out (by kernel_rfl) ?rm127
      case hm127 => (intro w hSw; (try dsimp only at hSw); go_simp <;> with_reducible rfl)
      (try simp only [Act.put, sIT, sC0, sCS])
      refine md_val (i := 4) (v := ?vm128) (listed' := #[true, true, true, true, true, false, false, false, false]) (by rfl) (by kernel_rfl) (by kernel_rfl) (by kernel_rfl) (by intro _ _ _ h; exact h) (by rfl) ?hm128 E2.out (by kernel_rfl) ?rm128
      case hm128 => (intro w hSw; (try dsimp only at hSw); go_simp <;> with_reducible rfl)
      (try simp only [Act.put, sIT, sC0, sCS])
      refine md_val (i := 5) (v := ?vm129) (listed' := #[true, true, true, true, true, true, false, false, false]) (by rfl) (by kernel_rfl) (by kernel_rfl) (by kernel_rfl) (by intro _ _ _ h; exact h) (by rfl) ?hm129 E2.out (by kernel_rfl) ?rm129
      case hm129 => (intro w hSw; (try dsimp only at hSw); go_simp <;> with_reducible rfl)
      (try simp only [Act.put, sIT, sC0, sCS])
      refine md_range (i := 6) (listed' := #[true, true, true, true, true, true, true, false, false]) (by rfl) (by kernel_rfl) (by kernel_rfl) (by kernel_rfl) _ _ (by rfl) X 4 [.bool b.n, .slice b.p b.l b.c, .bool b.m, .slice b.p2 b.l2 b.c2] _ (by intro _ _ _ h; exact h) (by rfl) (by rfl) (fun x hx => (((FbX.out.ext E1.out)).ext hx).part 4 4) Try.underlying41 (by rfl) (by kernel_rfl) E2.out (by kernel_rfl) ?_
      (try simp only [Act.put, sIT, sC0, sCS])
      refine md_call (i := 7) (listed' := #[true, true, true, true, true, true, true, true, false]) (by rfl) (by kernel_rfl) (by rfl) (by go_simp) (xcmp (L := L) (Fn.out.ext (E1.out.trans E2.out)) ((Fb.out.ext (E1.out.trans E2.out)).isIn hlo) (by omega)) (by kernel_rfl) ?_
      rintro e w3 ⟨rfl, hx⟩
      have E3 := Lib.hid (show Ext wa.drew w3 from hx)
      clear hx
      refine ⟨_, rfl, (E2.out.trans E3.out), ?_⟩
      (try simp only [Act.put, sIT, sC0, sCS])
      refine md_val (i := 8) (v := ?vm130) (listed' := #[true, true, true, true, true, true, true, true, true]) (by rfl) (by kernel_rfl) (by kernel_rfl) (by kernel_rfl) (by intro _ _ _ h; exact h) (by rfl) ?hm130 (E2.out.trans E3.out) (by kernel_rfl) ?rm130
      case hm130 => (intro w hSw; (try dsimp only at hSw); go_simp <;> with_reducible rfl)
      (try simp only [Act.put, sIT, sC0, sCS])
      refine wpAnyH_done (by kernel_rfl) ?_ _
      go_upto_region 3 with fail
      refine wp_region_held_drew (S := fun x => Ext w3 x) (by kernel_rfl) (Ext.refl _).drew (fun _ => ?_)
      have E4 := Lib.hid (show Ext w3 w3.drew from (Ext.refl _).drew)
      refine md_range (i := 0) (listed' := #[true, false, false, false, false, false, false, false, false]) (by rfl) (by kernel_rfl) (by kernel_rfl) (by kernel_rfl) _ _ (by rfl) w.heap.size 0 [.bool n.n, .slice n.p n.l n.c, .bool n.m, .slice n.p2 n.l2 n.c2] _ (by intro _ _ _ h; exact h) (by rfl) (by rfl) (fun x hx => (((Fbx0.out.ext (E2.out.trans E3.out))).ext hx).part 0 4) Try.underlying41 (by rfl) (by kernel_rfl) E4.out (by kernel_rfl) ?_
      (try simp only [Act.put, sIT, sC0, sCS])
      refine md_val (i := 1) (v := ?vm131) (listed' := #[true, true, false, false, false, false, false, false, false]) (by rfl) (by kernel_rfl) (by kernel_rfl) (by kernel_rfl) (by intro _ _ _ h; exact h) (by rfl) ?hm131 E4.out (by kernel_rfl) ?rm131
      case hm131 => (intro w hSw; (try dsimp only at hSw); go_simp <;> with_reducible rfl)
      (try simp only [Act.put, sIT, sC0, sCS])
      refine md_val (i := 2) (v := ?vm132) (listed' := #[true, true, true, false, false, false, false, false, false]) (by rfl) (by kernel_rfl) (by kernel_rfl) (by kernel_rfl) (by intro _ _ _ h; exact h) (by rfl) ?hm132 E4.out (by kernel_rfl) ?rm132
      case hm132 => (intro w hSw; (try dsimp only at hSw); go_simp <;> with_reducible rfl)
      (try simp only [Act.put, sIT, sC0, sCS])
      refine md_val (i := 3) (v := ?vm133) (listed' := #[true, true, true, true, false, false, false, false, false]) (by rfl) (by kernel_rfl) (by kernel_rfl) (by kernel_rfl) (by intro _ _ _ h; exact h) (by rfl) ?hm133 E4.out (by kernel_rfl) ?rm133
      case hm133 => (intro w hSw; (try dsimp only at hSw); go_simp <;> with_reducible rfl)
      (try simp only [Act.put, sIT, sC0, sCS])
      refine md_val (i := 4) (v := ?vm134) (listed' := #[true, true, true, true, true, false, false, false, false]) (by rfl) (by kernel_rfl) (by kernel_rfl) (by kernel_rfl) (by intro _ _ _ h; exact h) (by rfl) ?hm134 E4.out (by kernel_rfl) ?rm134
      case hm134 => (intro w hSw; (try dsimp only at hSw); go_simp <;> with_reducible rfl)
      (try simp only [Act.put, sIT, sC0, sCS])
      refine md_val (i := 5) (v := ?vm135) (listed' := #[true, true, true, true, true, true, false, false, false]) (by rfl) (by kernel_rfl) (by kernel_rfl) (by kernel_rfl) (by intro _ _ _ h; exact h) (by rfl) ?hm135 E4.out (by kernel_rfl) ?rm135
      case hm135 => (intro w hSw; (try dsimp only at hSw); go_simp <;> with_reducible rfl)
      (try simp only [Act.put, sIT, sC0, sCS])
      refine md_range (i := 6) (listed' := #[true, true, true, true, true, true, true, false, false]) (by rfl) (by kernel_rfl) (by kernel_rfl) (by kernel_rfl) _ _ (by rfl) X 12 [.bool d.n, .slice d.p d.l d.c, .bool d.m, .slice d.p2 d.l2 d.c2] _ (by intro _ _ _ h; exact h) (by rfl) (by rfl) (fun x hx => (((FbX.out.ext (E1.out.trans (E2.out.trans E3.out)))).ext hx).part 12 4) Try.underlying41 (by rfl) (by kernel_rfl) E4.out (by kernel_rfl) ?_
      (try simp only [Act.put, sIT, sC0, sCS])
      refine md_call (i := 7) (listed' := #[true, true, true, true, true, true, true, true, false]) (by rfl) (by kernel_rfl) (by rfl) (by go_simp) (xcmp (L := L) (Fn.out.ext (E1.out.trans (E2.out.trans (E3.out.trans E4.out)))) ((Fd.out.ext (E1.out.trans (E2.out.trans (E3.out.trans E4.out)))).isIn hhi) (by omega)) (by kernel_rfl) ?_
      rintro e w5 ⟨rfl, hx⟩
      have E5 := Lib.hid (show Ext w3.drew w5 from hx)
      clear hx
      refine ⟨_, rfl, (E4.out.trans E5.out), ?_⟩
      (try simp only [Act.put, sIT, sC0, sCS])
      refine md_val (i := 8) (v := ?vm136) (listed' := #[true, true, true, true, true, true, true, true, true]) (by rfl) (by kernel_rfl) (by kernel_rfl) (by kernel_rfl) (by intro _ _ _ h; exact h) (by rfl) ?hm136 (E4.out.trans E5.out) (by kernel_rfl) ?rm136
      case hm136 => (intro w hSw; (try dsimp only at hSw); go_simp <;> with_reducible rfl)
      (try simp only [Act.put, sIT, sC0, sCS])
      refine wpAnyH_done (by kernel_rfl) ?_ _
      go_wp2_with fail
      first | refine bodyPost_end (v := .tuple #[]) (results_none rfl _ _ _) rfl ?_ | refine bodyPost_ret (v := .tuple #[]) (results_none rfl _ _ _) rfl ?_
      rw [lower_f (by omega), upper_f (by omega)]
      exact ⟨rfl, ⟨a, b, c, d, (FbX.out.ext (E1.out.trans (E2.out.trans (E3.out.trans (E4.out.trans E5.out))))), (Fa.out.ext (E1.out.trans (E2.out.trans (E3.out.trans (E4.out.trans E5.out))))), (Fb.out.ext (E1.out.trans (E2.out.trans (E3.out.trans (E4.out.trans E5.out))))), (Fc.out.ext (E1.out.trans (E2.out.trans (E3.out.trans (E4.out.trans E5.out))))), (Fd.out.ext (E1.out.trans (E2.out.trans (E3.out.trans (E4.out.trans E5.out)))))⟩, TT.out.trans (Turn.of_ext (E1.out.trans (E2.out.trans (E3.out.trans (E4.out.trans E5.out)))))⟩

end Go.Proofs.Ytllpkoinjompcaa

namespace Go.Proofs.Ytllpkoinjompcaa
open Go.RowKit
attribute [local go_sem ↓] Go.wp_at_zero Go.wp_at_succ run_max_ii run_min_ii

theorem BoxAt.ext {w w' : World} {X : Nat} {lx ly hx hy : Rat} (h : BoxAt w X lx ly hx hy) (x : Ext w w') : BoxAt w' X lx ly hx hy := by
  obtain ⟨a, b, c, d, k, h1, h2, h3, h4⟩ := h
  exact ⟨a, b, c, d, k.ext x, h1.ext x, h2.ext x, h3.ext x, h4.ext x⟩
theorem RV.In.turn {L : Nat} {w w' : World} {X : Nat} {lx ly hx hy : Rat} {a : RV} {q : Rat} (h : a.In L w q) (hb : BoxAt w X lx ly hx hy) (t : Turn X w w') : a.In L w' q := by
  obtain ⟨a, b, c, d, k, _⟩ := hb
  exact h.own k (noU_of _ (by simp)) t.1
theorem rl_lower {q l : Rat} {L : Nat} (h : Nm.rl q ≤ L) (h2 : Nm.rl l ≤ L) : Nm.rl (lower q l) ≤ L := by unfold lower; split <;> assumption
theorem rl_upper {q l : Rat} {L : Nat} (h : Nm.rl q ≤ L) (h2 : Nm.rl l ≤ L) : Nm.rl (upper q l) ≤ L := by unfold upper; split <;> assumption
theorem idx0 (p0 p1 : RV) (w : World) : (Instr.index 42 (.agg #[.bool p0.n, .slice p0.p p0.l p0.c, .bool p0.m, .slice p0.p2 p0.l2 p0.c2, .bool p1.n, .slice p1.p p1.l p1.c, .bool p1.m, .slice p1.p2 p1.l2 p1.c2]) (.int .i64 0)).run Try.prog w = .ok (.agg #[.bool p0.n, .slice p0.p p0.l p0.c, .bool p0.m, .slice p0.p2 p0.l2 p0.c2]) w := by simp [Instr.index, go_sem]
theorem idx1 (p0 p1 : RV) (w : World) : (Instr.index 42 (.agg #[.bool p0.n, .slice p0.p p0.l p0.c, .bool p0.m, .slice p0.p2 p0.l2 p0.c2, .bool p1.n, .slice p1.p p1.l p1.c, .bool p1.m, .slice p1.p2 p1.l2 p1.c2]) (.int .i64 1)).run Try.prog w = .ok (.agg #[.bool p1.n, .slice p1.p p1.l p1.c, .bool p1.m, .slice p1.p2 p1.l2 p1.c2]) w := by simp [Instr.index, go_sem]
set_option maxRecDepth 20000 in
set_option maxHeartbeats 8000000 in
theorem putMore_any (L X : Nat) (p0 p1 : RV) (lx ly hx hy x y : Rat) (w : World) (hb : BoxAt w X lx ly hx hy) (h0 : p0.In L w x) (h1 : p1.In L w y) (r1 : Nm.rl lx ≤ L) (r2 : Nm.rl ly ≤ L) (r3 : Nm.rl hx ≤ L) (r4 : Nm.rl hy ≤ L) (hL1 : 1 ≤ L) (hL : L ≤ 60000) :
    Calls Try.prog 49 #[.pointer (some ⟨X, 0, none⟩), .agg #[.bool p0.n, .slice p0.p p0.l p0.c, .bool p0.m, .slice p0.p2 p0.l2 p0.c2, .bool p1.n, .slice p1.p p1.l p1.c, .bool p1.m, .slice p1.p2 p1.l2 p1.c2]] w fun e w' => e = .returned (.tuple #[]) ∧ BoxAt w' X (lower x lx) (lower y ly) (upper x hx) (upper y hy) ∧ Turn X w w' := by
  have rx : Nm.rl x ≤ L := by have := h0.rl; omega
  have ry : Nm.rl y ≤ L := by have := h1.rl; omega
  have hE : Ext w (w.alloc (.cells #[.bool p0.n, .slice p0.p p0.l p0.c, .bool p0.m, .slice p0.p2 p0.l2 p0.c2, .bool p1.n, .slice p1.p p1.l p1.c, .bool p1.m, .slice p1.p2 p1.l2 p1.c2] 42)) := (Ext.refl _).alloc _
  have hXlt : X < w.heap.size := by obtain ⟨a, b, c, d, k, _⟩ := hb; exact k.lt
  have hP : Blk (w.alloc (.cells #[.bool p0.n, .slice p0.p p0.l p0.c, .bool p0.m, .slice p0.p2 p0.l2 p0.c2, .bool p1.n, .slice p1.p p1.l p1.c, .bool p1.m, .slice p1.p2 p1.l2 p1.c2] 42)) w.heap.size 42 #[.bool p0.n, .slice p0.p p0.l p0.c, .bool p0.m, .slice p0.p2 p0.l2 p0.c2, .bool p1.n, .slice p1.p p1.l p1.c, .bool p1.m, .slice p1.p2 p1.l2 p1.c2] := Blk.new _ _ _
  have HB := Lib.hid (hb.ext hE)
  have H0 := Lib.hid (h0.ext hE)
  have H1 := Lib.hid (h1.ext hE)
  have HR := Lib.hid (And.intro (And.intro r1 r2) (And.intro (And.intro r3 r4) (And.intro rx ry)))
  have HT := Lib.hid (Turn.of_ext (X := X) hE)
  obtain ⟨a, b, c, d, k, _⟩ := hb.ext hE
  have x16 := k.cell 16
  simp at x16
  have y0 := hP.cell 0; have y1 := hP.cell 1; have y2 := hP.cell 2; have y3 := hP.cell 3; have y4 := hP.cell 4; have y5 := hP.cell 5; have y6 := hP.cell 6; have y7 := hP.cell 7
  simp at y0 y1 y2 y3 y4 y5 y6 y7
  clear hb h0 h1 r1 r2 r3 r4 rx ry hE k hP
  go_enter Try.func49, Try.ntmps49
  go_wp2_with fail
  generalize (w.alloc (.cells #[.bool p0.n, .slice p0.p p0.l p0.c, .bool p0.m, .slice p0.p2 p0.l2 p0.c2, .bool p1.n, .slice p1.p p1.l p1.c, .bool p1.m, .slice p1.p2 p1.l2 p1.c2] 42)) = wa at *
  generalize w.heap.size = B at *
  go_loopw [25] (fun i wr => ∃ k : Nat, k ≤ 2 ∧ i = .int .i64 k ∧ BoxAt wr X (if 0 < k then lower x lx else lx) (if 1 < k then lower y ly else ly) (if 0 < k then upper x hx else hx) (if 1 < k then upper y hy else hy) ∧ p0.In L wr x ∧ p1.In L wr y ∧ Turn X w wr) (fun i _ => 2 - (intOf i).toNat)
  case atStart => exact ⟨0, by omega, rfl, by simpa using HB.out, H0.out, H1.out, HT.out⟩
  case round =>
    obtain ⟨k, hk, rfl, hb, h0, h1, ht⟩ := hrel
    clear x16 y0 y1 y2 y3 y4 y5 y6 y7
    have HB := Lib.hid hb
    have H0 := Lib.hid h0
    have H1 := Lib.hid h1
    have HT := Lib.hid ht
    clear hb h0 h1 ht
    have h3 : k = 0 ∨ k = 1 ∨ k = 2 := by omega
    rcases h3 with rfl | rfl | rfl
    · have hix := idx0 p0 p1 wr
      go_wp2_with fail
      refine (add0_any L X p0 lx ly hx hy x _ ((show BoxAt _ X lx ly hx hy by simpa using HB.out).ext ((Ext.refl _).alloc _)) (H0.out.ext ((Ext.refl _).alloc _)) HR.out.1.1 HR.out.2.1.1 hL).mono ?_
      rintro e w2 ⟨rfl, hb2, ht2⟩
      have T2 := Lib.hid ((Turn.of_ext (X := X) ((Ext.refl wr).alloc (.cells #[.bool p0.n, .slice p0.p p0.l p0.c, .bool p0.m, .slice p0.p2 p0.l2 p0.c2] 41))).trans ht2)
      have HB2 := Lib.hid hb2
      clear hb2 ht2
      go_wp2_with fail
      go_roundw
      case rel => exact ⟨1, by omega, by go_num, by simpa using HB2.out, H0.out.turn HB.out T2.out, H1.out.turn HB.out T2.out, HT.out.trans T2.out⟩
      case measure => simp [intOf]
    · have hix := idx1 p0 p1 wr
      go_wp2_with fail
      refine (add1_any L X p1 (lower x lx) ly (upper x hx) hy y _ ((show BoxAt _ X (lower x lx) ly (upper x hx) hy by simpa using HB.out).ext ((Ext.refl _).alloc _)) (H1.out.ext ((Ext.refl _).alloc _)) HR.out.1.2 HR.out.2.1.2 hL).mono ?_
      rintro e w2 ⟨rfl, hb2, ht2⟩
      have T2 := Lib.hid ((Turn.of_ext (X := X) ((Ext.refl wr).alloc (.cells #[.bool p1.n, .slice p1.p p1.l p1.c, .bool p1.m, .slice p1.p2 p1.l2 p1.c2] 41))).trans ht2)
      have HB2 := Lib.hid hb2
      clear hb2 ht2
      go_wp2_with fail
      go_roundw
      case rel => exact ⟨2, by omega, by go_num, by simpa using HB2.out, H0.out.turn HB.out T2.out, H1.out.turn HB.out T2.out, HT.out.trans T2.out⟩
      case measure => simp [intOf]
    · go_wp2_with fail
      first | refine bodyPost_end (v := .tuple #[]) (results_none rfl _ _ _) rfl ?_ | refine bodyPost_ret (v := .tuple #[]) (results_none rfl _ _ _) rfl ?_
      exact ⟨rfl, by simpa using HB.out, HT.out⟩
theorem lower_self (q : Rat) : lower q q = q := by unfold lower; split <;> rfl
theorem upper_self (q : Rat) : upper q q = q := by unfold upper; split <;> rfl
set_option maxRecDepth 20000 in
set_option maxHeartbeats 8000000 in
theorem putFirst_any (L X : Nat) (p0 p1 : RV) (x y : Rat) (w : World) (hX : Blk w X 92 ([.bool false, .slice none 0 0, .bool false, .slice none 0 0, .bool false, .slice none 0 0, .bool false, .slice none 0 0, .bool false, .slice none 0 0, .bool false, .slice none 0 0, .bool false, .slice none 0 0, .bool false, .slice none 0 0, .bool false] : List Value).toArray) (h0 : p0.In L w x) (h1 : p1.In L w y) (hL1 : 1 ≤ L) (hL : L ≤ 60000) :
    Calls Try.prog 49 #[.pointer (some ⟨X, 0, none⟩), .agg #[.bool p0.n, .slice p0.p p0.l p0.c, .bool p0.m, .slice p0.p2 p0.l2 p0.c2, .bool p1.n, .slice p1.p p1.l p1.c, .bool p1.m, .slice p1.p2 p1.l2 p1.c2]] w fun e w' => e = .returned (.tuple #[]) ∧ BoxAt w' X x y x y ∧ Turn X w w' := by
  have rx : Nm.rl x ≤ L := by have := h0.rl; omega
  have ry : Nm.rl y ≤ L := by have := h1.rl; omega
  have hlt := hX.lt
  have x16 := hX.cell 16
  simp at x16
  have Fp0 := Lib.hid h0
  have Fp1 := Lib.hid h1
  have FbX := Lib.hid hX
  clear h0 h1 hX
  go_enter Try.func49, Try.ntmps49
  have hbx0 := Blk.new w 42 #[.bool p0.n, .slice p0.p p0.l p0.c, .bool p0.m, .slice p0.p2 p0.l2 p0.c2, .bool p1.n, .slice p1.p p1.l p1.c, .bool p1.m, .slice p1.p2 p1.l2 p1.c2]
  have hE : Ext w (w.alloc (.cells #[.bool p0.n, .slice p0.p p0.l p0.c, .bool p0.m, .slice p0.p2 p0.l2 p0.c2, .bool p1.n, .slice p1.p p1.l p1.c, .bool p1.m, .slice p1.p2 p1.l2 p1.c2] 42)) := (Ext.refl _).alloc _
  have x16a := hE.get x16
  have y0 := hbx0.cell 0
  have y1 := hbx0.cell 1
  have y2 := hbx0.cell 2
  have y3 := hbx0.cell 3
  have y4 := hbx0.cell 4
  have y5 := hbx0.cell 5
  have y6 := hbx0.cell 6
  have y7 := hbx0.cell 7
  simp at y0 y1 y2 y3 y4 y5 y6 y7
  have nbx0_bX : w.heap.size ≠ X := by omega
  go_upto_region 2 with fail
  clear x16 x16a y0 y1 y2 y3 y4 y5 y6 y7
  generalize (w.alloc (.cells #[.bool p0.n, .slice p0.p p0.l p0.c, .bool p0.m, .slice p0.p2 p0.l2 p0.c2, .bool p1.n, .slice p1.p p1.l p1.c, .bool p1.m, .slice p1.p2 p1.l2 p1.c2] 42)) = wa at *
  have E1 := Lib.hid (show Ext w wa from hE)
  have Fbx0 := Lib.hid hbx0
  clear hE hbx0
  refine wp_region_held_drew (S := fun x => Own X wa x) (by kernel_rfl) (Own.of_ext (Ext.refl _).drew) (fun _ => ?_)
  have E2 := Lib.hid (show Ext wa wa.drew from (Ext.refl _).drew)
  refine md_val (i := 0) (v := ?vm1) (listed' := #[true, false, false, false, false, false, false, false, false, false, false, false, false, false, false, false]) (by rfl) (by kernel_rfl) (by kernel_rfl) (by kernel_rfl) (by intro _ _ _ h; exact h) (by rfl) ?hm1 (Own.of_ext E2.out) (by kernel_rfl) ?rm1
  case hm1 => (intro w hSw; (try dsimp only at hSw); go_simp <;> with_reducible rfl)
  (try simp only [Act.put, sIT, sC0, sCS])
  refine md_val (i := 1) (v := ?vm2) (listed' := #[true, true, false, false, false, false, false, false, false, false, false, false, false, false, false, false]) (by rfl) (by kernel_rfl) (by kernel_rfl) (by kernel_rfl) (by intro _ _ _ h; exact h) (by rfl) ?hm2 (Own.of_ext E2.out) (by kernel_rfl) ?rm2
  case hm2 => (intro w hSw; (try dsimp only at hSw); go_simp <;> with_reducible rfl)
  (try simp only [Act.put, sIT, sC0, sCS])
  refine md_val (i := 2) (v := ?vm3) (listed' := #[true, true, true, false, false, false, false, false, false, false, false, false, false, false, false, false]) (by rfl) (by kernel_rfl) (by kernel_rfl) (by kernel_rfl) (by intro _ _ _ h; exact h) (by rfl) ?hm3 (Own.of_ext E2.out) (by kernel_rfl) ?rm3
  case hm3 => (intro w hSw; (try dsimp only at hSw); go_simp <;> with_reducible rfl)
  (try simp only [Act.put, sIT, sC0, sCS])
  refine md_range (i := 3) (listed' := #[true, true, true, true, false, false, false, false, false, false, false, false, false, false, false, false]) (by rfl) (by kernel_rfl) (by kernel_rfl) (by kernel_rfl) _ _ (by rfl) w.heap.size 0 [.bool p0.n, .slice p0.p p0.l p0.c, .bool p0.m, .slice p0.p2 p0.l2 p0.c2, .bool p1.n, .slice p1.p p1.l p1.c, .bool p1.m, .slice p1.p2 p1.l2 p1.c2] _ (by intro _ _ _ h; exact h) (by rfl) (by rfl) (fun x hx => ((Fbx0.out).own hx nbx0_bX).part 0 8) Try.underlying42 (by rfl) (by kernel_rfl) (Own.of_ext E2.out) (by kernel_rfl) ?_
  (try simp only [Act.put, sIT, sC0, sCS])
  refine md_range (i := 5) (listed' := #[true, true, true, true, false, true, false, false, false, false, false, false, false, false, false, false]) (by rfl) (by kernel_rfl) (by kernel_rfl) (by kernel_rfl) _ _ (by rfl) w.heap.size 0 [.bool p0.n, .slice p0.p p0.l p0.c, .bool p0.m, .slice p0.p2 p0.l2 p0.c2, .bool p1.n, .slice p1.p p1.l p1.c, .bool p1.m, .slice p1.p2 p1.l2 p1.c2] _ (by intro _ _ _ h; exact h) (by rfl) (by rfl) (fun x hx => ((Fbx0.out).own hx nbx0_bX).part 0 8) Try.underlying42 (by rfl) (by kernel_rfl) (Own.of_ext E2.out) (by kernel_rfl) ?_
  (try simp only [Act.put, sIT, sC0, sCS])
  refine md_call (i := 4) (listed' := #[true, true, true, true, true, true, false, false, false, false, false, false, false, false, false, false]) (by rfl) (by kernel_rfl) (by rfl) (by go_simp) (reduced_any p0 p1 L x y _ (Fp0.out.ext (E1.out.trans E2.out)) (Fp1.out.ext (E1.out.trans E2.out)) (by omega)) (by kernel_rfl) ?_
  rintro e w3 ⟨u0, u1, rfl, hc, hd, hx⟩
  have E3 := Lib.hid (show Ext wa.drew w3 from hx)
  have Fu0 := Lib.hid hc
  have Fu1 := Lib.hid hd
  clear hc hd
  clear hx
  refine ⟨_, rfl, (Own.of_ext (E2.out.trans E3.out)), ?_⟩
  (try simp only [Act.put, sIT, sC0, sCS])
  refine md_call (i := 6) (listed' := #[true, true, true, true, true, true, true, false, false, false, false, false, false, false, false, false]) (by rfl) (by kernel_rfl) (by rfl) (by go_simp) (reduced_any p0 p1 L x y _ (Fp0.out.ext (E1.out.trans (E2.out.trans E3.out))) (Fp1.out.ext (E1.out.trans (E2.out.trans E3.out))) (by omega)) (by kernel_rfl) ?_
  rintro e w4 ⟨v0, v1, rfl, hc, hd, hx⟩
  have E4 := Lib.hid (show Ext w3 w4 from hx)
  have Fv0 := Lib.hid hc
  have Fv1 := Lib.hid hd
  clear hc hd
  clear hx
  refine ⟨_, rfl, (Own.of_ext (E2.out.trans (E3.out.trans E4.out))), ?_⟩
  (try simp only [Act.put, sIT, sC0, sCS])
  refine md_val (i := 7) (v := ?vm4) (listed' := #[true, true, true, true, true, true, true, true, false, false, false, false, false, false, false, false]) (by rfl) (by kernel_rfl) (by kernel_rfl) (by kernel_rfl) (by intro _ _ _ h; exact h) (by rfl) ?hm4 (Own.of_ext (E2.out.trans (E3.out.trans E4.out))) (by kernel_rfl) ?rm4
  case hm4 => (intro w hSw; (try dsimp only at hSw); go_simp <;> with_reducible rfl)
  (try simp only [Act.put, sIT, sC0, sCS])
  refine md_val (i := 8) (v := ?vm5) (listed' := #[true, true, true, true, true, true, true, true, true, false, false, false, false, false, false, false]) (by rfl) (by kernel_rfl) (by kernel_rfl) (by kernel_rfl) (by intro _ _ _ h; exact h) (by rfl) ?hm5 (Own.of_ext (E2.out.trans (E3.out.trans E4.out))) (by kernel_rfl) ?rm5
  case hm5 => (intro w hSw; (try dsimp only at hSw); go_simp <;> with_reducible rfl)
  (try simp only [Act.put, sIT, sC0, sCS])
  have kb0 := (FbX.out.ext (E1.out.trans (E2.out.trans (E3.out.trans E4.out))))
  have ob0 : Own X w4 (w4.setCells X 0 (#[.bool u0.n, .slice u0.p u0.l u0.c, .bool u0.m, .slice u0.p2 u0.l2 u0.c2, .bool u1.n, .slice u1.p u1.l u1.c, .bool u1.m, .slice u1.p2 u1.l2 u1.c2] : Array Value).toList) := Own.setCells_l _ _ (Own.refl _ _)
  have kc0 : Blk (w4.setCells X 0 (#[.bool u0.n, .slice u0.p u0.l u0.c, .bool u0.m, .slice u0.p2 u0.l2 u0.c2, .bool u1.n, .slice u1.p u1.l u1.c, .bool u1.m, .slice u1.p2 u1.l2 u1.c2] : Array Value).toList) X 92 ([.bool u0.n, .slice u0.p u0.l u0.c, .bool u0.m, .slice u0.p2 u0.l2 u0.c2, .bool u1.n, .slice u1.p u1.l u1.c, .bool u1.m, .slice u1.p2 u1.l2 u1.c2, .bool false, .slice none 0 0, .bool false, .slice none 0 0, .bool false, .slice none 0 0, .bool false, .slice none 0 0, .bool false] : List Value).toArray := kb0.setPart 0 (#[.bool u0.n, .slice u0.p u0.l u0.c, .bool u0.m, .slice u0.p2 u0.l2 u0.c2, .bool u1.n, .slice u1.p u1.l u1.c, .bool u1.m, .slice u1.p2 u1.l2 u1.c2] : Array Value).toList (by simp)
  refine md_pstore (i := 9) (listed' := #[true, true, true, true, true, true, true, true, true, true, false, false, false, false, false, false]) (by rfl) (by kernel_rfl) (by rfl) _ _ _ (by rfl) X 0 _ [.bool false, .slice none 0 0, .bool false, .slice none 0 0, .bool false, .slice none 0 0, .bool false, .slice none 0 0, .bool false, .slice none 0 0, .bool false, .slice none 0 0, .bool false, .slice none 0 0, .bool false, .slice none 0 0, .bool false] #[.bool u0.n, .slice u0.p u0.l u0.c, .bool u0.m, .slice u0.p2 u0.l2 u0.c2, .bool u1.n, .slice u1.p u1.l u1.c, .bool u1.m, .slice u1.p2 u1.l2 u1.c2] (by rfl) (by rfl) kb0 (by simp) (by kernel_rfl) (all_oneCell_toArray (by simp [Value.oneCell'])) (Own.then_ext' (E2.out.trans (E3.out.trans E4.out)) ob0) (by kernel_rfl) ?_
  (try simp only [Act.put])
  refine md_val (i := 10) (v := ?vm6) (listed' := #[true, true, true, true, true, true, true, true, true, true, true, false, false, false, false, false]) (by rfl) (by kernel_rfl) (by kernel_rfl) (by kernel_rfl) (by intro _ _ _ h; exact h) (by rfl) ?hm6 (Own.then_ext' (E2.out.trans (E3.out.trans E4.out)) ob0) (by kernel_rfl) ?rm6
  case hm6 => (intro w hSw; (try dsimp only at hSw); go_simp <;> with_reducible rfl)
  (try simp only [Act.put, sIT, sC0, sCS])
  refine md_val (i := 11) (v := ?vm7) (listed' := #[true, true, true, true, true, true, true, true, true, true, true, true, false, false, false, false]) (by rfl) (by kernel_rfl) (by kernel_rfl) (by kernel_rfl) (by intro _ _ _ h; exact h) (by rfl) ?hm7 (Own.then_ext' (E2.out.trans (E3.out.trans E4.out)) ob0) (by kernel_rfl) ?rm7
  case hm7 => (intro w hSw; (try dsimp only at hSw); go_simp <;> with_reducible rfl)
  (try simp only [Act.put, sIT, sC0, sCS])
  have kb1 := kc0
  have ob1 : Own X (w4.setCells X 0 (#[.bool u0.n, .slice u0.p u0.l u0.c, .bool u0.m, .slice u0.p2 u0.l2 u0.c2, .bool u1.n, .slice u1.p u1.l u1.c, .bool u1.m, .slice u1.p2 u1.l2 u1.c2] : Array Value).toList) ((w4.setCells X 0 (#[.bool u0.n, .slice u0.p u0.l u0.c, .bool u0.m, .slice u0.p2 u0.l2 u0.c2, .bool u1.n, .slice u1.p u1.l u1.c, .bool u1.m, .slice u1.p2 u1.l2 u1.c2] : Array Value).toList).setCells X 8 (#[.bool v0.n, .slice v0.p v0.l v0.c, .bool v0.m, .slice v0.p2 v0.l2 v0.c2, .bool v1.n, .slice v1.p v1.l v1.c, .bool v1.m, .slice v1.p2 v1.l2 v1.c2] : Array Value).toList) := Own.setCells_l _ _ (Own.refl _ _)
  have kc1 : Blk ((w4.setCells X 0 (#[.bool u0.n, .slice u0.p u0.l u0.c, .bool u0.m, .slice u0.p2 u0.l2 u0.c2, .bool u1.n, .slice u1.p u1.l u1.c, .bool u1.m, .slice u1.p2 u1.l2 u1.c2] : Array Value).toList).setCells X 8 (#[.bool v0.n, .slice v0.p v0.l v0.c, .bool v0.m, .slice v0.p2 v0.l2 v0.c2, .bool v1.n, .slice v1.p v1.l v1.c, .bool v1.m, .slice v1.p2 v1.l2 v1.c2] : Array Value).toList) X 92 ([.bool u0.n, .slice u0.p u0.l u0.c, .bool u0.m, .slice u0.p2 u0.l2 u0.c2, .bool u1.n, .slice u1.p u1.l u1.c, .bool u1.m, .slice u1.p2 u1.l2 u1.c2, .bool v0.n, .slice v0.p v0.l v0.c, .bool v0.m, .slice v0.p2 v0.l2 v0.c2, .bool v1.n, .slice v1.p v1.l v1.c, .bool v1.m, .slice v1.p2 v1.l2 v1.c2, .bool false] : List Value).toArray := kb1.setPart 8 (#[.bool v0.n, .slice v0.p v0.l v0.c, .bool v0.m, .slice v0.p2 v0.l2 v0.c2, .bool v1.n, .slice v1.p v1.l v1.c, .bool v1.m, .slice v1.p2 v1.l2 v1.c2] : Array Value).toList (by simp)
  refine md_pstore (i := 12) (listed' := #[true, true, true, true, true, true, true, true, true, true, true, true, true, false, false, false]) (by rfl) (by kernel_rfl) (by rfl) _ _ _ (by rfl) X 8 _ [.bool u0.n, .slice u0.p u0.l u0.c, .bool u0.m, .slice u0.p2 u0.l2 u0.c2, .bool u1.n, .slice u1.p u1.l u1.c, .bool u1.m, .slice u1.p2 u1.l2 u1.c2, .bool false, .slice none 0 0, .bool false, .slice none 0 0, .bool false, .slice none 0 0, .bool false, .slice none 0 0, .bool false] #[.bool v0.n, .slice v0.p v0.l v0.c, .bool v0.m, .slice v0.p2 v0.l2 v0.c2, .bool v1.n, .slice v1.p v1.l v1.c, .bool v1.m, .slice v1.p2 v1.l2 v1.c2] (by rfl) (by rfl) kb1 (by simp) (by kernel_rfl) (all_oneCell_toArray (by simp [Value.oneCell'])) (Own.then_ext' (E2.out.trans (E3.out.trans E4.out)) (ob0.trans ob1)) (by kernel_rfl) ?_
  (try simp only [Act.put])
  refine md_val (i := 13) (v := ?vm8) (listed' := #[true, true, true, true, true, true, true, true, true, true, true, true, true, true, false, false]) (by rfl) (by kernel_rfl) (by kernel_rfl) (by kernel_rfl) (by intro _ _ _ h; exact h) (by rfl) ?hm8 (Own.then_ext' (E2.out.trans (E3.out.trans E4.out)) (ob0.trans ob1)) (by kernel_rfl) ?rm8
  case hm8 => (intro w hSw; (try dsimp only at hSw); go_simp <;> with_reducible rfl)
  (try simp only [Act.put, sIT, sC0, sCS])
  refine md_val (i := 14) (v := ?vm9) (listed' := #[true, true, true, true, true, true, true, true, true, true, true, true, true, true, true, false]) (by rfl) (by kernel_rfl) (by kernel_rfl) (by kernel_rfl) (by intro _ _ _ h; exact h) (by rfl) ?hm9 (Own.then_ext' (E2.out.trans (E3.out.trans E4.out)) (ob0.trans ob1)) (by kernel_rfl) ?rm9
  case hm9 => (intro w hSw; (try dsimp only at hSw); go_simp <;> with_reducible rfl)
  (try simp only [Act.put, sIT, sC0, sCS])
  have kb2 := kc1
  have ob2 : Own X ((w4.setCells X 0 (#[.bool u0.n, .slice u0.p u0.l u0.c, .bool u0.m, .slice u0.p2 u0.l2 u0.c2, .bool u1.n, .slice u1.p u1.l u1.c, .bool u1.m, .slice u1.p2 u1.l2 u1.c2] : Array Value).toList).setCells X 8 (#[.bool v0.n, .slice v0.p v0.l v0.c, .bool v0.m, .slice v0.p2 v0.l2 v0.c2, .bool v1.n, .slice v1.p v1.l v1.c, .bool v1.m, .slice v1.p2 v1.l2 v1.c2] : Array Value).toList) (((w4.setCells X 0 (#[.bool u0.n, .slice u0.p u0.l u0.c, .bool u0.m, .slice u0.p2 u0.l2 u0.c2, .bool u1.n, .slice u1.p u1.l u1.c, .bool u1.m, .slice u1.p2 u1.l2 u1.c2] : Array Value).toList).setCells X 8 (#[.bool v0.n, .slice v0.p v0.l v0.c, .bool v0.m, .slice v0.p2 v0.l2 v0.c2, .bool v1.n, .slice v1.p v1.l v1.c, .bool v1.m, .slice v1.p2 v1.l2 v1.c2] : Array Value).toList).setCells X 16 [.bool true]) := Own.setCells_l _ _ (Own.refl _ _)
  have kc2 : Blk (((w4.setCells X 0 (#[.bool u0.n, .slice u0.p u0.l u0.c, .bool u0.m, .slice u0.p2 u0.l2 u0.c2, .bool u1.n, .slice u1.p u1.l u1.c, .bool u1.m, .slice u1.p2 u1.l2 u1.c2] : Array Value).toList).setCells X 8 (#[.bool v0.n, .slice v0.p v0.l v0.c, .bool v0.m, .slice v0.p2 v0.l2 v0.c2, .bool v1.n, .slice v1.p v1.l v1.c, .bool v1.m, .slice v1.p2 v1.l2 v1.c2] : Array Value).toList).setCells X 16 [.bool true]) X 92 ([.bool u0.n, .slice u0.p u0.l u0.c, .bool u0.m, .slice u0.p2 u0.l2 u0.c2, .bool u1.n, .slice u1.p u1.l u1.c, .bool u1.m, .slice u1.p2 u1.l2 u1.c2, .bool v0.n, .slice v0.p v0.l v0.c, .bool v0.m, .slice v0.p2 v0.l2 v0.c2, .bool v1.n, .slice v1.p v1.l v1.c, .bool v1.m, .slice v1.p2 v1.l2 v1.c2, .bool true] : List Value).toArray := kb2.setPart 16 [.bool true] (by simp)
  refine md_cell (i := 15) (listed' := #[true, true, true, true, true, true, true, true, true, true, true, true, true, true, true, true]) (by rfl) (by kernel_rfl) (by rfl) _ _ _ (by rfl) X 16 _ [.bool u0.n, .slice u0.p u0.l u0.c, .bool u0.m, .slice u0.p2 u0.l2 u0.c2, .bool u1.n, .slice u1.p u1.l u1.c, .bool u1.m, .slice u1.p2 u1.l2 u1.c2, .bool v0.n, .slice v0.p v0.l v0.c, .bool v0.m, .slice v0.p2 v0.l2 v0.c2, .bool v1.n, .slice v1.p v1.l v1.c, .bool v1.m, .slice v1.p2 v1.l2 v1.c2, .bool false] (.bool true) (by rfl) (by rfl) kb2 (by simp) (by kernel_rfl) (by rfl) (by rfl) (Own.then_ext' (E2.out.trans (E3.out.trans E4.out)) ((ob0.trans ob1).trans ob2)) (by kernel_rfl) ?_
  (try simp only [Act.put])
  refine wpAnyH_done (by kernel_rfl) ?_ _
  have hb : BoxAt (((w4.setCells X 0 (#[.bool u0.n, .slice u0.p u0.l u0.c, .bool u0.m, .slice u0.p2 u0.l2 u0.c2, .bool u1.n, .slice u1.p u1.l u1.c, .bool u1.m, .slice u1.p2 u1.l2 u1.c2] : Array Value).toList).setCells X 8 (#[.bool v0.n, .slice v0.p v0.l v0.c, .bool v0.m, .slice v0.p2 v0.l2 v0.c2, .bool v1.n, .slice v1.p v1.l v1.c, .bool v1.m, .slice v1.p2 v1.l2 v1.c2] : Array Value).toList).setCells X 16 [.bool true]) X x y x y := ⟨u0, u1, v0, v1, kc2, (((((Fu0.out.ext E4.out)).own kb0 (noU_of _ (by simp)) ob0).own kb1 (noU_of _ (by simp)) ob1).own kb2 (noU_of _ (by simp)) ob2), (((((Fu1.out.ext E4.out)).own kb0 (noU_of _ (by simp)) ob0).own kb1 (noU_of _ (by simp)) ob1).own kb2 (noU_of _ (by simp)) ob2), ((((Fv0.out).own kb0 (noU_of _ (by simp)) ob0).own kb1 (noU_of _ (by simp)) ob1).own kb2 (noU_of _ (by simp)) ob2), ((((Fv1.out).own kb0 (noU_of _ (by simp)) ob0).own kb1 (noU_of _ (by simp)) ob1).own kb2 (noU_of _ (by simp)) ob2)⟩
  have h0 : p0.In L (((w4.setCells X 0 (#[.bool u0.n, .slice u0.p u0.l u0.c, .bool u0.m, .slice u0.p2 u0.l2 u0.c2, .bool u1.n, .slice u1.p u1.l u1.c, .bool u1.m, .slice u1.p2 u1.l2 u1.c2] : Array Value).toList).setCells X 8 (#[.bool v0.n, .slice v0.p v0.l v0.c, .bool v0.m, .slice v0.p2 v0.l2 v0.c2, .bool v1.n, .slice v1.p v1.l v1.c, .bool v1.m, .slice v1.p2 v1.l2 v1.c2] : Array Value).toList).setCells X 16 [.bool true]) x := (((((Fp0.out.ext (E1.out.trans (E2.out.trans (E3.out.trans E4.out))))).own kb0 (noU_of _ (by simp)) ob0).own kb1 (noU_of _ (by simp)) ob1).own kb2 (noU_of _ (by simp)) ob2)
  have h1 : p1.In L (((w4.setCells X 0 (#[.bool u0.n, .slice u0.p u0.l u0.c, .bool u0.m, .slice u0.p2 u0.l2 u0.c2, .bool u1.n, .slice u1.p u1.l u1.c, .bool u1.m, .slice u1.p2 u1.l2 u1.c2] : Array Value).toList).setCells X 8 (#[.bool v0.n, .slice v0.p v0.l v0.c, .bool v0.m, .slice v0.p2 v0.l2 v0.c2, .bool v1.n, .slice v1.p v1.l v1.c, .bool v1.m, .slice v1.p2 v1.l2 v1.c2] : Array Value).toList).setCells X 16 [.bool true]) y := (((((Fp1.out.ext (E1.out.trans (E2.out.trans (E3.out.trans E4.out))))).own kb0 (noU_of _ (by simp)) ob0).own kb1 (noU_of _ (by simp)) ob1).own kb2 (noU_of _ (by simp)) ob2)
  have hB : Blk (((w4.setCells X 0 (#[.bool u0.n, .slice u0.p u0.l u0.c, .bool u0.m, .slice u0.p2 u0.l2 u0.c2, .bool u1.n, .slice u1.p u1.l u1.c, .bool u1.m, .slice u1.p2 u1.l2 u1.c2] : Array Value).toList).setCells X 8 (#[.bool v0.n, .slice v0.p v0.l v0.c, .bool v0.m, .slice v0.p2 v0.l2 v0.c2, .bool v1.n, .slice v1.p v1.l v1.c, .bool v1.m, .slice v1.p2 v1.l2 v1.c2] : Array Value).toList).setCells X 16 [.bool true]) w.heap.size 42 #[.bool p0.n, .slice p0.p p0.l p0.c, .bool p0.m, .slice p0.p2 p0.l2 p0.c2, .bool p1.n, .slice p1.p p1.l p1.c, .bool p1.m, .slice p1.p2 p1.l2 p1.c2] := ((((Fbx0.out.ext (E2.out.trans (E3.out.trans E4.out)))).own ob0 nbx0_bX).own ob1 nbx0_bX).own ob2 nbx0_bX
  have ht : Turn X w (((w4.setCells X 0 (#[.bool u0.n, .slice u0.p u0.l u0.c, .bool u0.m, .slice u0.p2 u0.l2 u0.c2, .bool u1.n, .slice u1.p u1.l u1.c, .bool u1.m, .slice u1.p2 u1.l2 u1.c2] : Array Value).toList).setCells X 8 (#[.bool v0.n, .slice v0.p v0.l v0.c, .bool v0.m, .slice v0.p2 v0.l2 v0.c2, .bool v1.n, .slice v1.p v1.l v1.c, .bool v1.m, .slice v1.p2 v1.l2 v1.c2] : Array Value).toList).setCells X 16 [.bool true]) := (Turn.of_ext (E1.out.trans (E2.out.trans (E3.out.trans E4.out)))).trans ⟨(ob0.trans ob1).trans ob2, fun r q h => ((((h).own kb0 (noU_of _ (by simp)) ob0).own kb1 (noU_of _ (by simp)) ob1).own kb2 (noU_of _ (by simp)) ob2)⟩
  clear kb0 kb1 kb2 kc0 kc1 kc2 ob0 ob1 ob2
  generalize (((w4.setCells X 0 (#[.bool u0.n, .slice u0.p u0.l u0.c, .bool u0.m, .slice u0.p2 u0.l2 u0.c2, .bool u1.n, .slice u1.p u1.l u1.c, .bool u1.m, .slice u1.p2 u1.l2 u1.c2] : Array Value).toList).setCells X 8 (#[.bool v0.n, .slice v0.p v0.l v0.c, .bool v0.m, .slice v0.p2 v0.l2 v0.c2, .bool v1.n, .slice v1.p v1.l v1.c, .bool v1.m, .slice v1.p2 v1.l2 v1.c2] : Array Value).toList).setCells X 16 [.bool true]) = wb at *
  have HB := Lib.hid hb
  have H0 := Lib.hid h0
  have H1 := Lib.hid h1
  have HT := Lib.hid ht
  have HR := Lib.hid (And.intro rx ry)
  have y0 := hB.cell 0
  have y1 := hB.cell 1
  have y2 := hB.cell 2
  have y3 := hB.cell 3
  have y4 := hB.cell 4
  have y5 := hB.cell 5
  have y6 := hB.cell 6
  have y7 := hB.cell 7
  simp at y0 y1 y2 y3 y4 y5 y6 y7
  clear hb h0 h1 ht rx ry hB hlt
  go_wp2_with fail
  go_loopw [25] (fun i wr => ∃ k : Nat, k ≤ 2 ∧ i = .int .i64 k ∧ BoxAt wr X x y x y ∧ p0.In L wr x ∧ p1.In L wr y ∧ Turn X w wr) (fun i _ => 2 - (intOf i).toNat)
  case atStart => exact ⟨0, by omega, rfl, HB.out, H0.out, H1.out, HT.out⟩
  case round =>
    obtain ⟨k, hk, rfl, hb, h0, h1, ht⟩ := hrel
    clear y0 y1 y2 y3 y4 y5 y6 y7
    have HB := Lib.hid hb
    have H0 := Lib.hid h0
    have H1 := Lib.hid h1
    have HT := Lib.hid ht
    clear hb h0 h1 ht
    have h3 : k = 0 ∨ k = 1 ∨ k = 2 := by omega
    rcases h3 with rfl | rfl | rfl
    · have hix := idx0 p0 p1 wr
      go_wp2_with fail
      refine (add0_any L X p0 x y x y x _ (HB.out.ext ((Ext.refl _).alloc _)) (H0.out.ext ((Ext.refl _).alloc _)) HR.out.1 HR.out.1 hL).mono ?_
      rintro e w2 ⟨rfl, hb2, ht2⟩
      have T2 := Lib.hid ((Turn.of_ext (X := X) ((Ext.refl wr).alloc (.cells #[.bool p0.n, .slice p0.p p0.l p0.c, .bool p0.m, .slice p0.p2 p0.l2 p0.c2] 41))).trans ht2)
      have HB2 := Lib.hid hb2
      clear hb2 ht2
      go_wp2_with fail
      go_roundw
      case rel => exact ⟨1, by omega, by go_num, by have h := HB2.out; rwa [lower_self, upper_self] at h, H0.out.turn HB.out T2.out, H1.out.turn HB.out T2.out, HT.out.trans T2.out⟩
      case measure => simp [intOf]
    · have hix := idx1 p0 p1 wr
      go_wp2_with fail
      refine (add1_any L X p1 x y x y y _ (HB.out.ext ((Ext.refl _).alloc _)) (H1.out.ext ((Ext.refl _).alloc _)) HR.out.2 HR.out.2 hL).mono ?_
      rintro e w2 ⟨rfl, hb2, ht2⟩
      have T2 := Lib.hid ((Turn.of_ext (X := X) ((Ext.refl wr).alloc (.cells #[.bool p1.n, .slice p1.p p1.l p1.c, .bool p1.m, .slice p1.p2 p1.l2 p1.c2] 41))).trans ht2)
      have HB2 := Lib.hid hb2
      clear hb2 ht2
      go_wp2_with fail
      go_roundw
      case rel => exact ⟨2, by omega, by go_num, by have h := HB2.out; rwa [lower_self, upper_self] at h, H0.out.turn HB.out T2.out, H1.out.turn HB.out T2.out, HT.out.trans T2.out⟩
      case measure => simp [intOf]
    · go_wp2_with fail
      first | refine bodyPost_end (v := .tuple #[]) (results_none rfl _ _ _) rfl ?_ | refine bodyPost_ret (v := .tuple #[]) (results_none rfl _ _ _) rfl ?_
      exact ⟨rfl, HB.out, HT.out⟩

end Go.Proofs.Ytllpkoinjompcaa
