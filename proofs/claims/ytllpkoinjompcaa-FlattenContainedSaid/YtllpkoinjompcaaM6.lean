/- In order: The program's CubicBounds. · The program's rational numbers over whole values. · What the bounds of a quadratic curve's coordinate are. -/
import Derived.Test.YtllpkoinjompcaaM5
namespace Go.Proofs.Ytllpkoinjompcaa
open Go.RowKit
attribute [local go_sem ↓] Go.wp_at_zero Go.wp_at_succ run_max_ii run_min_ii

theorem divInt12 : Rat.divInt 1 2 = (1 : Rat) / 2 := by decide +kernel
theorem rl12 : Nm.rl ((1 : Rat) / 2) ≤ 1 := by
  have e1 : ((1 : Rat) / 2).num = 1 := by decide +kernel
  have e2 : ((1 : Rat) / 2).den = 2 := by decide +kernel
  unfold Nm.rl
  rw [e1, e2]
  have h1 : Nm.nl (Int.natAbs 1) ≤ 1 := Nm.nl_le (by decide)
  have h2 : Nm.nl 2 ≤ 1 := Nm.nl_le (by decide)
  omega
theorem xHalf (w : World) : Calls Try.prog 47 #[.int .i64 1, .int .i64 2] w fun e w' => ∃ c, e = .returned (.tuple #[.agg c, .int .i64 0]) ∧ NIs w' c ((1 : Rat) / 2) ∧ Ext w w' := by
  have h := rfromInts_any 1 2 w (by omega) (by omega) (by omega) (by omega) (by omega)
  rw [divInt12] at h
  refine h.mono ?_
  intro e w' h
  obtain ⟨a, rfl, k1, k2⟩ := RetRE.v h
  exact ⟨_, rfl, ⟨a, rfl, k1⟩, k2⟩
theorem Turn.blk {X : Nat} {w w' : World} (t : Turn X w w') {g : Nat} {ty : TypeId} {cs : Array Value} (h : Blk w g ty cs) (hn : g ≠ X) : Blk w' g ty cs := h.own t.1 hn
theorem oPutFirst {L X : Nat} {cs : Array Value} {x y : Rat} {w : World} (hX : Blk w X 92 ([.bool false, .slice none 0 0, .bool false, .slice none 0 0, .bool false, .slice none 0 0, .bool false, .slice none 0 0, .bool false, .slice none 0 0, .bool false, .slice none 0 0, .bool false, .slice none 0 0, .bool false, .slice none 0 0, .bool false] : List Value).toArray) (hp : PtIs w cs x y) (rx : Nm.rl x ≤ L) (ry : Nm.rl y ≤ L) (h1 : 1 ≤ L) (hL : L ≤ 60000) :
    Calls Try.prog 49 #[.pointer (some ⟨X, 0, none⟩), .agg cs] w fun e w' => e = .returned (.tuple #[]) ∧ BoxAt w' X x y x y ∧ Turn X w w' := by
  obtain ⟨a, b, rfl, ha, hb⟩ := hp
  exact putFirst_any L X a b x y w hX (ha.isIn rx) (hb.isIn ry) h1 hL
theorem oPutMore {L X : Nat} {cs : Array Value} {lx ly hx hy x y : Rat} {w : World} (hX : BoxAt w X lx ly hx hy) (hp : PtIs w cs x y) (rx : Nm.rl x ≤ L) (ry : Nm.rl y ≤ L) (r1 : Nm.rl lx ≤ L) (r2 : Nm.rl ly ≤ L) (r3 : Nm.rl hx ≤ L) (r4 : Nm.rl hy ≤ L) (h1 : 1 ≤ L) (hL : L ≤ 60000) :
    Calls Try.prog 49 #[.pointer (some ⟨X, 0, none⟩), .agg cs] w fun e w' => e = .returned (.tuple #[]) ∧ BoxAt w' X (lower x lx) (lower y ly) (upper x hx) (upper y hy) ∧ Turn X w w' := by
  obtain ⟨a, b, rfl, ha, hb⟩ := hp
  exact putMore_any L X a b lx ly hx hy x y w hX (ha.isIn rx) (hb.isIn ry) r1 r2 r3 r4 h1 hL
def boxLo (xs : List Rat) : Rat := xs.tail.foldl (fun l q => lower q l) (xs.headD 0)
def boxHi (xs : List Rat) : Rat := xs.tail.foldl (fun l q => upper q l) (xs.headD 0)
set_option maxRecDepth 20000 in
set_option maxHeartbeats 8000000 in
theorem cubicBounds_any (L : Nat) (cp : Array Value) (A0 A1 B0 B1 C0 C1 D0 D1 : Rat) (w : World) (hP : C4In L w cp A0 A1 B0 B1 C0 C1 D0 D1) (h1 : 1 ≤ L) (hL : L ≤ 200) :
    Calls Try.prog 25 #[.agg cp] w fun e w' => ∃ c1 c2, e = .returned (.tuple #[.agg c1, .agg c2]) ∧ PtIs w' c1 (boxLo [A0, (lerpV (lerpV (lerpV A0 B0 ((1 : Rat) / 2)) (lerpV B0 C0 ((1 : Rat) / 2)) ((1 : Rat) / 2)) (lerpV (lerpV B0 C0 ((1 : Rat) / 2)) (lerpV C0 D0 ((1 : Rat) / 2)) ((1 : Rat) / 2)) ((1 : Rat) / 2)), (lerpV A0 B0 ((1 : Rat) / 2)), (lerpV (lerpV B0 C0 ((1 : Rat) / 2)) (lerpV C0 D0 ((1 : Rat) / 2)) ((1 : Rat) / 2)), (lerpV (lerpV A0 B0 ((1 : Rat) / 2)) (lerpV B0 C0 ((1 : Rat) / 2)) ((1 : Rat) / 2)), (lerpV C0 D0 ((1 : Rat) / 2)), (lerpV (lerpV (lerpV A0 B0 ((1 : Rat) / 2)) (lerpV B0 C0 ((1 : Rat) / 2)) ((1 : Rat) / 2)) (lerpV (lerpV B0 C0 ((1 : Rat) / 2)) (lerpV C0 D0 ((1 : Rat) / 2)) ((1 : Rat) / 2)) ((1 : Rat) / 2)), D0]) (boxLo [A1, (lerpV (lerpV (lerpV A1 B1 ((1 : Rat) / 2)) (lerpV B1 C1 ((1 : Rat) / 2)) ((1 : Rat) / 2)) (lerpV (lerpV B1 C1 ((1 : Rat) / 2)) (lerpV C1 D1 ((1 : Rat) / 2)) ((1 : Rat) / 2)) ((1 : Rat) / 2)), (lerpV A1 B1 ((1 : Rat) / 2)), (lerpV (lerpV B1 C1 ((1 : Rat) / 2)) (lerpV C1 D1 ((1 : Rat) / 2)) ((1 : Rat) / 2)), (lerpV (lerpV A1 B1 ((1 : Rat) / 2)) (lerpV B1 C1 ((1 : Rat) / 2)) ((1 : Rat) / 2)), (lerpV C1 D1 ((1 : Rat) / 2)), (lerpV (lerpV (lerpV A1 B1 ((1 : Rat) / 2)) (lerpV B1 C1 ((1 : Rat) / 2)) ((1 : Rat) / 2)) (lerpV (lerpV B1 C1 ((1 : Rat) / 2)) (lerpV C1 D1 ((1 : Rat) / 2)) ((1 : Rat) / 2)) ((1 : Rat) / 2)), D1]) ∧ PtIs w' c2 (boxHi [A0, (lerpV (lerpV (lerpV A0 B0 ((1 : Rat) / 2)) (lerpV B0 C0 ((1 : Rat) / 2)) ((1 : Rat) / 2)) (lerpV (lerpV B0 C0 ((1 : Rat) / 2)) (lerpV C0 D0 ((1 : Rat) / 2)) ((1 : Rat) / 2)) ((1 : Rat) / 2)), (lerpV A0 B0 ((1 : Rat) / 2)), (lerpV (lerpV B0 C0 ((1 : Rat) / 2)) (lerpV C0 D0 ((1 : Rat) / 2)) ((1 : Rat) / 2)), (lerpV (lerpV A0 B0 ((1 : Rat) / 2)) (lerpV B0 C0 ((1 : Rat) / 2)) ((1 : Rat) / 2)), (lerpV C0 D0 ((1 : Rat) / 2)), (lerpV (lerpV (lerpV A0 B0 ((1 : Rat) / 2)) (lerpV B0 C0 ((1 : Rat) / 2)) ((1 : Rat) / 2)) (lerpV (lerpV B0 C0 ((1 : Rat) / 2)) (lerpV C0 D0 ((1 : Rat) / 2)) ((1 : Rat) / 2)) ((1 : Rat) / 2)), D0]) (boxHi [A1, (lerpV (lerpV (lerpV A1 B1 ((1 : Rat) / 2)) (lerpV B1 C1 ((1 : Rat) / 2)) ((1 : Rat) / 2)) (lerpV (lerpV B1 C1 ((1 : Rat) / 2)) (lerpV C1 D1 ((1 : Rat) / 2)) ((1 : Rat) / 2)) ((1 : Rat) / 2)), (lerpV A1 B1 ((1 : Rat) / 2)), (lerpV (lerpV B1 C1 ((1 : Rat) / 2)) (lerpV C1 D1 ((1 : Rat) / 2)) ((1 : Rat) / 2)), (lerpV (lerpV A1 B1 ((1 : Rat) / 2)) (lerpV B1 C1 ((1 : Rat) / 2)) ((1 : Rat) / 2)), (lerpV C1 D1 ((1 : Rat) / 2)), (lerpV (lerpV (lerpV A1 B1 ((1 : Rat) / 2)) (lerpV B1 C1 ((1 : Rat) / 2)) ((1 : Rat) / 2)) (lerpV (lerpV B1 C1 ((1 : Rat) / 2)) (lerpV C1 D1 ((1 : Rat) / 2)) ((1 : Rat) / 2)) ((1 : Rat) / 2)), D1]) ∧ Ext w w' := by
  have ZP := hP.size
  have ra0 : Nm.rl A0 ≤ L := by obtain ⟨_, _, _, _, _, _, _, _, _, h, _, _, _, _, _, _, _⟩ := hP; have := h.rl; omega
  have ra1 : Nm.rl A1 ≤ L := by obtain ⟨_, _, _, _, _, _, _, _, _, _, h, _, _, _, _, _, _⟩ := hP; have := h.rl; omega
  have rb0 : Nm.rl B0 ≤ L := by obtain ⟨_, _, _, _, _, _, _, _, _, _, _, h, _, _, _, _, _⟩ := hP; have := h.rl; omega
  have rb1 : Nm.rl B1 ≤ L := by obtain ⟨_, _, _, _, _, _, _, _, _, _, _, _, h, _, _, _, _⟩ := hP; have := h.rl; omega
  have rc0 : Nm.rl C0 ≤ L := by obtain ⟨_, _, _, _, _, _, _, _, _, _, _, _, _, h, _, _, _⟩ := hP; have := h.rl; omega
  have rc1 : Nm.rl C1 ≤ L := by obtain ⟨_, _, _, _, _, _, _, _, _, _, _, _, _, _, h, _, _⟩ := hP; have := h.rl; omega
  have rd0 : Nm.rl D0 ≤ L := by obtain ⟨_, _, _, _, _, _, _, _, _, _, _, _, _, _, _, h, _⟩ := hP; have := h.rl; omega
  have rd1 : Nm.rl D1 ≤ L := by obtain ⟨_, _, _, _, _, _, _, _, _, _, _, _, _, _, _, _, h⟩ := hP; have := h.rl; omega
  have rS : Nm.rl ((1 : Rat) / 2) ≤ L := Nat.le_trans rl12 h1
  have l00 := rl_lerpV (a := A0) (b := B0) (t := ((1 : Rat) / 2)) (L := L) ra0 rb0 rS
  have l10 := rl_lerpV (a := B0) (b := C0) (t := ((1 : Rat) / 2)) (L := L) rb0 rc0 rS
  have l20 := rl_lerpV (a := C0) (b := D0) (t := ((1 : Rat) / 2)) (L := L) rc0 rd0 rS
  have m00 := rl_lerpV (a := (lerpV A0 B0 ((1 : Rat) / 2))) (b := (lerpV B0 C0 ((1 : Rat) / 2))) (t := ((1 : Rat) / 2)) (L := 4 * L + 2) l00 l10 (by omega)
  have m10 := rl_lerpV (a := (lerpV B0 C0 ((1 : Rat) / 2))) (b := (lerpV C0 D0 ((1 : Rat) / 2))) (t := ((1 : Rat) / 2)) (L := 4 * L + 2) l10 l20 (by omega)
  have n0 := rl_lerpV (a := (lerpV (lerpV A0 B0 ((1 : Rat) / 2)) (lerpV B0 C0 ((1 : Rat) / 2)) ((1 : Rat) / 2))) (b := (lerpV (lerpV B0 C0 ((1 : Rat) / 2)) (lerpV C0 D0 ((1 : Rat) / 2)) ((1 : Rat) / 2))) (t := ((1 : Rat) / 2)) (L := 4 * (4 * L + 2) + 2) m00 m10 (by omega)
  have l01 := rl_lerpV (a := A1) (b := B1) (t := ((1 : Rat) / 2)) (L := L) ra1 rb1 rS
  have l11 := rl_lerpV (a := B1) (b := C1) (t := ((1 : Rat) / 2)) (L := L) rb1 rc1 rS
  have l21 := rl_lerpV (a := C1) (b := D1) (t := ((1 : Rat) / 2)) (L := L) rc1 rd1 rS
  have m01 := rl_lerpV (a := (lerpV A1 B1 ((1 : Rat) / 2))) (b := (lerpV B1 C1 ((1 : Rat) / 2))) (t := ((1 : Rat) / 2)) (L := 4 * L + 2) l01 l11 (by omega)
  have m11 := rl_lerpV (a := (lerpV B1 C1 ((1 : Rat) / 2))) (b := (lerpV C1 D1 ((1 : Rat) / 2))) (t := ((1 : Rat) / 2)) (L := 4 * L + 2) l11 l21 (by omega)
  have n1 := rl_lerpV (a := (lerpV (lerpV A1 B1 ((1 : Rat) / 2)) (lerpV B1 C1 ((1 : Rat) / 2)) ((1 : Rat) / 2))) (b := (lerpV (lerpV B1 C1 ((1 : Rat) / 2)) (lerpV C1 D1 ((1 : Rat) / 2)) ((1 : Rat) / 2))) (t := ((1 : Rat) / 2)) (L := 4 * (4 * L + 2) + 2) m01 m11 (by omega)
  have FP := Lib.hid hP
  clear hP
  go_enter Try.func25, Try.ntmps25
  go_upto_region 1 with fail
  have hbx0 : Blk (((w.alloc (.cells cp 43)).alloc (.cells #[.bool false, .slice none 0 0, .bool false, .slice none 0 0, .bool false, .slice none 0 0, .bool false, .slice none 0 0] 42)).alloc (.cells #[.bool false, .slice none 0 0, .bool false, .slice none 0 0, .bool false, .slice none 0 0, .bool false, .slice none 0 0] 42)) (w.heap.size) 43 cp := Blk.ext (Blk.new_at w _ (by simp) _ _) (((Ext.refl _).alloc _).alloc _)
  have hR0 : Blk (((w.alloc (.cells cp 43)).alloc (.cells #[.bool false, .slice none 0 0, .bool false, .slice none 0 0, .bool false, .slice none 0 0, .bool false, .slice none 0 0] 42)).alloc (.cells #[.bool false, .slice none 0 0, .bool false, .slice none 0 0, .bool false, .slice none 0 0, .bool false, .slice none 0 0] 42)) (w.heap.size + 1) 42 #[.bool false, .slice none 0 0, .bool false, .slice none 0 0, .bool false, .slice none 0 0, .bool false, .slice none 0 0] := Blk.ext (Blk.new_at (w.alloc (.cells cp 43)) _ (by simp) _ _) ((Ext.refl _).alloc _)
  have hR1 : Blk (((w.alloc (.cells cp 43)).alloc (.cells #[.bool false, .slice none 0 0, .bool false, .slice none 0 0, .bool false, .slice none 0 0, .bool false, .slice none 0 0] 42)).alloc (.cells #[.bool false, .slice none 0 0, .bool false, .slice none 0 0, .bool false, .slice none 0 0, .bool false, .slice none 0 0] 42)) (w.heap.size + 1 + 1) 42 #[.bool false, .slice none 0 0, .bool false, .slice none 0 0, .bool false, .slice none 0 0, .bool false, .slice none 0 0] := Blk.ext (Blk.new_at ((w.alloc (.cells cp 43)).alloc (.cells #[.bool false, .slice none 0 0, .bool false, .slice none 0 0, .bool false, .slice none 0 0, .bool false, .slice none 0 0] 42)) _ (by simp) _ _) (Ext.refl _)
  have hE : Ext w (((w.alloc (.cells cp 43)).alloc (.cells #[.bool false, .slice none 0 0, .bool false, .slice none 0 0, .bool false, .slice none 0 0, .bool false, .slice none 0 0] 42)).alloc (.cells #[.bool false, .slice none 0 0, .bool false, .slice none 0 0, .bool false, .slice none 0 0, .bool false, .slice none 0 0] 42)) := ((((Ext.refl _).alloc _).alloc _).alloc _)
  have gR0 : w.heap.size ≤ w.heap.size + 1 := by omega
  have nbx0_R0 : w.heap.size ≠ w.heap.size + 1 := by omega
  have nR1_R0 : w.heap.size + 1 + 1 ≠ w.heap.size + 1 := by omega
  have gR1 : w.heap.size ≤ w.heap.size + 1 + 1 := by omega
  have nbx0_R1 : w.heap.size ≠ w.heap.size + 1 + 1 := by omega
  have nR0_R1 : w.heap.size + 1 ≠ w.heap.size + 1 + 1 := by omega
  generalize (((w.alloc (.cells cp 43)).alloc (.cells #[.bool false, .slice none 0 0, .bool false, .slice none 0 0, .bool false, .slice none 0 0, .bool false, .slice none 0 0] 42)).alloc (.cells #[.bool false, .slice none 0 0, .bool false, .slice none 0 0, .bool false, .slice none 0 0, .bool false, .slice none 0 0] 42)) = wa at *
  generalize w.heap.size + 1 + 1 = R1 at *
  generalize w.heap.size + 1 = R0 at *
  have E1 := Lib.hid (show Ext w wa from hE)
  have Fbx0 := Lib.hid hbx0
  have FR0 := Lib.hid hR0
  have FR1 := Lib.hid hR1
  clear hE hbx0 hR0 hR1
  refine wp_region_lit ?_
  refine mv_call (by rfl) (by go_simp) (xHalf _) ?_
  rintro e w2 ⟨ct, rfl, hc, hx⟩
  have E2 := Lib.hid (show Ext wa w2 from hx)
  have FT := Lib.hid hc
  have ZT := hc.size
  have OT := hc.one
  clear hc
  clear hx
  refine ⟨_, rfl, ?_⟩
  (try simp only [Act.put, sIT, sC0, sCS])
  refine mv_val (v := ?vm1) (w' := w2) (by rfl) ?hm1 ?rm1
  case hm1 => (go_simp <;> with_reducible rfl)
  (try simp only [Act.put, sIT, sC0, sCS])
  refine mv_val (v := ?vm2) (w' := w2) (by rfl) ?hm2 ?rm2
  case hm2 => (go_simp <;> with_reducible rfl)
  (try simp only [Act.put, sIT, sC0, sCS])
  refine mv_val (v := ?vm3) (w' := w2) (by rfl) ?hm3 ?rm3
  case hm3 => (go_simp <;> with_reducible rfl)
  (try simp only [Act.put, sIT, sC0, sCS])
  refine mv_val (v := .pointer (some ⟨w2.heap.size, 0, none⟩)) (w' := w2.alloc (.cells #[.bool false, .slice none 0 0, .bool false, .slice none 0 0] 41)) (by rfl) (by go_simp) ?_
  (try simp only [Act.put, sIT, sC0, sCS])
  refine mv_store (by rfl) _ _ _ (by rfl) w2.heap.size 41 #[.bool false, .slice none 0 0, .bool false, .slice none 0 0] ct (by rfl) (by rfl) (Blk.new w2 _ _) (by rw [show (ct : Array Value).size = 4 from ZT]; rfl) (by rw [show (ct : Array Value).size = 4 from ZT]; kernel_rfl) OT ?_
  (try simp only [Act.put])
  have nV4_R0 : w2.heap.size ≠ R0 := Nat.ne_of_gt (Blk.lt (FR0.out.ext E2.out))
  have nV4_R1 : w2.heap.size ≠ R1 := Nat.ne_of_gt (Blk.lt (FR1.out.ext E2.out))
  obtain ⟨xq1, xq2⟩ := new_var w2 41 #[.bool false, .slice none 0 0, .bool false, .slice none 0 0] ct (by rw [show (ct : Array Value).size = 4 from ZT]; rfl)
  generalize (w2.alloc (.cells #[.bool false, .slice none 0 0, .bool false, .slice none 0 0] 41)).setCells w2.heap.size 0 (ct : Array Value).toList = w3 at *
  generalize w2.heap.size = X3 at *
  have E3 := Lib.hid (show Ext w2 w3 from xq1)
  have FV4 := Lib.hid xq2
  clear xq1 xq2
  refine mv_val (v := ?vm4) (w' := w3) (by rfl) ?hm4 ?rm4
  case hm4 => (go_simp <;> with_reducible rfl)
  (try simp only [Act.put, sIT, sC0, sCS])
  go_upto_region 2 with fail
  refine wp_region_lit ?_
  refine mv_load (by rfl) _ _ (by rfl) w.heap.size _ cp _ (by rfl) (Fbx0.out.ext (E2.out.trans E3.out)) Try.underlying43 (by rfl) (by rw [show (cp : Array Value).size = 32 from ZP]; kernel_rfl) ?_
  (try simp only [Act.put, sIT, sC0, sCS])
  refine mv_load (by rfl) _ _ (by rfl) X3 _ ct _ (by rfl) FV4.out Try.underlying41 (by rfl) (by rw [show (ct : Array Value).size = 4 from ZT]; kernel_rfl) ?_
  (try simp only [Act.put, sIT, sC0, sCS])
  refine mv_call (by rfl) (by go_simp) (iSplitCubic (L := L) (FP.out.ext (E1.out.trans (E2.out.trans E3.out))) ((FT.out.ext E3.out).isIn rS) h1 (by omega)) ?_
  rintro e w4 ⟨ca, cb, rfl, hca, hcb, hx⟩
  have E4 := Lib.hid (show Ext w3 w4 from hx)
  have Fca := Lib.hid hca
  have Fcb := Lib.hid hcb
  have Zca := hca.size
  have Oca := hca.one
  have Zcb := hcb.size
  have Ocb := hcb.one
  clear hca hcb
  clear hx
  refine ⟨_, rfl, ?_⟩
  (try simp only [Act.put, sIT, sC0, sCS])
  refine mv_val (v := ?vm5) (w' := w4) (by rfl) ?hm5 ?rm5
  case hm5 => (go_simp <;> with_reducible rfl)
  (try simp only [Act.put, sIT, sC0, sCS])
  refine mv_val (v := ?vm6) (w' := w4) (by rfl) ?hm6 ?rm6
  case hm6 => (go_simp <;> with_reducible rfl)
  (try simp only [Act.put, sIT, sC0, sCS])
  refine mv_val (v := ?vm7) (w' := w4) (by rfl) ?hm7 ?rm7
  case hm7 => (go_simp <;> with_reducible rfl)
  (try simp only [Act.put, sIT, sC0, sCS])
  obtain ⟨xq1, xq2, xq3, xq4, xq5⟩ := new_var2 w4 43 #[.bool false, .slice none 0 0, .bool false, .slice none 0 0, .bool false, .slice none 0 0, .bool false, .slice none 0 0, .bool false, .slice none 0 0, .bool false, .slice none 0 0, .bool false, .slice none 0 0, .bool false, .slice none 0 0, .bool false, .slice none 0 0, .bool false, .slice none 0 0, .bool false, .slice none 0 0, .bool false, .slice none 0 0, .bool false, .slice none 0 0, .bool false, .slice none 0 0, .bool false, .slice none 0 0, .bool false, .slice none 0 0] ca cb (by rw [Zca]; rfl) (by rw [Zcb]; rfl)
  refine mv_val (v := .pointer (some ⟨w4.heap.size, 0, none⟩)) (w' := w4.alloc (.cells #[.bool false, .slice none 0 0, .bool false, .slice none 0 0, .bool false, .slice none 0 0, .bool false, .slice none 0 0, .bool false, .slice none 0 0, .bool false, .slice none 0 0, .bool false, .slice none 0 0, .bool false, .slice none 0 0, .bool false, .slice none 0 0, .bool false, .slice none 0 0, .bool false, .slice none 0 0, .bool false, .slice none 0 0, .bool false, .slice none 0 0, .bool false, .slice none 0 0, .bool false, .slice none 0 0, .bool false, .slice none 0 0] 43)) (by rfl) (by go_simp) ?_
  (try simp only [Act.put, sIT, sC0, sCS])
  refine mv_val (v := .pointer (some ⟨(w4.alloc (.cells #[.bool false, .slice none 0 0, .bool false, .slice none 0 0, .bool false, .slice none 0 0, .bool false, .slice none 0 0, .bool false, .slice none 0 0, .bool false, .slice none 0 0, .bool false, .slice none 0 0, .bool false, .slice none 0 0, .bool false, .slice none 0 0, .bool false, .slice none 0 0, .bool false, .slice none 0 0, .bool false, .slice none 0 0, .bool false, .slice none 0 0, .bool false, .slice none 0 0, .bool false, .slice none 0 0, .bool false, .slice none 0 0] 43)).heap.size, 0, none⟩)) (w' := (w4.alloc (.cells #[.bool false, .slice none 0 0, .bool false, .slice none 0 0, .bool false, .slice none 0 0, .bool false, .slice none 0 0, .bool false, .slice none 0 0, .bool false, .slice none 0 0, .bool false, .slice none 0 0, .bool false, .slice none 0 0, .bool false, .slice none 0 0, .bool false, .slice none 0 0, .bool false, .slice none 0 0, .bool false, .slice none 0 0, .bool false, .slice none 0 0, .bool false, .slice none 0 0, .bool false, .slice none 0 0, .bool false, .slice none 0 0] 43)).alloc (.cells #[.bool false, .slice none 0 0, .bool false, .slice none 0 0, .bool false, .slice none 0 0, .bool false, .slice none 0 0, .bool false, .slice none 0 0, .bool false, .slice none 0 0, .bool false, .slice none 0 0, .bool false, .slice none 0 0, .bool false, .slice none 0 0, .bool false, .slice none 0 0, .bool false, .slice none 0 0, .bool false, .slice none 0 0, .bool false, .slice none 0 0, .bool false, .slice none 0 0, .bool false, .slice none 0 0, .bool false, .slice none 0 0] 43)) (by rfl) (by go_simp) ?_
  (try simp only [Act.put, sIT, sC0, sCS])
  refine mv_store (by rfl) _ _ _ (by rfl) w4.heap.size 43 #[.bool false, .slice none 0 0, .bool false, .slice none 0 0, .bool false, .slice none 0 0, .bool false, .slice none 0 0, .bool false, .slice none 0 0, .bool false, .slice none 0 0, .bool false, .slice none 0 0, .bool false, .slice none 0 0, .bool false, .slice none 0 0, .bool false, .slice none 0 0, .bool false, .slice none 0 0, .bool false, .slice none 0 0, .bool false, .slice none 0 0, .bool false, .slice none 0 0, .bool false, .slice none 0 0, .bool false, .slice none 0 0] ca (by rfl) (by rfl) xq1 (by rw [Zca]; rfl) (by rw [Zca]; kernel_rfl) Oca ?_
  (try simp only [Act.put])
  refine mv_store (by rfl) _ _ _ (by rfl) (w4.alloc (.cells #[.bool false, .slice none 0 0, .bool false, .slice none 0 0, .bool false, .slice none 0 0, .bool false, .slice none 0 0, .bool false, .slice none 0 0, .bool false, .slice none 0 0, .bool false, .slice none 0 0, .bool false, .slice none 0 0, .bool false, .slice none 0 0, .bool false, .slice none 0 0, .bool false, .slice none 0 0, .bool false, .slice none 0 0, .bool false, .slice none 0 0, .bool false, .slice none 0 0, .bool false, .slice none 0 0, .bool false, .slice none 0 0] 43)).heap.size 43 #[.bool false, .slice none 0 0, .bool false, .slice none 0 0, .bool false, .slice none 0 0, .bool false, .slice none 0 0, .bool false, .slice none 0 0, .bool false, .slice none 0 0, .bool false, .slice none 0 0, .bool false, .slice none 0 0, .bool false, .slice none 0 0, .bool false, .slice none 0 0, .bool false, .slice none 0 0, .bool false, .slice none 0 0, .bool false, .slice none 0 0, .bool false, .slice none 0 0, .bool false, .slice none 0 0, .bool false, .slice none 0 0] cb (by rfl) (by rfl) xq2 (by rw [Zcb]; rfl) (by rw [Zcb]; kernel_rfl) Ocb ?_
  (try simp only [Act.put])
  clear xq1 xq2
  generalize (((w4.alloc (.cells #[.bool false, .slice none 0 0, .bool false, .slice none 0 0, .bool false, .slice none 0 0, .bool false, .slice none 0 0, .bool false, .slice none 0 0, .bool false, .slice none 0 0, .bool false, .slice none 0 0, .bool false, .slice none 0 0, .bool false, .slice none 0 0, .bool false, .slice none 0 0, .bool false, .slice none 0 0, .bool false, .slice none 0 0, .bool false, .slice none 0 0, .bool false, .slice none 0 0, .bool false, .slice none 0 0, .bool false, .slice none 0 0] 43)).alloc (.cells #[.bool false, .slice none 0 0, .bool false, .slice none 0 0, .bool false, .slice none 0 0, .bool false, .slice none 0 0, .bool false, .slice none 0 0, .bool false, .slice none 0 0, .bool false, .slice none 0 0, .bool false, .slice none 0 0, .bool false, .slice none 0 0, .bool false, .slice none 0 0, .bool false, .slice none 0 0, .bool false, .slice none 0 0, .bool false, .slice none 0 0, .bool false, .slice none 0 0, .bool false, .slice none 0 0, .bool false, .slice none 0 0] 43)).setCells w4.heap.size 0 ca.toList).setCells (w4.alloc (.cells #[.bool false, .slice none 0 0, .bool false, .slice none 0 0, .bool false, .slice none 0 0, .bool false, .slice none 0 0, .bool false, .slice none 0 0, .bool false, .slice none 0 0, .bool false, .slice none 0 0, .bool false, .slice none 0 0, .bool false, .slice none 0 0, .bool false, .slice none 0 0, .bool false, .slice none 0 0, .bool false, .slice none 0 0, .bool false, .slice none 0 0, .bool false, .slice none 0 0, .bool false, .slice none 0 0, .bool false, .slice none 0 0] 43)).heap.size 0 cb.toList = w5 at *
  generalize (w4.alloc (.cells #[.bool false, .slice none 0 0, .bool false, .slice none 0 0, .bool false, .slice none 0 0, .bool false, .slice none 0 0, .bool false, .slice none 0 0, .bool false, .slice none 0 0, .bool false, .slice none 0 0, .bool false, .slice none 0 0, .bool false, .slice none 0 0, .bool false, .slice none 0 0, .bool false, .slice none 0 0, .bool false, .slice none 0 0, .bool false, .slice none 0 0, .bool false, .slice none 0 0, .bool false, .slice none 0 0, .bool false, .slice none 0 0] 43)).heap.size = Y5 at *
  generalize w4.heap.size = X5 at *
  have E5 := Lib.hid (show Ext w4 w5 from xq3)
  have FV6 := Lib.hid xq4
  have FV7 := Lib.hid xq5
  clear xq3 xq4 xq5
  go_upto_region 3 with fail
  refine wp_region_lit ?_
  refine mv_val (v := .pointer (some ⟨w5.heap.size, 0, none⟩)) (w' := (w5.alloc (.cells ([.bool false, .slice none 0 0, .bool false, .slice none 0 0, .bool false, .slice none 0 0, .bool false, .slice none 0 0, .bool false, .slice none 0 0, .bool false, .slice none 0 0, .bool false, .slice none 0 0, .bool false, .slice none 0 0, .bool false] : List Value).toArray 92))) (by rfl) (by go_simp) ?_
  (try simp only [Act.put, sIT, sC0, sCS])
  have hbX : Blk (w5.alloc (.cells ([.bool false, .slice none 0 0, .bool false, .slice none 0 0, .bool false, .slice none 0 0, .bool false, .slice none 0 0, .bool false, .slice none 0 0, .bool false, .slice none 0 0, .bool false, .slice none 0 0, .bool false, .slice none 0 0, .bool false] : List Value).toArray 92)) w5.heap.size 92 ([.bool false, .slice none 0 0, .bool false, .slice none 0 0, .bool false, .slice none 0 0, .bool false, .slice none 0 0, .bool false, .slice none 0 0, .bool false, .slice none 0 0, .bool false, .slice none 0 0, .bool false, .slice none 0 0, .bool false] : List Value).toArray := Blk.new _ _ _
  have hxx : Ext w5 (w5.alloc (.cells ([.bool false, .slice none 0 0, .bool false, .slice none 0 0, .bool false, .slice none 0 0, .bool false, .slice none 0 0, .bool false, .slice none 0 0, .bool false, .slice none 0 0, .bool false, .slice none 0 0, .bool false, .slice none 0 0, .bool false] : List Value).toArray 92)) := (Ext.refl _).alloc _
  have gX : w.heap.size ≤ w5.heap.size := ((E1.out.trans (E2.out.trans (E3.out.trans (E4.out.trans E5.out))))).size
  have nV6_X : X5 ≠ w5.heap.size := Nat.ne_of_lt (Blk.lt FV6.out)
  have nV7_X : Y5 ≠ w5.heap.size := Nat.ne_of_lt (Blk.lt FV7.out)
  have nR0_X : R0 ≠ w5.heap.size := Nat.ne_of_lt (Blk.lt (FR0.out.ext (E2.out.trans (E3.out.trans (E4.out.trans E5.out)))))
  have nR1_X : R1 ≠ w5.heap.size := Nat.ne_of_lt (Blk.lt (FR1.out.ext (E2.out.trans (E3.out.trans (E4.out.trans E5.out)))))
  generalize (w5.alloc (.cells ([.bool false, .slice none 0 0, .bool false, .slice none 0 0, .bool false, .slice none 0 0, .bool false, .slice none 0 0, .bool false, .slice none 0 0, .bool false, .slice none 0 0, .bool false, .slice none 0 0, .bool false, .slice none 0 0, .bool false] : List Value).toArray 92)) = wX at *
  generalize w5.heap.size = X at *
  have E6 := Lib.hid (show Ext w5 wX from hxx)
  have FbX := Lib.hid hbX
  clear hxx hbX
  have TT := Lib.hid (show Own X wX wX from Own.refl _ _)
  have HEX := Lib.hid (E1.out.trans (E2.out.trans (E3.out.trans (E4.out.trans (E5.out.trans E6.out)))))
  have GV6 := Lib.hid (FV6.out.ext E6.out)
  have GV7 := Lib.hid (FV7.out.ext E6.out)
  have GR0 := Lib.hid (FR0.out.ext (E2.out.trans (E3.out.trans (E4.out.trans (E5.out.trans E6.out)))))
  have GR1 := Lib.hid (FR1.out.ext (E2.out.trans (E3.out.trans (E4.out.trans (E5.out.trans E6.out)))))
  have Gca := Lib.hid (Fca.out.ext (E5.out.trans E6.out))
  have Gcb := Lib.hid (Fcb.out.ext (E5.out.trans E6.out))
  have GbX := Lib.hid FbX.out
  go_wp2_with fail
  refine wp_loop_rounds 5 ?_
  rw [rounds_succ]
  go_upto_region 7 with fail
  refine wp_region_lit ?_
  refine mv_val (v := ?vm8) (w' := wX) (by rfl) ?hm8 ?rm8
  case hm8 => (go_simp <;> with_reducible rfl)
  (try simp only [Act.put, sIT, sC0, sCS])
  refine mv_val (v := ?vm9) (w' := wX) (by rfl) ?hm9 ?rm9
  case hm9 => (go_simp <;> with_reducible rfl)
  (try simp only [Act.put, sIT, sC0, sCS])
  refine mv_part (by rfl) _ _ (by rfl) X5 0 8 _ ca _ (by rfl) GV6.out Try.underlying42 (by rfl) (by kernel_rfl) (by rw [Zca]; omega) ?_
  (try simp only [Act.put, sIT, sC0, sCS])
  refine mv_call (by rfl) (by go_simp) (oPutFirst (L := 64 * L + 42) GbX.out Gca.out.p0 (by omega) (by omega) (by omega) (by omega)) ?_
  rintro e wp1 ⟨rfl, hb, ht⟩
  refine ⟨_, rfl, ?_⟩
  (try simp only [Act.put, sIT, sC0, sCS])
  have rb1 : Nm.rl A0 ≤ 64 * L + 42 := by omega
  have rb2 : Nm.rl A1 ≤ 64 * L + 42 := by omega
  have rb3 : Nm.rl A0 ≤ 64 * L + 42 := by omega
  have rb4 : Nm.rl A1 ≤ 64 * L + 42 := by omega
  have TT' := Lib.hid (TT.out.trans ht.1)
  have KV6 := Lib.hid (ht.blk GV6.out nV6_X)
  have KV7 := Lib.hid (ht.blk GV7.out nV7_X)
  have KR0 := Lib.hid (ht.blk GR0.out nR0_X)
  have KR1 := Lib.hid (ht.blk GR1.out nR1_X)
  have Kca := Lib.hid (Gca.out.map ht.2)
  have Kcb := Lib.hid (Gcb.out.map ht.2)
  have KbX := Lib.hid hb
  clear hb ht TT GV6 GV7 GR0 GR1 Gca Gcb GbX
  have GV6 := KV6
  have GV7 := KV7
  have GR0 := KR0
  have GR1 := KR1
  have Gca := Kca
  have Gcb := Kcb
  have GbX := KbX
  have TT := TT'
  clear TT' KV6 KV7 KR0 KR1 Kca Kcb KbX
  go_upto_region 8 with fail
  refine wp_region_lit ?_
  refine mv_val (v := ?vm10) (w' := wp1) (by rfl) ?hm10 ?rm10
  case hm10 => (go_simp <;> with_reducible rfl)
  (try simp only [Act.put, sIT, sC0, sCS])
  refine mv_val (v := ?vm11) (w' := wp1) (by rfl) ?hm11 ?rm11
  case hm11 => (go_simp <;> with_reducible rfl)
  (try simp only [Act.put, sIT, sC0, sCS])
  refine mv_part (by rfl) _ _ (by rfl) Y5 0 8 _ cb _ (by rfl) GV7.out Try.underlying42 (by rfl) (by kernel_rfl) (by rw [Zcb]; omega) ?_
  (try simp only [Act.put, sIT, sC0, sCS])
  refine mv_call (by rfl) (by go_simp) (oPutMore (L := 64 * L + 42) GbX.out Gcb.out.p0 (by omega) (by omega) rb1 rb2 rb3 rb4 (by omega) (by omega)) ?_
  rintro e wp2 ⟨rfl, hb, ht⟩
  refine ⟨_, rfl, ?_⟩
  (try simp only [Act.put, sIT, sC0, sCS])
  have rc1 := rl_lower (q := (lerpV (lerpV (lerpV A0 B0 ((1 : Rat) / 2)) (lerpV B0 C0 ((1 : Rat) / 2)) ((1 : Rat) / 2)) (lerpV (lerpV B0 C0 ((1 : Rat) / 2)) (lerpV C0 D0 ((1 : Rat) / 2)) ((1 : Rat) / 2)) ((1 : Rat) / 2))) (L := 64 * L + 42) (by omega) rb1
  have rc2 := rl_lower (q := (lerpV (lerpV (lerpV A1 B1 ((1 : Rat) / 2)) (lerpV B1 C1 ((1 : Rat) / 2)) ((1 : Rat) / 2)) (lerpV (lerpV B1 C1 ((1 : Rat) / 2)) (lerpV C1 D1 ((1 : Rat) / 2)) ((1 : Rat) / 2)) ((1 : Rat) / 2))) (L := 64 * L + 42) (by omega) rb2
  have rc3 := rl_upper (q := (lerpV (lerpV (lerpV A0 B0 ((1 : Rat) / 2)) (lerpV B0 C0 ((1 : Rat) / 2)) ((1 : Rat) / 2)) (lerpV (lerpV B0 C0 ((1 : Rat) / 2)) (lerpV C0 D0 ((1 : Rat) / 2)) ((1 : Rat) / 2)) ((1 : Rat) / 2))) (L := 64 * L + 42) (by omega) rb3
  have rc4 := rl_upper (q := (lerpV (lerpV (lerpV A1 B1 ((1 : Rat) / 2)) (lerpV B1 C1 ((1 : Rat) / 2)) ((1 : Rat) / 2)) (lerpV (lerpV B1 C1 ((1 : Rat) / 2)) (lerpV C1 D1 ((1 : Rat) / 2)) ((1 : Rat) / 2)) ((1 : Rat) / 2))) (L := 64 * L + 42) (by omega) rb4
  clear rb1 rb2 rb3 rb4
  have rb1 := rc1
  have rb2 := rc2
  have rb3 := rc3
  have rb4 := rc4
  clear rc1 rc2 rc3 rc4
  have TT' := Lib.hid (TT.out.trans ht.1)
  have KV6 := Lib.hid (ht.blk GV6.out nV6_X)
  have KV7 := Lib.hid (ht.blk GV7.out nV7_X)
  have KR0 := Lib.hid (ht.blk GR0.out nR0_X)
  have KR1 := Lib.hid (ht.blk GR1.out nR1_X)
  have Kca := Lib.hid (Gca.out.map ht.2)
  have Kcb := Lib.hid (Gcb.out.map ht.2)
  have KbX := Lib.hid hb
  clear hb ht TT GV6 GV7 GR0 GR1 Gca Gcb GbX
  have GV6 := KV6
  have GV7 := KV7
  have GR0 := KR0
  have GR1 := KR1
  have Gca := Kca
  have Gcb := Kcb
  have GbX := KbX
  have TT := TT'
  clear TT' KV6 KV7 KR0 KR1 Kca Kcb KbX
  go_wp2_with fail
  rw [rounds_succ]
  go_upto_region 7 with fail
  refine wp_region_lit ?_
  refine mv_val (v := ?vm12) (w' := wp2) (by rfl) ?hm12 ?rm12
  case hm12 => (go_simp <;> with_reducible rfl)
  (try simp only [Act.put, sIT, sC0, sCS])
  refine mv_val (v := ?vm13) (w' := wp2) (by rfl) ?hm13 ?rm13
  case hm13 => (go_simp <;> with_reducible rfl)
  (try simp only [Act.put, sIT, sC0, sCS])
  refine mv_part (by rfl) _ _ (by rfl) X5 8 8 _ ca _ (by rfl) GV6.out Try.underlying42 (by rfl) (by kernel_rfl) (by rw [Zca]; omega) ?_
  (try simp only [Act.put, sIT, sC0, sCS])
  refine mv_call (by rfl) (by go_simp) (oPutMore (L := 64 * L + 42) GbX.out Gca.out.p1 (by omega) (by omega) rb1 rb2 rb3 rb4 (by omega) (by omega)) ?_
  rintro e wp3 ⟨rfl, hb, ht⟩
  refine ⟨_, rfl, ?_⟩
  (try simp only [Act.put, sIT, sC0, sCS])
  have rc1 := rl_lower (q := (lerpV A0 B0 ((1 : Rat) / 2))) (L := 64 * L + 42) (by omega) rb1
  have rc2 := rl_lower (q := (lerpV A1 B1 ((1 : Rat) / 2))) (L := 64 * L + 42) (by omega) rb2
  have rc3 := rl_upper (q := (lerpV A0 B0 ((1 : Rat) / 2))) (L := 64 * L + 42) (by omega) rb3
  have rc4 := rl_upper (q := (lerpV A1 B1 ((1 : Rat) / 2))) (L := 64 * L + 42) (by omega) rb4
  clear rb1 rb2 rb3 rb4
  have rb1 := rc1
  have rb2 := rc2
  have rb3 := rc3
  have rb4 := rc4
  clear rc1 rc2 rc3 rc4
  have TT' := Lib.hid (TT.out.trans ht.1)
  have KV6 := Lib.hid (ht.blk GV6.out nV6_X)
  have KV7 := Lib.hid (ht.blk GV7.out nV7_X)
  have KR0 := Lib.hid (ht.blk GR0.out nR0_X)
  have KR1 := Lib.hid (ht.blk GR1.out nR1_X)
  have Kca := Lib.hid (Gca.out.map ht.2)
  have Kcb := Lib.hid (Gcb.out.map ht.2)
  have KbX := Lib.hid hb
  clear hb ht TT GV6 GV7 GR0 GR1 Gca Gcb GbX
  have GV6 := KV6
  have GV7 := KV7
  have GR0 := KR0
  have GR1 := KR1
  have Gca := Kca
  have Gcb := Kcb
  have GbX := KbX
  have TT := TT'
  clear TT' KV6 KV7 KR0 KR1 Kca Kcb KbX
  go_upto_region 8 with fail
  refine wp_region_lit ?_
  refine mv_val (v := ?vm14) (w' := wp3) (by rfl) ?hm14 ?rm14
  case hm14 => (go_simp <;> with_reducible rfl)
  (try simp only [Act.put, sIT, sC0, sCS])
  refine mv_val (v := ?vm15) (w' := wp3) (by rfl) ?hm15 ?rm15
  case hm15 => (go_simp <;> with_reducible rfl)
  (try simp only [Act.put, sIT, sC0, sCS])
  refine mv_part (by rfl) _ _ (by rfl) Y5 8 8 _ cb _ (by rfl) GV7.out Try.underlying42 (by rfl) (by kernel_rfl) (by rw [Zcb]; omega) ?_
  (try simp only [Act.put, sIT, sC0, sCS])
  refine mv_call (by rfl) (by go_simp) (oPutMore (L := 64 * L + 42) GbX.out Gcb.out.p1 (by omega) (by omega) rb1 rb2 rb3 rb4 (by omega) (by omega)) ?_
  rintro e wp4 ⟨rfl, hb, ht⟩
  refine ⟨_, rfl, ?_⟩
  (try simp only [Act.put, sIT, sC0, sCS])
  have rc1 := rl_lower (q := (lerpV (lerpV B0 C0 ((1 : Rat) / 2)) (lerpV C0 D0 ((1 : Rat) / 2)) ((1 : Rat) / 2))) (L := 64 * L + 42) (by omega) rb1
  have rc2 := rl_lower (q := (lerpV (lerpV B1 C1 ((1 : Rat) / 2)) (lerpV C1 D1 ((1 : Rat) / 2)) ((1 : Rat) / 2))) (L := 64 * L + 42) (by omega) rb2
  have rc3 := rl_upper (q := (lerpV (lerpV B0 C0 ((1 : Rat) / 2)) (lerpV C0 D0 ((1 : Rat) / 2)) ((1 : Rat) / 2))) (L := 64 * L + 42) (by omega) rb3
  have rc4 := rl_upper (q := (lerpV (lerpV B1 C1 ((1 : Rat) / 2)) (lerpV C1 D1 ((1 : Rat) / 2)) ((1 : Rat) / 2))) (L := 64 * L + 42) (by omega) rb4
  clear rb1 rb2 rb3 rb4
  have rb1 := rc1
  have rb2 := rc2
  have rb3 := rc3
  have rb4 := rc4
  clear rc1 rc2 rc3 rc4
  have TT' := Lib.hid (TT.out.trans ht.1)
  have KV6 := Lib.hid (ht.blk GV6.out nV6_X)
  have KV7 := Lib.hid (ht.blk GV7.out nV7_X)
  have KR0 := Lib.hid (ht.blk GR0.out nR0_X)
  have KR1 := Lib.hid (ht.blk GR1.out nR1_X)
  have Kca := Lib.hid (Gca.out.map ht.2)
  have Kcb := Lib.hid (Gcb.out.map ht.2)
  have KbX := Lib.hid hb
  clear hb ht TT GV6 GV7 GR0 GR1 Gca Gcb GbX
  have GV6 := KV6
  have GV7 := KV7
  have GR0 := KR0
  have GR1 := KR1
  have Gca := Kca
  have Gcb := Kcb
  have GbX := KbX
  have TT := TT'
  clear TT' KV6 KV7 KR0 KR1 Kca Kcb KbX
  go_wp2_with fail
  rw [rounds_succ]
  go_upto_region 7 with fail
  refine wp_region_lit ?_
  refine mv_val (v := ?vm16) (w' := wp4) (by rfl) ?hm16 ?rm16
  case hm16 => (go_simp <;> with_reducible rfl)
  (try simp only [Act.put, sIT, sC0, sCS])
  refine mv_val (v := ?vm17) (w' := wp4) (by rfl) ?hm17 ?rm17
  case hm17 => (go_simp <;> with_reducible rfl)
  (try simp only [Act.put, sIT, sC0, sCS])
  refine mv_part (by rfl) _ _ (by rfl) X5 16 8 _ ca _ (by rfl) GV6.out Try.underlying42 (by rfl) (by kernel_rfl) (by rw [Zca]; omega) ?_
  (try simp only [Act.put, sIT, sC0, sCS])
  refine mv_call (by rfl) (by go_simp) (oPutMore (L := 64 * L + 42) GbX.out Gca.out.p2 (by omega) (by omega) rb1 rb2 rb3 rb4 (by omega) (by omega)) ?_
  rintro e wp5 ⟨rfl, hb, ht⟩
  refine ⟨_, rfl, ?_⟩
  (try simp only [Act.put, sIT, sC0, sCS])
  have rc1 := rl_lower (q := (lerpV (lerpV A0 B0 ((1 : Rat) / 2)) (lerpV B0 C0 ((1 : Rat) / 2)) ((1 : Rat) / 2))) (L := 64 * L + 42) (by omega) rb1
  have rc2 := rl_lower (q := (lerpV (lerpV A1 B1 ((1 : Rat) / 2)) (lerpV B1 C1 ((1 : Rat) / 2)) ((1 : Rat) / 2))) (L := 64 * L + 42) (by omega) rb2
  have rc3 := rl_upper (q := (lerpV (lerpV A0 B0 ((1 : Rat) / 2)) (lerpV B0 C0 ((1 : Rat) / 2)) ((1 : Rat) / 2))) (L := 64 * L + 42) (by omega) rb3
  have rc4 := rl_upper (q := (lerpV (lerpV A1 B1 ((1 : Rat) / 2)) (lerpV B1 C1 ((1 : Rat) / 2)) ((1 : Rat) / 2))) (L := 64 * L + 42) (by omega) rb4
  clear rb1 rb2 rb3 rb4
  have rb1 := rc1
  have rb2 := rc2
  have rb3 := rc3
  have rb4 := rc4
  clear rc1 rc2 rc3 rc4
  have TT' := Lib.hid (TT.out.trans ht.1)
  have KV6 := Lib.hid (ht.blk GV6.out nV6_X)
  have KV7 := Lib.hid (ht.blk GV7.out nV7_X)
  have KR0 := Lib.hid (ht.blk GR0.out nR0_X)
  have KR1 := Lib.hid (ht.blk GR1.out nR1_X)
  have Kca := Lib.hid (Gca.out.map ht.2)
  have Kcb := Lib.hid (Gcb.out.map ht.2)
  have KbX := Lib.hid hb
  clear hb ht TT GV6 GV7 GR0 GR1 Gca Gcb GbX
  have GV6 := KV6
  have GV7 := KV7
  have GR0 := KR0
  have GR1 := KR1
  have Gca := Kca
  have Gcb := Kcb
  have GbX := KbX
  have TT := TT'
  clear TT' KV6 KV7 KR0 KR1 Kca Kcb KbX
  go_upto_region 8 with fail
  refine wp_region_lit ?_
  refine mv_val (v := ?vm18) (w' := wp5) (by rfl) ?hm18 ?rm18
  case hm18 => (go_simp <;> with_reducible rfl)
  (try simp only [Act.put, sIT, sC0, sCS])
  refine mv_val (v := ?vm19) (w' := wp5) (by rfl) ?hm19 ?rm19
  case hm19 => (go_simp <;> with_reducible rfl)
  (try simp only [Act.put, sIT, sC0, sCS])
  refine mv_part (by rfl) _ _ (by rfl) Y5 16 8 _ cb _ (by rfl) GV7.out Try.underlying42 (by rfl) (by kernel_rfl) (by rw [Zcb]; omega) ?_
  (try simp only [Act.put, sIT, sC0, sCS])
  refine mv_call (by rfl) (by go_simp) (oPutMore (L := 64 * L + 42) GbX.out Gcb.out.p2 (by omega) (by omega) rb1 rb2 rb3 rb4 (by omega) (by omega)) ?_
  rintro e wp6 ⟨rfl, hb, ht⟩
  refine ⟨_, rfl, ?_⟩
  (try simp only [Act.put, sIT, sC0, sCS])
  have rc1 := rl_lower (q := (lerpV C0 D0 ((1 : Rat) / 2))) (L := 64 * L + 42) (by omega) rb1
  have rc2 := rl_lower (q := (lerpV C1 D1 ((1 : Rat) / 2))) (L := 64 * L + 42) (by omega) rb2
  have rc3 := rl_upper (q := (lerpV C0 D0 ((1 : Rat) / 2))) (L := 64 * L + 42) (by omega) rb3
  have rc4 := rl_upper (q := (lerpV C1 D1 ((1 : Rat) / 2))) (L := 64 * L + 42) (by omega) rb4
  clear rb1 rb2 rb3 rb4
  have rb1 := rc1
  have rb2 := rc2
  have rb3 := rc3
  have rb4 := rc4
  clear rc1 rc2 rc3 rc4
  have TT' := Lib.hid (TT.out.trans ht.1)
  have KV6 := Lib.hid (ht.blk GV6.out nV6_X)
  have KV7 := Lib.hid (ht.blk GV7.out nV7_X)
  have KR0 := Lib.hid (ht.blk GR0.out nR0_X)
  have KR1 := Lib.hid (ht.blk GR1.out nR1_X)
  have Kca := Lib.hid (Gca.out.map ht.2)
  have Kcb := Lib.hid (Gcb.out.map ht.2)
  have KbX := Lib.hid hb
  clear hb ht TT GV6 GV7 GR0 GR1 Gca Gcb GbX
  have GV6 := KV6
  have GV7 := KV7
  have GR0 := KR0
  have GR1 := KR1
  have Gca := Kca
  have Gcb := Kcb
  have GbX := KbX
  have TT := TT'
  clear TT' KV6 KV7 KR0 KR1 Kca Kcb KbX
  go_wp2_with fail
  rw [rounds_succ]
  go_upto_region 7 with fail
  refine wp_region_lit ?_
  refine mv_val (v := ?vm20) (w' := wp6) (by rfl) ?hm20 ?rm20
  case hm20 => (go_simp <;> with_reducible rfl)
  (try simp only [Act.put, sIT, sC0, sCS])
  refine mv_val (v := ?vm21) (w' := wp6) (by rfl) ?hm21 ?rm21
  case hm21 => (go_simp <;> with_reducible rfl)
  (try simp only [Act.put, sIT, sC0, sCS])
  refine mv_part (by rfl) _ _ (by rfl) X5 24 8 _ ca _ (by rfl) GV6.out Try.underlying42 (by rfl) (by kernel_rfl) (by rw [Zca]; omega) ?_
  (try simp only [Act.put, sIT, sC0, sCS])
  refine mv_call (by rfl) (by go_simp) (oPutMore (L := 64 * L + 42) GbX.out Gca.out.p3 (by omega) (by omega) rb1 rb2 rb3 rb4 (by omega) (by omega)) ?_
  rintro e wp7 ⟨rfl, hb, ht⟩
  refine ⟨_, rfl, ?_⟩
  (try simp only [Act.put, sIT, sC0, sCS])
  have rc1 := rl_lower (q := (lerpV (lerpV (lerpV A0 B0 ((1 : Rat) / 2)) (lerpV B0 C0 ((1 : Rat) / 2)) ((1 : Rat) / 2)) (lerpV (lerpV B0 C0 ((1 : Rat) / 2)) (lerpV C0 D0 ((1 : Rat) / 2)) ((1 : Rat) / 2)) ((1 : Rat) / 2))) (L := 64 * L + 42) (by omega) rb1
  have rc2 := rl_lower (q := (lerpV (lerpV (lerpV A1 B1 ((1 : Rat) / 2)) (lerpV B1 C1 ((1 : Rat) / 2)) ((1 : Rat) / 2)) (lerpV (lerpV B1 C1 ((1 : Rat) / 2)) (lerpV C1 D1 ((1 : Rat) / 2)) ((1 : Rat) / 2)) ((1 : Rat) / 2))) (L := 64 * L + 42) (by omega) rb2
  have rc3 := rl_upper (q := (lerpV (lerpV (lerpV A0 B0 ((1 : Rat) / 2)) (lerpV B0 C0 ((1 : Rat) / 2)) ((1 : Rat) / 2)) (lerpV (lerpV B0 C0 ((1 : Rat) / 2)) (lerpV C0 D0 ((1 : Rat) / 2)) ((1 : Rat) / 2)) ((1 : Rat) / 2))) (L := 64 * L + 42) (by omega) rb3
  have rc4 := rl_upper (q := (lerpV (lerpV (lerpV A1 B1 ((1 : Rat) / 2)) (lerpV B1 C1 ((1 : Rat) / 2)) ((1 : Rat) / 2)) (lerpV (lerpV B1 C1 ((1 : Rat) / 2)) (lerpV C1 D1 ((1 : Rat) / 2)) ((1 : Rat) / 2)) ((1 : Rat) / 2))) (L := 64 * L + 42) (by omega) rb4
  clear rb1 rb2 rb3 rb4
  have rb1 := rc1
  have rb2 := rc2
  have rb3 := rc3
  have rb4 := rc4
  clear rc1 rc2 rc3 rc4
  have TT' := Lib.hid (TT.out.trans ht.1)
  have KV6 := Lib.hid (ht.blk GV6.out nV6_X)
  have KV7 := Lib.hid (ht.blk GV7.out nV7_X)
  have KR0 := Lib.hid (ht.blk GR0.out nR0_X)
  have KR1 := Lib.hid (ht.blk GR1.out nR1_X)
  have Kca := Lib.hid (Gca.out.map ht.2)
  have Kcb := Lib.hid (Gcb.out.map ht.2)
  have KbX := Lib.hid hb
  clear hb ht TT GV6 GV7 GR0 GR1 Gca Gcb GbX
  have GV6 := KV6
  have GV7 := KV7
  have GR0 := KR0
  have GR1 := KR1
  have Gca := Kca
  have Gcb := Kcb
  have GbX := KbX
  have TT := TT'
  clear TT' KV6 KV7 KR0 KR1 Kca Kcb KbX
  go_upto_region 8 with fail
  refine wp_region_lit ?_
  refine mv_val (v := ?vm22) (w' := wp7) (by rfl) ?hm22 ?rm22
  case hm22 => (go_simp <;> with_reducible rfl)
  (try simp only [Act.put, sIT, sC0, sCS])
  refine mv_val (v := ?vm23) (w' := wp7) (by rfl) ?hm23 ?rm23
  case hm23 => (go_simp <;> with_reducible rfl)
  (try simp only [Act.put, sIT, sC0, sCS])
  refine mv_part (by rfl) _ _ (by rfl) Y5 24 8 _ cb _ (by rfl) GV7.out Try.underlying42 (by rfl) (by kernel_rfl) (by rw [Zcb]; omega) ?_
  (try simp only [Act.put, sIT, sC0, sCS])
  refine mv_call (by rfl) (by go_simp) (oPutMore (L := 64 * L + 42) GbX.out Gcb.out.p3 (by omega) (by omega) rb1 rb2 rb3 rb4 (by omega) (by omega)) ?_
  rintro e wp8 ⟨rfl, hb, ht⟩
  refine ⟨_, rfl, ?_⟩
  (try simp only [Act.put, sIT, sC0, sCS])
  have rc1 := rl_lower (q := D0) (L := 64 * L + 42) (by omega) rb1
  have rc2 := rl_lower (q := D1) (L := 64 * L + 42) (by omega) rb2
  have rc3 := rl_upper (q := D0) (L := 64 * L + 42) (by omega) rb3
  have rc4 := rl_upper (q := D1) (L := 64 * L + 42) (by omega) rb4
  clear rb1 rb2 rb3 rb4
  have rb1 := rc1
  have rb2 := rc2
  have rb3 := rc3
  have rb4 := rc4
  clear rc1 rc2 rc3 rc4
  have TT' := Lib.hid (TT.out.trans ht.1)
  have KV6 := Lib.hid (ht.blk GV6.out nV6_X)
  have KV7 := Lib.hid (ht.blk GV7.out nV7_X)
  have KR0 := Lib.hid (ht.blk GR0.out nR0_X)
  have KR1 := Lib.hid (ht.blk GR1.out nR1_X)
  have Kca := Lib.hid (Gca.out.map ht.2)
  have Kcb := Lib.hid (Gcb.out.map ht.2)
  have KbX := Lib.hid hb
  clear hb ht TT GV6 GV7 GR0 GR1 Gca Gcb GbX
  have GV6 := KV6
  have GV7 := KV7
  have GR0 := KR0
  have GR1 := KR1
  have Gca := Kca
  have Gcb := Kcb
  have GbX := KbX
  have TT := TT'
  clear TT' KV6 KV7 KR0 KR1 Kca Kcb KbX
  go_wp2_with fail
  rw [rounds_succ]
  go_upto_region 10 with fail
  obtain ⟨za, zb, zc, zd, kX, ia, ib, ic, id_⟩ := GbX.out
  have hEE : Ext w wp8 := TT.out.ext HEX.out gX
  clear GbX rb1 rb2 rb3 rb4
  have E1 := Lib.hid (show Ext w wp8 from hEE)
  have FR0 := Lib.hid GR0.out
  have FR1 := Lib.hid GR1.out
  have FbX := Lib.hid kX
  have Fza := Lib.hid ia
  have Fzb := Lib.hid ib
  have Fzc := Lib.hid ic
  have Fzd := Lib.hid id_
  have nbX_R0 := nR0_X.symm
  have nbX_R1 := nR1_X.symm
  clear kX ia ib ic id_ hEE
  refine wp_region_held_drew (S := fun x => Own2 R0 R1 wp8 x) (by kernel_rfl) (Own2.of_ext (Ext.refl _).drew) (fun _ => ?_)
  have E2 := Lib.hid (show Ext wp8 wp8.drew from (Ext.refl _).drew)
  refine md_val (i := 0) (v := ?vm24) (listed' := #[true, false, false, false, false, false]) (by rfl) (by kernel_rfl) (by kernel_rfl) (by kernel_rfl) (by intro _ _ _ h; exact h) (by rfl) ?hm24 (Own2.of_ext E2.out) (by kernel_rfl) ?rm24
  case hm24 => (intro w hSw; (try dsimp only at hSw); go_simp <;> with_reducible rfl)
  (try simp only [Act.put, sIT, sC0, sCS])
  refine md_range (i := 1) (listed' := #[true, true, false, false, false, false]) (by rfl) (by kernel_rfl) (by kernel_rfl) (by kernel_rfl) _ _ (by rfl) X 0 [.bool za.n, .slice za.p za.l za.c, .bool za.m, .slice za.p2 za.l2 za.c2, .bool zb.n, .slice zb.p zb.l zb.c, .bool zb.m, .slice zb.p2 zb.l2 zb.c2] _ (by intro _ _ _ h; exact h) (by rfl) (by rfl) (fun x hx => ((FbX.out).own2 hx nbX_R0 nbX_R1).part 0 8) Try.underlying42 (by rfl) (by kernel_rfl) (Own2.of_ext E2.out) (by kernel_rfl) ?_
  (try simp only [Act.put, sIT, sC0, sCS])
  refine md_val (i := 2) (v := ?vm25) (listed' := #[true, true, true, false, false, false]) (by rfl) (by kernel_rfl) (by kernel_rfl) (by kernel_rfl) (by intro _ _ _ h; exact h) (by rfl) ?hm25 (Own2.of_ext E2.out) (by kernel_rfl) ?rm25
  case hm25 => (intro w hSw; (try dsimp only at hSw); go_simp <;> with_reducible rfl)
  (try simp only [Act.put, sIT, sC0, sCS])
  refine md_range (i := 3) (listed' := #[true, true, true, true, false, false]) (by rfl) (by kernel_rfl) (by kernel_rfl) (by kernel_rfl) _ _ (by rfl) X 8 [.bool zc.n, .slice zc.p zc.l zc.c, .bool zc.m, .slice zc.p2 zc.l2 zc.c2, .bool zd.n, .slice zd.p zd.l zd.c, .bool zd.m, .slice zd.p2 zd.l2 zd.c2] _ (by intro _ _ _ h; exact h) (by rfl) (by rfl) (fun x hx => ((FbX.out).own2 hx nbX_R0 nbX_R1).part 8 8) Try.underlying42 (by rfl) (by kernel_rfl) (Own2.of_ext E2.out) (by kernel_rfl) ?_
  (try simp only [Act.put, sIT, sC0, sCS])
  have o1 := Own.setCells wp8.drew R0 #[.bool za.n, .slice za.p za.l za.c, .bool za.m, .slice za.p2 za.l2 za.c2, .bool zb.n, .slice zb.p zb.l zb.c, .bool zb.m, .slice zb.p2 zb.l2 zb.c2]
  have kb1 := (FR0.out.ext E2.out)
  have hs1 : Own2 R0 R1 wp8 (wp8.drew.setCells R0 0 (#[.bool za.n, .slice za.p za.l za.c, .bool za.m, .slice za.p2 za.l2 za.c2, .bool zb.n, .slice zb.p zb.l zb.c, .bool zb.m, .slice zb.p2 zb.l2 zb.c2] : Array Value).toList) := (Own2.one (Own.then_ext' E2.out o1))
  refine md_store (i := 4) (listed' := #[true, true, true, true, true, false]) (by rfl) (by kernel_rfl) (by rfl) _ _ _ (by rfl) R0 _ #[.bool false, .slice none 0 0, .bool false, .slice none 0 0, .bool false, .slice none 0 0, .bool false, .slice none 0 0] #[.bool za.n, .slice za.p za.l za.c, .bool za.m, .slice za.p2 za.l2 za.c2, .bool zb.n, .slice zb.p zb.l zb.c, .bool zb.m, .slice zb.p2 zb.l2 zb.c2] (by rfl) (by rfl) kb1 (by rw [show (#[.bool za.n, .slice za.p za.l za.c, .bool za.m, .slice za.p2 za.l2 za.c2, .bool zb.n, .slice zb.p zb.l zb.c, .bool zb.m, .slice zb.p2 zb.l2 zb.c2] : Array Value).size = 8 from rfl]; rfl) (by rw [show (#[.bool za.n, .slice za.p za.l za.c, .bool za.m, .slice za.p2 za.l2 za.c2, .bool zb.n, .slice zb.p zb.l zb.c, .bool zb.m, .slice zb.p2 zb.l2 zb.c2] : Array Value).size = 8 from rfl]; kernel_rfl) (all_oneCell_toArray (by simp [Value.oneCell'])) hs1 (by kernel_rfl) ?_
  (try simp only [Act.put])
  have kc1 := kb1.setCells #[.bool za.n, .slice za.p za.l za.c, .bool za.m, .slice za.p2 za.l2 za.c2, .bool zb.n, .slice zb.p zb.l zb.c, .bool zb.m, .slice zb.p2 zb.l2 zb.c2] (by rw [show (#[.bool za.n, .slice za.p za.l za.c, .bool za.m, .slice za.p2 za.l2 za.c2, .bool zb.n, .slice zb.p zb.l zb.c, .bool zb.m, .slice zb.p2 zb.l2 zb.c2] : Array Value).size = 8 from rfl]; rfl)
  have o2 := Own.setCells (wp8.drew.setCells R0 0 (#[.bool za.n, .slice za.p za.l za.c, .bool za.m, .slice za.p2 za.l2 za.c2, .bool zb.n, .slice zb.p zb.l zb.c, .bool zb.m, .slice zb.p2 zb.l2 zb.c2] : Array Value).toList) R1 #[.bool zc.n, .slice zc.p zc.l zc.c, .bool zc.m, .slice zc.p2 zc.l2 zc.c2, .bool zd.n, .slice zd.p zd.l zd.c, .bool zd.m, .slice zd.p2 zd.l2 zd.c2]
  have kb2 := ((FR1.out.ext E2.out)).own o1 nR1_R0
  have hs2 : Own2 R0 R1 wp8 ((wp8.drew.setCells R0 0 (#[.bool za.n, .slice za.p za.l za.c, .bool za.m, .slice za.p2 za.l2 za.c2, .bool zb.n, .slice zb.p zb.l zb.c, .bool zb.m, .slice zb.p2 zb.l2 zb.c2] : Array Value).toList).setCells R1 0 (#[.bool zc.n, .slice zc.p zc.l zc.c, .bool zc.m, .slice zc.p2 zc.l2 zc.c2, .bool zd.n, .slice zd.p zd.l zd.c, .bool zd.m, .slice zd.p2 zd.l2 zd.c2] : Array Value).toList) := ⟨_, Own.then_ext' E2.out o1, o2⟩
  refine md_store (i := 5) (listed' := #[true, true, true, true, true, true]) (by rfl) (by kernel_rfl) (by rfl) _ _ _ (by rfl) R1 _ #[.bool false, .slice none 0 0, .bool false, .slice none 0 0, .bool false, .slice none 0 0, .bool false, .slice none 0 0] #[.bool zc.n, .slice zc.p zc.l zc.c, .bool zc.m, .slice zc.p2 zc.l2 zc.c2, .bool zd.n, .slice zd.p zd.l zd.c, .bool zd.m, .slice zd.p2 zd.l2 zd.c2] (by rfl) (by rfl) kb2 (by rw [show (#[.bool zc.n, .slice zc.p zc.l zc.c, .bool zc.m, .slice zc.p2 zc.l2 zc.c2, .bool zd.n, .slice zd.p zd.l zd.c, .bool zd.m, .slice zd.p2 zd.l2 zd.c2] : Array Value).size = 8 from rfl]; rfl) (by rw [show (#[.bool zc.n, .slice zc.p zc.l zc.c, .bool zc.m, .slice zc.p2 zc.l2 zc.c2, .bool zd.n, .slice zd.p zd.l zd.c, .bool zd.m, .slice zd.p2 zd.l2 zd.c2] : Array Value).size = 8 from rfl]; kernel_rfl) (all_oneCell_toArray (by simp [Value.oneCell'])) hs2 (by kernel_rfl) ?_
  (try simp only [Act.put])
  have kc2 := kb2.setCells #[.bool zc.n, .slice zc.p zc.l zc.c, .bool zc.m, .slice zc.p2 zc.l2 zc.c2, .bool zd.n, .slice zd.p zd.l zd.c, .bool zd.m, .slice zd.p2 zd.l2 zd.c2] (by rw [show (#[.bool zc.n, .slice zc.p zc.l zc.c, .bool zc.m, .slice zc.p2 zc.l2 zc.c2, .bool zd.n, .slice zd.p zd.l zd.c, .bool zd.m, .slice zd.p2 zd.l2 zd.c2] : Array Value).size = 8 from rfl]; rfl)
  refine wpAnyH_done (by kernel_rfl) ?_ _
  go_wp2_with fail
  have kd1 := kc1.own o2 nR0_R1
  refine bodyPost_ret (v := .tuple #[.agg #[.bool za.n, .slice za.p za.l za.c, .bool za.m, .slice za.p2 za.l2 za.c2, .bool zb.n, .slice zb.p zb.l zb.c, .bool zb.m, .slice zb.p2 zb.l2 zb.c2], .agg #[.bool zc.n, .slice zc.p zc.l zc.c, .bool zc.m, .slice zc.p2 zc.l2 zc.c2, .bool zd.n, .slice zd.p zd.l zd.c, .bool zd.m, .slice zd.p2 zd.l2 zd.c2]]) ?_ rfl ⟨_, _, rfl, ⟨za, zb, rfl, (((Fza.out.ext E2.out).own kb1 (noU_of _ (by simp)) o1).own kb2 (noU_of _ (by simp)) o2), (((Fzb.out.ext E2.out).own kb1 (noU_of _ (by simp)) o1).own kb2 (noU_of _ (by simp)) o2)⟩, ⟨zc, zd, rfl, (((Fzc.out.ext E2.out).own kb1 (noU_of _ (by simp)) o1).own kb2 (noU_of _ (by simp)) o2), (((Fzd.out.ext E2.out).own kb1 (noU_of _ (by simp)) o1).own kb2 (noU_of _ (by simp)) o2)⟩, (o2.ext (o1.ext (E1.out.trans E2.out) gR0) gR1)⟩
  exact results_cell2 rfl rfl rfl (kd1.loadVar rfl rfl rfl) (kc2.loadVar rfl rfl rfl)

end Go.Proofs.Ytllpkoinjompcaa

namespace Go.Proofs.Ytllpkoinjompcaa
open Go.RowKit

theorem NIs.map {w w' : World} {cs : Array Value} {q : Rat} (h : NIs w cs q) (x : ∀ (r : RV) (q : Rat), r.Is w q → r.Is w' q) : NIs w' cs q := by obtain ⟨a, e, h⟩ := h; exact ⟨a, e, x _ _ h⟩
theorem NIn.one {L : Nat} {w : World} {cs : Array Value} {q : Rat} (h : NIn L w cs q) : cs.all (·.oneCell') = true := by obtain ⟨a, rfl, _⟩ := h; exact all_oneCell_toArray (by simp [Value.oneCell'])
theorem pAdd {L : Nat} {w : World} {cs ct : Array Value} {q r : Rat} (hp : NIn L w cs q) (hq : NIn L w ct r) (hL : L ≤ 70000) :
    Calls Try.prog 53 #[.agg cs, .agg ct] w fun e w' => ∃ c, e = .returned (.agg c) ∧ NIs w' c (q + r) ∧ Ext w w' := by
  obtain ⟨a, rfl, h1⟩ := hp
  obtain ⟨b, rfl, h2⟩ := hq
  refine (xadd h1 h2 hL).mono fun e w' h => ?_
  obtain ⟨c, rfl, h3, h4⟩ := h
  exact ⟨_, rfl, ⟨c, rfl, h3⟩, h4⟩
theorem pSub {L : Nat} {w : World} {cs ct : Array Value} {q r : Rat} (hp : NIn L w cs q) (hq : NIn L w ct r) (hL : L ≤ 70000) :
    Calls Try.prog 51 #[.agg cs, .agg ct] w fun e w' => ∃ c, e = .returned (.agg c) ∧ NIs w' c (q - r) ∧ Ext w w' := by
  obtain ⟨a, rfl, h1⟩ := hp
  obtain ⟨b, rfl, h2⟩ := hq
  refine (xsub h1 h2 hL).mono fun e w' h => ?_
  obtain ⟨c, rfl, h3, h4⟩ := h
  exact ⟨_, rfl, ⟨c, rfl, h3⟩, h4⟩
theorem pCmp {L : Nat} {w : World} {cs ct : Array Value} {q r : Rat} (hp : NIn L w cs q) (hq : NIn L w ct r) (hL : L ≤ 70000) :
    Calls Try.prog 54 #[.agg cs, .agg ct] w fun e w' => e = .returned (.int .i64 (rcmp q r)) ∧ Ext w w' := by
  obtain ⟨a, rfl, h1⟩ := hp
  obtain ⟨b, rfl, h2⟩ := hq
  exact xcmp h1 h2 hL
theorem pCmpS {L : Nat} {w : World} {cs ct : Array Value} {q r : Rat} {s : Int} (hs : s = rcmp q r) (hp : NIn L w cs q) (hq : NIn L w ct r) (hL : L ≤ 70000) :
    Calls Try.prog 54 #[.agg cs, .agg ct] w fun e w' => e = .returned (.int .i64 s) ∧ Ext w w' := by
  subst hs
  exact pCmp hp hq hL
theorem pFrom (a : Int) (w : World) (h1 : -9223372036854775808 ≤ a) (h2 : a ≤ 9223372036854775807) :
    Calls Try.prog 50 #[.int .i64 a] w fun e w' => ∃ c, e = .returned (.agg c) ∧ NIs w' c (a : Rat) ∧ Ext w w' := by
  refine (rfromInt_any a w h1 h2).mono fun e w' h => ?_
  obtain ⟨c, rfl, h3, h4⟩ := RetR.v h
  exact ⟨_, rfl, ⟨c, rfl, h3⟩, h4⟩
theorem pQuo {L : Nat} {w : World} {cs ct : Array Value} {q r : Rat} (hp : NIn L w cs q) (hq : NIn L w ct r) (hL : L ≤ 70000) (hr : r ≠ 0) :
    Calls Try.prog 52 #[.agg cs, .agg ct] w fun e w' => ∃ c, e = .returned (.tuple #[.agg c, .int .i64 0]) ∧ NIs w' c (q / r) ∧ Ext w w' := by
  obtain ⟨a, rfl, h1⟩ := hp
  obtain ⟨b, rfl, h2⟩ := hq
  refine (rquo_any _ _ _ _ _ _ _ _ L q r w h1 h2 hL hr).mono fun e w' h => ?_
  obtain ⟨c, rfl, h3, h4⟩ := RetRE.v h
  exact ⟨_, rfl, ⟨c, rfl, h3⟩, h4⟩
theorem pQuo0 {L : Nat} {w : World} {cs ct : Array Value} {q r : Rat} (hp : NIn L w cs q) (hq : NIn L w ct r) (hL : L ≤ 70000) (hr : r = 0) :
    Calls Try.prog 52 #[.agg cs, .agg ct] w fun e w' => e = .returned (.tuple #[.agg #[.bool false, .slice none 0 0, .bool false, .slice none 0 0], .int .i64 9]) ∧ Ext w w' := by
  obtain ⟨a, rfl, h1⟩ := hp
  obtain ⟨b, rfl, h2⟩ := hq
  exact rquo_zero _ _ _ _ _ _ _ _ L q r w h1 h2 hL hr
end Go.Proofs.Ytllpkoinjompcaa

namespace Go.Proofs.Ytllpkoinjompcaa

def qTop (a b c : Rat) : Rat := (a - b) / ((a - b) + (c - b))
def quadLo (a b c : Rat) : Rat := if 0 < qTop a b c ∧ qTop a b c < 1 then lower (quadV a b c (qTop a b c)) (lower c a) else lower c a
def quadHi (a b c : Rat) : Rat := if 0 < qTop a b c ∧ qTop a b c < 1 then upper (quadV a b c (qTop a b c)) (upper c a) else upper c a
end Go.Proofs.Ytllpkoinjompcaa
