/- The program's QuadBounds. -/
import Derived.Deep.LoopGhost
import Derived.Deep.DeepCutAuto
import Derived.Test.YtllpkoinjompcaaM6
namespace Go.Proofs.Ytllpkoinjompcaa
open Go.RowKit
attribute [local go_sem ↓] Go.wp_at_zero Go.wp_at_succ run_max_ii run_min_ii

theorem rlI (k : Int) (h : k.natAbs < 4294967296) : Nm.rl (k : Rat) ≤ 1 := by
  unfold Nm.rl
  rw [Rat.num_intCast, Rat.den_intCast]
  have h1 : Nm.nl k.natAbs ≤ 1 := Nm.nl_le (by omega)
  have h2 : Nm.nl 1 ≤ 1 := Nm.nl_le (by decide)
  omega
theorem rl_quadV3 {a b c t : Rat} {L : Nat} (ha : Nm.rl a ≤ L) (hb : Nm.rl b ≤ L) (hc : Nm.rl c ≤ L) (ht : Nm.rl t ≤ L) : Nm.rl (quadV a b c t) ≤ 16 * L + 10 := by
  have h1 := rl_lerpV ha hb ht
  have h2 := rl_lerpV hb hc ht
  have h3 : Nm.rl (quadV a b c t) ≤ 4 * (4 * L + 2) + 2 := rl_lerpV (L := 4 * L + 2) h1 h2 (by omega)
  omega
theorem pIdx0 {w : World} {cs : Array Value} {x y : Rat} (h : PtIs w cs x y) (W : World) : (Instr.index 42 (.agg cs) (.int .i64 0)).run Try.prog W = .ok (.agg (cs.extract 0 (0 + 4))) W := by
  obtain ⟨a, b, rfl, _, _⟩ := h
  exact idx0 a b W
theorem pIdx1 {w : World} {cs : Array Value} {x y : Rat} (h : PtIs w cs x y) (W : World) : (Instr.index 42 (.agg cs) (.int .i64 1)).run Try.prog W = .ok (.agg (cs.extract 4 (4 + 4))) W := by
  obtain ⟨a, b, rfl, _, _⟩ := h
  exact idx1 a b W
theorem pBox0 {L X : Nat} {cs : Array Value} {lx ly hx hy q : Rat} {w : World} (hb : BoxAt w X lx ly hx hy) (hn : NIn L w cs q) (hlo : Nm.rl lx ≤ L) (hhi : Nm.rl hx ≤ L) (hL : L ≤ 60000) :
    Calls Try.prog 55 #[.pointer (some ⟨X, 0, none⟩), .int .i64 0, .agg cs] w fun e w' => e = .returned (.tuple #[]) ∧ BoxAt w' X (lower q lx) ly (upper q hx) hy ∧ Turn X w w' := by
  obtain ⟨a, rfl, h⟩ := hn
  exact add0_any L X a lx ly hx hy q w hb h hlo hhi hL
theorem pBox1 {L X : Nat} {cs : Array Value} {lx ly hx hy q : Rat} {w : World} (hb : BoxAt w X lx ly hx hy) (hn : NIn L w cs q) (hlo : Nm.rl ly ≤ L) (hhi : Nm.rl hy ≤ L) (hL : L ≤ 60000) :
    Calls Try.prog 55 #[.pointer (some ⟨X, 0, none⟩), .int .i64 1, .agg cs] w fun e w' => e = .returned (.tuple #[]) ∧ BoxAt w' X lx (lower q ly) hx (upper q hy) ∧ Turn X w w' := by
  obtain ⟨a, rfl, h⟩ := hn
  exact add1_any L X a lx ly hx hy q w hb h hlo hhi hL
theorem BoxAt.lt {w : World} {X : Nat} {lx ly hx hy : Rat} (h : BoxAt w X lx ly hx hy) : X < w.heap.size := by
  obtain ⟨a, b, c, d, k, _⟩ := h
  exact k.lt
theorem Q3In.own0 {L : Nat} {w w' : World} {cs : Array Value} {A0 A1 B0 B1 C0 C1 : Rat} (h : Q3In L w cs A0 A1 B0 B1 C0 C1) {X : Nat} (hb : Blk w X 92 ([.bool false, .slice none 0 0, .bool false, .slice none 0 0, .bool false, .slice none 0 0, .bool false, .slice none 0 0, .bool false, .slice none 0 0, .bool false, .slice none 0 0, .bool false, .slice none 0 0, .bool false, .slice none 0 0, .bool false] : List Value).toArray) (t : Turn X w w') : Q3In L w' cs A0 A1 B0 B1 C0 C1 := by
  obtain ⟨a0, a1, b0, b1, c0, c1, e, ha0, ha1, hb0, hb1, hc0, hc1⟩ := h
  exact ⟨a0, a1, b0, b1, c0, c1, e, ha0.own hb (noU_of _ (by simp)) t.1, ha1.own hb (noU_of _ (by simp)) t.1, hb0.own hb (noU_of _ (by simp)) t.1, hb1.own hb (noU_of _ (by simp)) t.1, hc0.own hb (noU_of _ (by simp)) t.1, hc1.own hb (noU_of _ (by simp)) t.1⟩
theorem oPutFirst' {L X : Nat} {cs : Array Value} {x y : Rat} {w : World} (hX : Blk w X 92 ([.bool false, .slice none 0 0, .bool false, .slice none 0 0, .bool false, .slice none 0 0, .bool false, .slice none 0 0, .bool false, .slice none 0 0, .bool false, .slice none 0 0, .bool false, .slice none 0 0, .bool false, .slice none 0 0, .bool false] : List Value).toArray) (hp : PtIn L w cs x y) (h1 : 1 ≤ L) (hL : L ≤ 60000) :
    Calls Try.prog 49 #[.pointer (some ⟨X, 0, none⟩), .agg cs] w fun e w' => e = .returned (.tuple #[]) ∧ BoxAt w' X x y x y ∧ Turn X w w' := by
  obtain ⟨a, b, rfl, ha, hb⟩ := hp
  exact putFirst_any L X a b x y w hX ha hb h1 hL
theorem oPutMore' {L X : Nat} {cs : Array Value} {lx ly hx hy x y : Rat} {w : World} (hX : BoxAt w X lx ly hx hy) (hp : PtIn L w cs x y) (r1 : Nm.rl lx ≤ L) (r2 : Nm.rl ly ≤ L) (r3 : Nm.rl hx ≤ L) (r4 : Nm.rl hy ≤ L) (h1 : 1 ≤ L) (hL : L ≤ 60000) :
    Calls Try.prog 49 #[.pointer (some ⟨X, 0, none⟩), .agg cs] w fun e w' => e = .returned (.tuple #[]) ∧ BoxAt w' X (lower x lx) (lower y ly) (upper x hx) (upper y hy) ∧ Turn X w w' := by
  obtain ⟨a, b, rfl, ha, hb⟩ := hp
  exact putMore_any L X a b lx ly hx hy x y w hX ha hb r1 r2 r3 r4 h1 hL
theorem Q3In.own {L : Nat} {w w' : World} {cs : Array Value} {A0 A1 B0 B1 C0 C1 : Rat} (h : Q3In L w cs A0 A1 B0 B1 C0 C1) {X : Nat} {lx ly hx hy : Rat} (hb : BoxAt w X lx ly hx hy) (t : Turn X w w') : Q3In L w' cs A0 A1 B0 B1 C0 C1 := by
  obtain ⟨a0, a1, b0, b1, c0, c1, e, ha0, ha1, hb0, hb1, hc0, hc1⟩ := h
  exact ⟨a0, a1, b0, b1, c0, c1, e, ha0.turn hb t, ha1.turn hb t, hb0.turn hb t, hb1.turn hb t, hc0.turn hb t, hc1.turn hb t⟩
structure QbSt (L X bp bz bo r0 r1 : Nat) (cp cz co : Array Value) (A0 A1 B0 B1 C0 C1 : Rat) (wX wr : World) (lx ly hx hy : Rat) : Prop where
  box : BoxAt wr X lx ly hx hy
  P : Q3In L wr cp A0 A1 B0 B1 C0 C1
  Z : NIs wr cz ((0 : Int) : Rat)
  O : NIs wr co ((1 : Int) : Rat)
  kp : Blk wr bp 46 cp
  kz : Blk wr bz 41 cz
  ko : Blk wr bo 41 co
  k0 : Blk wr r0 42 #[.bool false, .slice none 0 0, .bool false, .slice none 0 0, .bool false, .slice none 0 0, .bool false, .slice none 0 0]
  k1 : Blk wr r1 42 #[.bool false, .slice none 0 0, .bool false, .slice none 0 0, .bool false, .slice none 0 0, .bool false, .slice none 0 0]
  t : Turn X wX wr
  np : bp ≠ X
  nz : bz ≠ X
  no : bo ≠ X
  n0 : r0 ≠ X
  n1 : r1 ≠ X
theorem QbSt.turn {L X bp bz bo r0 r1 : Nat} {cp cz co : Array Value} {A0 A1 B0 B1 C0 C1 : Rat} {wX wr w' : World} {lx ly hx hy lx' ly' hx' hy' : Rat} (h : QbSt L X bp bz bo r0 r1 cp cz co A0 A1 B0 B1 C0 C1 wX wr lx ly hx hy) (k : BoxAt w' X lx' ly' hx' hy') (t : Turn X wr w') : QbSt L X bp bz bo r0 r1 cp cz co A0 A1 B0 B1 C0 C1 wX w' lx' ly' hx' hy' :=
  ⟨k, h.P.own h.box t, h.Z.map t.2, h.O.map t.2, t.blk h.kp h.np, t.blk h.kz h.nz, t.blk h.ko h.no, t.blk h.k0 h.n0, t.blk h.k1 h.n1, h.t.trans t, h.np, h.nz, h.no, h.n0, h.n1⟩
theorem qTop_in {a b c : Rat} (h1 : 0 < rcmp ((a - b) / ((a - b) + (c - b))) ((0 : Int) : Rat)) (h2 : rcmp ((a - b) / ((a - b) + (c - b))) ((1 : Int) : Rat) < 0) : 0 < qTop a b c ∧ qTop a b c < 1 := ⟨rcmp_gt'.1 h1, rcmp_lt.1 h2⟩
theorem qTop_out1 {a b c : Rat} (h1 : ¬ 0 < rcmp ((a - b) / ((a - b) + (c - b))) ((0 : Int) : Rat)) : ¬ (0 < qTop a b c ∧ qTop a b c < 1) := fun h => h1 (rcmp_gt'.2 h.1)
theorem qTop_out2 {a b c : Rat} (h2 : ¬ rcmp ((a - b) / ((a - b) + (c - b))) ((1 : Int) : Rat) < 0) : ¬ (0 < qTop a b c ∧ qTop a b c < 1) := fun h => h2 (rcmp_lt.2 h.2)
theorem qTop_out0 {a b c : Rat} (h : (a - b) + (c - b) = 0) : ¬ (0 < qTop a b c ∧ qTop a b c < 1) := by
  intro k
  have e : qTop a b c = 0 := by unfold qTop; rw [h]; grind
  rw [e] at k
  exact absurd k.1 (by decide +kernel)
theorem qLo_in {a b c : Rat} (h : 0 < qTop a b c ∧ qTop a b c < 1) : quadLo a b c = lower (quadV a b c ((a - b) / ((a - b) + (c - b)))) (lower c a) := if_pos h
theorem qHi_in {a b c : Rat} (h : 0 < qTop a b c ∧ qTop a b c < 1) : quadHi a b c = upper (quadV a b c ((a - b) / ((a - b) + (c - b)))) (upper c a) := if_pos h
theorem qLo_out {a b c : Rat} (h : ¬ (0 < qTop a b c ∧ qTop a b c < 1)) : quadLo a b c = lower c a := if_neg h
theorem qHi_out {a b c : Rat} (h : ¬ (0 < qTop a b c ∧ qTop a b c < 1)) : quadHi a b c = upper c a := if_neg h
set_option maxRecDepth 20000 in
set_option maxHeartbeats 8000000 in
theorem quadBounds_any (L : Nat) (cp : Array Value) (A0 A1 B0 B1 C0 C1 : Rat) (w : World) (hP : Q3In L w cp A0 A1 B0 B1 C0 C1) (h1 : 1 ≤ L) (hL : L ≤ 200) :
    Calls Try.prog 24 #[.agg cp] w fun e w' => ∃ c1 c2, e = .returned (.tuple #[.agg c1, .agg c2]) ∧ PtIs w' c1 (quadLo A0 B0 C0) (quadLo A1 B1 C1) ∧ PtIs w' c2 (quadHi A0 B0 C0) (quadHi A1 B1 C1) ∧ Ext w w' := by
  have ZP := hP.size
  have OP := hP.one
  have ra0 : Nm.rl A0 ≤ L := by obtain ⟨_, _, _, _, _, _, _, h, _, _, _, _, _⟩ := hP; have := h.rl; omega
  have ra1 : Nm.rl A1 ≤ L := by obtain ⟨_, _, _, _, _, _, _, _, h, _, _, _, _⟩ := hP; have := h.rl; omega
  have rb0 : Nm.rl B0 ≤ L := by obtain ⟨_, _, _, _, _, _, _, _, _, h, _, _, _⟩ := hP; have := h.rl; omega
  have rb1 : Nm.rl B1 ≤ L := by obtain ⟨_, _, _, _, _, _, _, _, _, _, h, _, _⟩ := hP; have := h.rl; omega
  have rc0 : Nm.rl C0 ≤ L := by obtain ⟨_, _, _, _, _, _, _, _, _, _, _, h, _⟩ := hP; have := h.rl; omega
  have rc1 : Nm.rl C1 ≤ L := by obtain ⟨_, _, _, _, _, _, _, _, _, _, _, _, h⟩ := hP; have := h.rl; omega
  have FP := Lib.hid hP
  clear hP
  go_enter Try.func24, Try.ntmps24
  go_upto_region 1 with fail
  have hbx0 : Blk (((w.alloc (.cells cp 46)).alloc (.cells #[.bool false, .slice none 0 0, .bool false, .slice none 0 0, .bool false, .slice none 0 0, .bool false, .slice none 0 0] 42)).alloc (.cells #[.bool false, .slice none 0 0, .bool false, .slice none 0 0, .bool false, .slice none 0 0, .bool false, .slice none 0 0] 42)) (w.heap.size) 46 cp := Blk.ext (Blk.new_at w _ (by simp) _ _) (((Ext.refl _).alloc _).alloc _)
  have hR0 : Blk (((w.alloc (.cells cp 46)).alloc (.cells #[.bool false, .slice none 0 0, .bool false, .slice none 0 0, .bool false, .slice none 0 0, .bool false, .slice none 0 0] 42)).alloc (.cells #[.bool false, .slice none 0 0, .bool false, .slice none 0 0, .bool false, .slice none 0 0, .bool false, .slice none 0 0] 42)) (w.heap.size + 1) 42 #[.bool false, .slice none 0 0, .bool false, .slice none 0 0, .bool false, .slice none 0 0, .bool false, .slice none 0 0] := Blk.ext (Blk.new_at (w.alloc (.cells cp 46)) _ (by simp) _ _) ((Ext.refl _).alloc _)
  have hR1 : Blk (((w.alloc (.cells cp 46)).alloc (.cells #[.bool false, .slice none 0 0, .bool false, .slice none 0 0, .bool false, .slice none 0 0, .bool false, .slice none 0 0] 42)).alloc (.cells #[.bool false, .slice none 0 0, .bool false, .slice none 0 0, .bool false, .slice none 0 0, .bool false, .slice none 0 0] 42)) (w.heap.size + 1 + 1) 42 #[.bool false, .slice none 0 0, .bool false, .slice none 0 0, .bool false, .slice none 0 0, .bool false, .slice none 0 0] := Blk.ext (Blk.new_at ((w.alloc (.cells cp 46)).alloc (.cells #[.bool false, .slice none 0 0, .bool false, .slice none 0 0, .bool false, .slice none 0 0, .bool false, .slice none 0 0] 42)) _ (by simp) _ _) (Ext.refl _)
  have hE : Ext w (((w.alloc (.cells cp 46)).alloc (.cells #[.bool false, .slice none 0 0, .bool false, .slice none 0 0, .bool false, .slice none 0 0, .bool false, .slice none 0 0] 42)).alloc (.cells #[.bool false, .slice none 0 0, .bool false, .slice none 0 0, .bool false, .slice none 0 0, .bool false, .slice none 0 0] 42)) := ((((Ext.refl _).alloc _).alloc _).alloc _)
  have gR0 : w.heap.size ≤ w.heap.size + 1 := by omega
  have nbx0_R0 : w.heap.size ≠ w.heap.size + 1 := by omega
  have nR1_R0 : w.heap.size + 1 + 1 ≠ w.heap.size + 1 := by omega
  have gR1 : w.heap.size ≤ w.heap.size + 1 + 1 := by omega
  have nbx0_R1 : w.heap.size ≠ w.heap.size + 1 + 1 := by omega
  have nR0_R1 : w.heap.size + 1 ≠ w.heap.size + 1 + 1 := by omega
  generalize (((w.alloc (.cells cp 46)).alloc (.cells #[.bool false, .slice none 0 0, .bool false, .slice none 0 0, .bool false, .slice none 0 0, .bool false, .slice none 0 0] 42)).alloc (.cells #[.bool false, .slice none 0 0, .bool false, .slice none 0 0, .bool false, .slice none 0 0, .bool false, .slice none 0 0] 42)) = wa at *
  generalize w.heap.size + 1 + 1 = R1 at *
  generalize w.heap.size + 1 = R0 at *
  have E1 := Lib.hid (show Ext w wa from hE)
  have Fbx0 := Lib.hid hbx0
  have FR0 := Lib.hid hR0
  have FR1 := Lib.hid hR1
  clear hE hbx0 hR0 hR1
  refine wp_region_lit ?_
  refine mv_val (v := .pointer (some ⟨wa.heap.size, 0, none⟩)) (w' := (wa.alloc (.cells ([.bool false, .slice none 0 0, .bool false, .slice none 0 0, .bool false, .slice none 0 0, .bool false, .slice none 0 0, .bool false, .slice none 0 0, .bool false, .slice none 0 0, .bool false, .slice none 0 0, .bool false, .slice none 0 0, .bool false] : List Value).toArray 92))) (by rfl) (by go_simp) ?_
  (try simp only [Act.put, sIT, sC0, sCS])
  have hbX : Blk (wa.alloc (.cells ([.bool false, .slice none 0 0, .bool false, .slice none 0 0, .bool false, .slice none 0 0, .bool false, .slice none 0 0, .bool false, .slice none 0 0, .bool false, .slice none 0 0, .bool false, .slice none 0 0, .bool false, .slice none 0 0, .bool false] : List Value).toArray 92)) wa.heap.size 92 ([.bool false, .slice none 0 0, .bool false, .slice none 0 0, .bool false, .slice none 0 0, .bool false, .slice none 0 0, .bool false, .slice none 0 0, .bool false, .slice none 0 0, .bool false, .slice none 0 0, .bool false, .slice none 0 0, .bool false] : List Value).toArray := Blk.new _ _ _
  have hxx : Ext wa (wa.alloc (.cells ([.bool false, .slice none 0 0, .bool false, .slice none 0 0, .bool false, .slice none 0 0, .bool false, .slice none 0 0, .bool false, .slice none 0 0, .bool false, .slice none 0 0, .bool false, .slice none 0 0, .bool false, .slice none 0 0, .bool false] : List Value).toArray 92)) := (Ext.refl _).alloc _
  have gX : w.heap.size ≤ wa.heap.size := (E1.out).size
  have nbx0_X : w.heap.size ≠ wa.heap.size := Nat.ne_of_lt (Blk.lt Fbx0.out)
  have nR0_X : R0 ≠ wa.heap.size := Nat.ne_of_lt (Blk.lt FR0.out)
  have nR1_X : R1 ≠ wa.heap.size := Nat.ne_of_lt (Blk.lt FR1.out)
  generalize (wa.alloc (.cells ([.bool false, .slice none 0 0, .bool false, .slice none 0 0, .bool false, .slice none 0 0, .bool false, .slice none 0 0, .bool false, .slice none 0 0, .bool false, .slice none 0 0, .bool false, .slice none 0 0, .bool false, .slice none 0 0, .bool false] : List Value).toArray 92)) = wX at *
  generalize hXe : wa.heap.size = X at *
  have E2 := Lib.hid (show Ext wa wX from hxx)
  have FbX := Lib.hid hbX
  clear hxx hbX hXe
  have HEX := Lib.hid (E1.out.trans E2.out)
  have GP := Lib.hid (FP.out.ext (E1.out.trans E2.out))
  go_upto_region 2 with fail
  refine wp_region_lit ?_
  refine mv_val (v := ?vm1) (w' := wX) (by rfl) ?hm1 ?rm1
  case hm1 => (go_simp <;> with_reducible rfl)
  (try simp only [Act.put, sIT, sC0, sCS])
  refine mv_part (by rfl) _ _ (by rfl) w.heap.size 0 8 _ cp _ (by rfl) (Fbx0.out.ext E2.out) Try.underlying42 (by rfl) (by kernel_rfl) (by rw [show (cp : Array Value).size = 24 from ZP]; omega) ?_
  (try simp only [Act.put, sIT, sC0, sCS])
  refine mv_call (by rfl) (by go_simp) (oPutFirst' (L := L) FbX.out (FP.out.ext (E1.out.trans E2.out)).p0 h1 (by omega)) ?_
  rintro e wp2 ⟨rfl, hb, ht⟩
  refine ⟨_, rfl, ?_⟩
  (try simp only [Act.put, sIT, sC0, sCS])
  have kbx0 := Lib.hid (ht.blk (Fbx0.out.ext E2.out) nbx0_X)
  have kR0 := Lib.hid (ht.blk (FR0.out.ext E2.out) nR0_X)
  have kR1 := Lib.hid (ht.blk (FR1.out.ext E2.out) nR1_X)
  have kP := Lib.hid ((FP.out.ext (E1.out.trans E2.out)).own0 FbX.out ht)
  have kb := Lib.hid hb
  have TT := Lib.hid ht
  clear hb ht
  have Fbx0 := Lib.hid kbx0.out
  have FR0 := Lib.hid kR0.out
  have FR1 := Lib.hid kR1.out
  have FP := Lib.hid kP.out
  clear kbx0
  clear kR0
  clear kR1
  clear kP
  go_upto_region 3 with fail
  refine wp_region_lit ?_
  refine mv_val (v := ?vm2) (w' := wp2) (by rfl) ?hm2 ?rm2
  case hm2 => (go_simp <;> with_reducible rfl)
  (try simp only [Act.put, sIT, sC0, sCS])
  refine mv_part (by rfl) _ _ (by rfl) w.heap.size 16 8 _ cp _ (by rfl) Fbx0.out Try.underlying42 (by rfl) (by kernel_rfl) (by rw [show (cp : Array Value).size = 24 from ZP]; omega) ?_
  (try simp only [Act.put, sIT, sC0, sCS])
  refine mv_call (by rfl) (by go_simp) (oPutMore' (L := L) kb.out FP.out.p2 ra0 ra1 ra0 ra1 h1 (by omega)) ?_
  rintro e wp3 ⟨rfl, hb, ht⟩
  refine ⟨_, rfl, ?_⟩
  (try simp only [Act.put, sIT, sC0, sCS])
  have kbx0 := Lib.hid (ht.blk Fbx0.out nbx0_X)
  have kR0 := Lib.hid (ht.blk FR0.out nR0_X)
  have kR1 := Lib.hid (ht.blk FR1.out nR1_X)
  have kP := Lib.hid (FP.out.own kb.out ht)
  have kb2 := Lib.hid hb
  have TT2 := Lib.hid (TT.out.trans ht)
  clear hb ht TT kb
  have Fbx0 := Lib.hid kbx0.out
  have FR0 := Lib.hid kR0.out
  have FR1 := Lib.hid kR1.out
  have FP := Lib.hid kP.out
  clear kbx0
  clear kR0
  clear kR1
  clear kP
  go_upto_region 4 with fail
  refine wp_region_lit ?_
  refine mv_call (by rfl) (by go_simp) (pFrom 0 _ (by omega) (by omega)) ?_
  rintro e w1 ⟨cz, rfl, hc, hx⟩
  have E1 := Lib.hid (show Ext wp3 w1 from hx)
  have FZ := Lib.hid hc
  have Z_cz := hc.size
  have O_cz := hc.one
  clear hc
  clear hx
  refine ⟨_, rfl, ?_⟩
  (try simp only [Act.put, sIT, sC0, sCS])
  refine mv_call (by rfl) (by go_simp) (pFrom 1 _ (by omega) (by omega)) ?_
  rintro e w2 ⟨co, rfl, hc, hx⟩
  have E2 := Lib.hid (show Ext w1 w2 from hx)
  have FO := Lib.hid hc
  have Z_co := hc.size
  have O_co := hc.one
  clear hc
  have hv5 : X < w2.heap.size := BoxAt.lt (kb2.out.ext (E1.out.trans E2.out))
  have hv6 : X < (w2.alloc (.cells #[.bool false, .slice none 0 0, .bool false, .slice none 0 0] 41)).heap.size := by simp only [World.size_alloc]; omega
  clear hx
  refine ⟨_, rfl, ?_⟩
  (try simp only [Act.put, sIT, sC0, sCS])
  obtain ⟨xq1, xq2, xq3, xq4, xq5⟩ := new_var2 w2 41 #[.bool false, .slice none 0 0, .bool false, .slice none 0 0] cz co (by rw [Z_cz]; rfl) (by rw [Z_co]; rfl)
  refine mv_val (v := .pointer (some ⟨w2.heap.size, 0, none⟩)) (w' := w2.alloc (.cells #[.bool false, .slice none 0 0, .bool false, .slice none 0 0] 41)) (by rfl) (by go_simp) ?_
  (try simp only [Act.put, sIT, sC0, sCS])
  refine mv_val (v := .pointer (some ⟨(w2.alloc (.cells #[.bool false, .slice none 0 0, .bool false, .slice none 0 0] 41)).heap.size, 0, none⟩)) (w' := (w2.alloc (.cells #[.bool false, .slice none 0 0, .bool false, .slice none 0 0] 41)).alloc (.cells #[.bool false, .slice none 0 0, .bool false, .slice none 0 0] 41)) (by rfl) (by go_simp) ?_
  (try simp only [Act.put, sIT, sC0, sCS])
  refine mv_store (by rfl) _ _ _ (by rfl) w2.heap.size 41 #[.bool false, .slice none 0 0, .bool false, .slice none 0 0] cz (by rfl) (by rfl) xq1 (by rw [Z_cz]; rfl) (by rw [Z_cz]; kernel_rfl) O_cz ?_
  (try simp only [Act.put])
  refine mv_store (by rfl) _ _ _ (by rfl) (w2.alloc (.cells #[.bool false, .slice none 0 0, .bool false, .slice none 0 0] 41)).heap.size 41 #[.bool false, .slice none 0 0, .bool false, .slice none 0 0] co (by rfl) (by rfl) xq2 (by rw [Z_co]; rfl) (by rw [Z_co]; kernel_rfl) O_co ?_
  (try simp only [Act.put])
  clear xq1 xq2
  generalize (((w2.alloc (.cells #[.bool false, .slice none 0 0, .bool false, .slice none 0 0] 41)).alloc (.cells #[.bool false, .slice none 0 0, .bool false, .slice none 0 0] 41)).setCells w2.heap.size 0 cz.toList).setCells (w2.alloc (.cells #[.bool false, .slice none 0 0, .bool false, .slice none 0 0] 41)).heap.size 0 co.toList = w3 at *
  generalize (w2.alloc (.cells #[.bool false, .slice none 0 0, .bool false, .slice none 0 0] 41)).heap.size = Y3 at *
  generalize w2.heap.size = X3 at *
  have E3 := Lib.hid (show Ext w2 w3 from xq3)
  have FV5 := Lib.hid xq4
  have FV6 := Lib.hid xq5
  clear xq3 xq4 xq5
  have E4 := (E1.out.trans (E2.out.trans E3.out))
  have HST := Lib.hid (show QbSt L X w.heap.size X3 Y3 R0 R1 cp cz co A0 A1 B0 B1 C0 C1 wX w3 (lower C0 A0) (lower C1 A1) (upper C0 A0) (upper C1 A1) from ⟨kb2.out.ext E4, (FP.out.ext (E1.out.trans (E2.out.trans E3.out))), (FZ.out.ext (E2.out.trans E3.out)), (FO.out.ext E3.out), (Fbx0.out.ext (E1.out.trans (E2.out.trans E3.out))), FV5.out, FV6.out, (FR0.out.ext (E1.out.trans (E2.out.trans E3.out))), (FR1.out.ext (E1.out.trans (E2.out.trans E3.out))), TT2.out.trans (Turn.of_ext E4), nbx0_X, Nat.ne_of_gt hv5, Nat.ne_of_gt hv6, nR0_X, nR1_X⟩)
  clear FP FZ FO Fbx0 FV5 FV6 FR0 FR1 kb2 TT2 E4 hv5 hv6
  generalize X3 = V5 at *
  generalize Y3 = V6 at *
  go_wp2_with fail
  go_loopg [19] 2 (fun g i wr => (g = 2 ∧ i = .int .i64 0 ∧ QbSt L X w.heap.size V5 V6 R0 R1 cp cz co A0 A1 B0 B1 C0 C1 wX wr (lower C0 A0) (lower C1 A1) (upper C0 A0) (upper C1 A1)) ∨ (g = 1 ∧ i = .int .i64 1 ∧ QbSt L X w.heap.size V5 V6 R0 R1 cp cz co A0 A1 B0 B1 C0 C1 wX wr (quadLo A0 B0 C0) (lower C1 A1) (quadHi A0 B0 C0) (upper C1 A1)) ∨ (g = 0 ∧ i = .int .i64 2 ∧ QbSt L X w.heap.size V5 V6 R0 R1 cp cz co A0 A1 B0 B1 C0 C1 wX wr (quadLo A0 B0 C0) (quadLo A1 B1 C1) (quadHi A0 B0 C0) (quadHi A1 B1 C1)))
  case atStart => exact Or.inl ⟨rfl, rfl, HST.out⟩
  case round =>
    clear HST
    rcases hrel with ⟨rfl, rfl, hst⟩ | ⟨rfl, rfl, hst⟩ | ⟨rfl, rfl, hst⟩
    · have HST := Lib.hid hst
      clear hst
      have ZZ := HST.out.Z.size
      have ZO := HST.out.O.size
      have rz := rlI 0 (by decide)
      have ro := rlI 1 (by decide)
      have rfa := Nm.rl_sub A0 B0
      have rfc := Nm.rl_sub C0 B0
      have rde := Nm.rl_add (A0 - B0) (C0 - B0)
      have rto := Nm.rl_div (A0 - B0) ((A0 - B0) + (C0 - B0))
      have rlo := rl_lower (q := C0) (l := A0) (L := L) (by omega) (by omega)
      have rhi := rl_upper (q := C0) (l := A0) (L := L) (by omega) (by omega)
      have rev := rl_quadV3 (a := A0) (b := B0) (c := C0) (t := ((A0 - B0) / ((A0 - B0) + (C0 - B0)))) (L := 6 * L + 8) (by omega) (by omega) (by omega) (by omega)
      have FP := Lib.hid HST.out.P
      have FZ := Lib.hid HST.out.Z
      have FO := Lib.hid HST.out.O
      have Fbx0 := Lib.hid HST.out.kp
      have FV5 := Lib.hid HST.out.kz
      have FV6 := Lib.hid HST.out.ko
      go_upto_region 8 with fail
      go_cut [8] (fun s wx => ∃ (X8 : Nat) (c8 : Array Value), s = .pointer (some ⟨X8, 0, none⟩) ∧ NIs wx c8 (A0 - B0) ∧ Blk wx X8 41 c8 ∧ Ext wr wx)
      case first =>
        refine wp_region_held_drew (S := fun x => Ext wr x) (by kernel_rfl) (Ext.refl _).drew (fun _ => ?_)
        have E1 := Lib.hid (show Ext wr wr.drew from (Ext.refl _).drew)
        refine md_val (i := 0) (v := ?vm3) (listed' := #[true, false, false, false, false, false, false, false, false, false, false]) (by rfl) (by kernel_rfl) (by kernel_rfl) (by kernel_rfl) (by intro _ _ _ h; exact h) (by rfl) ?hm3 E1.out (by kernel_rfl) ?rm3
        case hm3 => (intro w hSw; (try dsimp only at hSw); go_simp <;> with_reducible rfl)
        (try simp only [Act.put, sIT, sC0, sCS])
        refine md_val (i := 1) (v := ?vm4) (listed' := #[true, true, false, false, false, false, false, false, false, false, false]) (by rfl) (by kernel_rfl) (by kernel_rfl) (by kernel_rfl) (by intro _ _ _ h; exact h) (by rfl) ?hm4 E1.out (by kernel_rfl) ?rm4
        case hm4 => (intro w hSw; (try dsimp only at hSw); go_simp <;> with_reducible rfl)
        (try simp only [Act.put, sIT, sC0, sCS])
        refine md_val (i := 2) (v := ?vm5) (listed' := #[true, true, true, false, false, false, false, false, false, false, false]) (by rfl) (by kernel_rfl) (by kernel_rfl) (by kernel_rfl) (by intro _ _ _ h; exact h) (by rfl) ?hm5 E1.out (by kernel_rfl) ?rm5
        case hm5 => (intro w hSw; (try dsimp only at hSw); go_simp <;> with_reducible rfl)
        (try simp only [Act.put, sIT, sC0, sCS])
        refine md_part (i := 3) (listed' := #[true, true, true, true, false, false, false, false, false, false, false]) (by rfl) (by kernel_rfl) (by kernel_rfl) (by kernel_rfl) _ _ (by rfl) w.heap.size 0 4 _ cp _ (by intro _ _ _ h; exact h) (by rfl) (by rfl) (fun x hx => (Fbx0.out).ext hx) Try.underlying41 (by rfl) (by kernel_rfl) (by rw [show (cp : Array Value).size = 24 from ZP]; omega) E1.out (by kernel_rfl) ?_
        (try simp only [Act.put, sIT, sC0, sCS])
        refine md_val (i := 4) (v := ?vm6) (listed' := #[true, true, true, true, true, false, false, false, false, false, false]) (by rfl) (by kernel_rfl) (by kernel_rfl) (by kernel_rfl) (by intro _ _ _ h; exact h) (by rfl) ?hm6 E1.out (by kernel_rfl) ?rm6
        case hm6 => (intro w hSw; (try dsimp only at hSw); go_simp <;> with_reducible rfl)
        (try simp only [Act.put, sIT, sC0, sCS])
        refine md_val (i := 5) (v := ?vm7) (listed' := #[true, true, true, true, true, true, false, false, false, false, false]) (by rfl) (by kernel_rfl) (by kernel_rfl) (by kernel_rfl) (by intro _ _ _ h; exact h) (by rfl) ?hm7 E1.out (by kernel_rfl) ?rm7
        case hm7 => (intro w hSw; (try dsimp only at hSw); go_simp <;> with_reducible rfl)
        (try simp only [Act.put, sIT, sC0, sCS])
        refine md_val (i := 6) (v := ?vm8) (listed' := #[true, true, true, true, true, true, true, false, false, false, false]) (by rfl) (by kernel_rfl) (by kernel_rfl) (by kernel_rfl) (by intro _ _ _ h; exact h) (by rfl) ?hm8 E1.out (by kernel_rfl) ?rm8
        case hm8 => (intro w hSw; (try dsimp only at hSw); go_simp <;> with_reducible rfl)
        (try simp only [Act.put, sIT, sC0, sCS])
        refine md_part (i := 7) (listed' := #[true, true, true, true, true, true, true, true, false, false, false]) (by rfl) (by kernel_rfl) (by kernel_rfl) (by kernel_rfl) _ _ (by rfl) w.heap.size 8 4 _ cp _ (by intro _ _ _ h; exact h) (by rfl) (by rfl) (fun x hx => (Fbx0.out).ext hx) Try.underlying41 (by rfl) (by kernel_rfl) (by rw [show (cp : Array Value).size = 24 from ZP]; omega) E1.out (by kernel_rfl) ?_
        (try simp only [Act.put, sIT, sC0, sCS])
        refine md_call_or (i := 8) (j := 9) (listed' := #[true, true, true, true, true, true, true, true, true, false, false]) (lj := #[true, true, true, true, true, true, true, true, false, true, false]) (u := .pointer (some ⟨wr.drew.heap.size, 0, none⟩)) (wj := (wr.drew.alloc (.cells #[.bool false, .slice none 0 0, .bool false, .slice none 0 0] 41))) (by rfl) (by rfl) (by kernel_rfl) (by rfl) (by go_simp) (pSub (L := L) (FP.out.ext E1.out).e0 (FP.out.ext E1.out).e2 (by omega)) (by kernel_rfl) (by rfl) (by go_simp) (E1.out.alloc _) (by kernel_rfl) ?_ ?_
        · rintro e w2 ⟨cf, rfl, hc, hx⟩
          have E2 := Lib.hid (show Ext wr.drew w2 from hx)
          have FFA := Lib.hid hc
          have Z_cf := hc.size
          have O_cf := hc.one
          clear hc
          clear hx
          refine ⟨_, rfl, (E1.out.trans E2.out), ?_⟩
          (try simp only [Act.put, sIT, sC0, sCS])
          refine md_one (i := 9) (listed' := #[true, true, true, true, true, true, true, true, true, true, false]) (v := .pointer (some ⟨w2.heap.size, 0, none⟩)) (w' := (w2.alloc (.cells #[.bool false, .slice none 0 0, .bool false, .slice none 0 0] 41))) (by rfl) (by kernel_rfl) (by rfl) (by go_simp) ((E1.out.trans E2.out).alloc _) (by kernel_rfl) ?_
          (try simp only [Act.put, sIT, sC0, sCS])
          have E3 := Lib.hid (show Ext w2 (w2.alloc (.cells #[.bool false, .slice none 0 0, .bool false, .slice none 0 0] 41)) from (Ext.refl _).alloc _)
          have Fnb9 := Lib.hid (Blk.new w2 41 #[.bool false, .slice none 0 0, .bool false, .slice none 0 0])
          have hbx := Fnb9.out
          have ob := Own.setCells (w2.alloc (.cells #[.bool false, .slice none 0 0, .bool false, .slice none 0 0] 41)) w2.heap.size cf
          have hgb : wr.heap.size ≤ w2.heap.size := (E1.out.trans E2.out).size
          have hS8 : Ext wr ((w2.alloc (.cells #[.bool false, .slice none 0 0, .bool false, .slice none 0 0] 41)).setCells w2.heap.size 0 (cf : Array Value).toList) := ob.ext (E1.out.trans (E2.out.trans E3.out)) hgb
          refine md_store (i := 10) (listed' := #[true, true, true, true, true, true, true, true, true, true, true]) (by rfl) (by kernel_rfl) (by rfl) _ _ _ (by rfl) w2.heap.size 41 #[.bool false, .slice none 0 0, .bool false, .slice none 0 0] cf (by rfl) (by rfl) hbx (by rw [show (cf : Array Value).size = 4 from Z_cf]; rfl) (by rw [show (cf : Array Value).size = 4 from Z_cf]; kernel_rfl) O_cf hS8 (by kernel_rfl) ?_
          (try simp only [Act.put])
          refine wpAnyH_done (by kernel_rfl) ?_ _
          go_wp2_with fail
          go_meet
          exact ⟨_, _, rfl, ((FFA.out.ext E3.out)).map (fun r q h => h.own hbx (noU_of _ (by simp)) ob), hbx.setCells cf (by rw [show (cf : Array Value).size = 4 from Z_cf]; rfl), hS8⟩
        · (try simp only [Act.put, sIT, sC0, sCS])
          have E2 := Lib.hid (show Ext wr.drew (wr.drew.alloc (.cells #[.bool false, .slice none 0 0, .bool false, .slice none 0 0] 41)) from (Ext.refl _).alloc _)
          have Fnb9 := Lib.hid (Blk.new wr.drew 41 #[.bool false, .slice none 0 0, .bool false, .slice none 0 0])
          refine md_call (i := 8) (listed' := #[true, true, true, true, true, true, true, true, true, true, false]) (by rfl) (by kernel_rfl) (by rfl) (by go_simp) (pSub (L := L) (FP.out.ext (E1.out.trans E2.out)).e0 (FP.out.ext (E1.out.trans E2.out)).e2 (by omega)) (by kernel_rfl) ?_
          rintro e w3 ⟨cf, rfl, hc, hx⟩
          have E3 := Lib.hid (show Ext (wr.drew.alloc (.cells #[.bool false, .slice none 0 0, .bool false, .slice none 0 0] 41)) w3 from hx)
          have FFA := Lib.hid hc
          have Z_cf := hc.size
          have O_cf := hc.one
          clear hc
          clear hx
          refine ⟨_, rfl, (E1.out.trans (E2.out.trans E3.out)), ?_⟩
          (try simp only [Act.put, sIT, sC0, sCS])
          have hbx := (Fnb9.out.ext E3.out)
          have ob := Own.setCells w3 wr.drew.heap.size cf
          have hgb : wr.heap.size ≤ wr.drew.heap.size := E1.out.size
          have hS8 : Ext wr (w3.setCells wr.drew.heap.size 0 (cf : Array Value).toList) := ob.ext (E1.out.trans (E2.out.trans E3.out)) hgb
          refine md_store (i := 10) (listed' := #[true, true, true, true, true, true, true, true, true, true, true]) (by rfl) (by kernel_rfl) (by rfl) _ _ _ (by rfl) wr.drew.heap.size 41 #[.bool false, .slice none 0 0, .bool false, .slice none 0 0] cf (by rfl) (by rfl) hbx (by rw [show (cf : Array Value).size = 4 from Z_cf]; rfl) (by rw [show (cf : Array Value).size = 4 from Z_cf]; kernel_rfl) O_cf hS8 (by kernel_rfl) ?_
          (try simp only [Act.put])
          refine wpAnyH_done (by kernel_rfl) ?_ _
          go_wp2_with fail
          go_meet
          exact ⟨_, _, rfl, (FFA.out).map (fun r q h => h.own hbx (noU_of _ (by simp)) ob), hbx.setCells cf (by rw [show (cf : Array Value).size = 4 from Z_cf]; rfl), hS8⟩
      case rest =>
        obtain ⟨X8, c8, rfl, hfa, hb8, hx⟩ := hcut
        generalize wc = wv at *
        have E1 := Lib.hid (show Ext wr wv from hx)
        have Z8 := hfa.size
        have O8 := hfa.one
        have FFA := Lib.hid hfa
        have Fb8 := Lib.hid hb8
        clear hfa hb8 hx
        by_cases hden : ((A0 - B0) + (C0 - B0)) = 0
        · go_upto_region 9 with fail
          go_cut [9, 10] (fun s e wx => ∃ X9 : Nat, s = .pointer (some ⟨X9, 0, none⟩) ∧ e = .int .i64 9 ∧ Ext wv wx)
          case first =>
            refine wp_region_held_drew (S := fun x => Ext wv x) (by kernel_rfl) (Ext.refl _).drew (fun _ => ?_)
            have E2 := Lib.hid (show Ext wv wv.drew from (Ext.refl _).drew)
            refine md_load (i := 0) (listed' := #[true, false, false, false, false, false, false, false, false, false, false, false, false, false, false, false, false, false, false]) (by rfl) (by kernel_rfl) (by kernel_rfl) (by kernel_rfl) _ _ (by rfl) X8 _ c8 _ (by intro _ _ _ h; exact h) (by rfl) (by rfl) (fun x hx => (Fb8.out).ext hx) Try.underlying41 (by rfl) (by rw [show (c8 : Array Value).size = 4 from Z8]; kernel_rfl) E2.out (by kernel_rfl) ?_
            (try simp only [Act.put, sIT, sC0, sCS])
            refine md_load (i := 1) (listed' := #[true, true, false, false, false, false, false, false, false, false, false, false, false, false, false, false, false, false, false]) (by rfl) (by kernel_rfl) (by kernel_rfl) (by kernel_rfl) _ _ (by rfl) X8 _ c8 _ (by intro _ _ _ h; exact h) (by rfl) (by rfl) (fun x hx => (Fb8.out).ext hx) Try.underlying41 (by rfl) (by rw [show (c8 : Array Value).size = 4 from Z8]; kernel_rfl) E2.out (by kernel_rfl) ?_
            (try simp only [Act.put, sIT, sC0, sCS])
            refine md_val (i := 2) (v := ?vm9) (listed' := #[true, true, true, false, false, false, false, false, false, false, false, false, false, false, false, false, false, false, false]) (by rfl) (by kernel_rfl) (by kernel_rfl) (by kernel_rfl) (by intro _ _ _ h; exact h) (by rfl) ?hm9 E2.out (by kernel_rfl) ?rm9
            case hm9 => (intro w hSw; (try dsimp only at hSw); go_simp <;> with_reducible rfl)
            (try simp only [Act.put, sIT, sC0, sCS])
            refine md_val (i := 3) (v := ?vm10) (listed' := #[true, true, true, true, false, false, false, false, false, false, false, false, false, false, false, false, false, false, false]) (by rfl) (by kernel_rfl) (by kernel_rfl) (by kernel_rfl) (by intro _ _ _ h; exact h) (by rfl) ?hm10 E2.out (by kernel_rfl) ?rm10
            case hm10 => (intro w hSw; (try dsimp only at hSw); go_simp <;> with_reducible rfl)
            (try simp only [Act.put, sIT, sC0, sCS])
            refine md_val (i := 4) (v := ?vm11) (listed' := #[true, true, true, true, true, false, false, false, false, false, false, false, false, false, false, false, false, false, false]) (by rfl) (by kernel_rfl) (by kernel_rfl) (by kernel_rfl) (by intro _ _ _ h; exact h) (by rfl) ?hm11 E2.out (by kernel_rfl) ?rm11
            case hm11 => (intro w hSw; (try dsimp only at hSw); go_simp <;> with_reducible rfl)
            (try simp only [Act.put, sIT, sC0, sCS])
            refine md_part (i := 5) (listed' := #[true, true, true, true, true, true, false, false, false, false, false, false, false, false, false, false, false, false, false]) (by rfl) (by kernel_rfl) (by kernel_rfl) (by kernel_rfl) _ _ (by rfl) w.heap.size 16 4 _ cp _ (by intro _ _ _ h; exact h) (by rfl) (by rfl) (fun x hx => ((Fbx0.out.ext E1.out)).ext hx) Try.underlying41 (by rfl) (by kernel_rfl) (by rw [show (cp : Array Value).size = 24 from ZP]; omega) E2.out (by kernel_rfl) ?_
            (try simp only [Act.put, sIT, sC0, sCS])
            refine md_val (i := 6) (v := ?vm12) (listed' := #[true, true, true, true, true, true, true, false, false, false, false, false, false, false, false, false, false, false, false]) (by rfl) (by kernel_rfl) (by kernel_rfl) (by kernel_rfl) (by intro _ _ _ h; exact h) (by rfl) ?hm12 E2.out (by kernel_rfl) ?rm12
            case hm12 => (intro w hSw; (try dsimp only at hSw); go_simp <;> with_reducible rfl)
            (try simp only [Act.put, sIT, sC0, sCS])
            refine md_val (i := 7) (v := ?vm13) (listed' := #[true, true, true, true, true, true, true, true, false, false, false, false, false, false, false, false, false, false, false]) (by rfl) (by kernel_rfl) (by kernel_rfl) (by kernel_rfl) (by intro _ _ _ h; exact h) (by rfl) ?hm13 E2.out (by kernel_rfl) ?rm13
            case hm13 => (intro w hSw; (try dsimp only at hSw); go_simp <;> with_reducible rfl)
            (try simp only [Act.put, sIT, sC0, sCS])
            refine md_val (i := 8) (v := ?vm14) (listed' := #[true, true, true, true, true, true, true, true, true, false, false, false, false, false, false, false, false, false, false]) (by rfl) (by kernel_rfl) (by kernel_rfl) (by kernel_rfl) (by intro _ _ _ h; exact h) (by rfl) ?hm14 E2.out (by kernel_rfl) ?rm14
            case hm14 => (intro w hSw; (try dsimp only at hSw); go_simp <;> with_reducible rfl)
            (try simp only [Act.put, sIT, sC0, sCS])
            refine md_part (i := 9) (listed' := #[true, true, true, true, true, true, true, true, true, true, false, false, false, false, false, false, false, false, false]) (by rfl) (by kernel_rfl) (by kernel_rfl) (by kernel_rfl) _ _ (by rfl) w.heap.size 8 4 _ cp _ (by intro _ _ _ h; exact h) (by rfl) (by rfl) (fun x hx => ((Fbx0.out.ext E1.out)).ext hx) Try.underlying41 (by rfl) (by kernel_rfl) (by rw [show (cp : Array Value).size = 24 from ZP]; omega) E2.out (by kernel_rfl) ?_
            (try simp only [Act.put, sIT, sC0, sCS])
            refine md_call_or (i := 10) (j := 16) (listed' := #[true, true, true, true, true, true, true, true, true, true, true, false, false, false, false, false, false, false, false]) (lj := #[true, true, true, true, true, true, true, true, true, true, false, false, false, false, false, false, true, false, false]) (u := .pointer (some ⟨wv.drew.heap.size, 0, none⟩)) (wj := (wv.drew.alloc (.cells #[.bool false, .slice none 0 0, .bool false, .slice none 0 0] 41))) (by rfl) (by rfl) (by kernel_rfl) (by rfl) (by go_simp) (pSub (L := L) (FP.out.ext (E1.out.trans E2.out)).e4 (FP.out.ext (E1.out.trans E2.out)).e2 (by omega)) (by kernel_rfl) (by rfl) (by go_simp) (E2.out.alloc _) (by kernel_rfl) ?_ ?_
            · rintro e w3 ⟨cg, rfl, hc, hx⟩
              have E3 := Lib.hid (show Ext wv.drew w3 from hx)
              have FFC := Lib.hid hc
              have Z_cg := hc.size
              have O_cg := hc.one
              clear hc
              clear hx
              refine ⟨_, rfl, (E2.out.trans E3.out), ?_⟩
              (try simp only [Act.put, sIT, sC0, sCS])
              refine md_call_or (i := 11) (j := 16) (listed' := #[true, true, true, true, true, true, true, true, true, true, true, true, false, false, false, false, false, false, false]) (lj := #[true, true, true, true, true, true, true, true, true, true, true, false, false, false, false, false, true, false, false]) (u := .pointer (some ⟨w3.heap.size, 0, none⟩)) (wj := (w3.alloc (.cells #[.bool false, .slice none 0 0, .bool false, .slice none 0 0] 41))) (by rfl) (by rfl) (by kernel_rfl) (by rfl) (by go_simp) (pAdd (L := 2 * L + 1) ((FFA.out.ext (E2.out.trans E3.out)).isIn (by omega)) (FFC.out.isIn (by omega)) (by omega)) (by kernel_rfl) (by rfl) (by go_simp) ((E2.out.trans E3.out).alloc _) (by kernel_rfl) ?_ ?_
              · rintro e w4 ⟨ch, rfl, hc, hx⟩
                have E4 := Lib.hid (show Ext w3 w4 from hx)
                have FDE := Lib.hid hc
                have Z_ch := hc.size
                have O_ch := hc.one
                clear hc
                clear hx
                refine ⟨_, rfl, (E2.out.trans (E3.out.trans E4.out)), ?_⟩
                (try simp only [Act.put, sIT, sC0, sCS])
                refine md_call_or (i := 12) (j := 16) (listed' := #[true, true, true, true, true, true, true, true, true, true, true, true, true, false, false, false, false, false, false]) (lj := #[true, true, true, true, true, true, true, true, true, true, true, true, false, false, false, false, true, false, false]) (u := .pointer (some ⟨w4.heap.size, 0, none⟩)) (wj := (w4.alloc (.cells #[.bool false, .slice none 0 0, .bool false, .slice none 0 0] 41))) (by rfl) (by rfl) (by kernel_rfl) (by rfl) (by go_simp) (pQuo0 (L := 6 * L + 8) ((FFA.out.ext (E2.out.trans (E3.out.trans E4.out))).isIn (by omega)) (FDE.out.isIn (by omega)) (by omega) hden) (by kernel_rfl) (by rfl) (by go_simp) ((E2.out.trans (E3.out.trans E4.out)).alloc _) (by kernel_rfl) ?_ ?_
                · rintro e w5 ⟨rfl, hx⟩
                  have E5 := Lib.hid (show Ext w4 w5 from hx)
                  clear hx
                  refine ⟨_, rfl, (E2.out.trans (E3.out.trans (E4.out.trans E5.out))), ?_⟩
                  (try simp only [Act.put, sIT, sC0, sCS])
                  refine md_val (i := 13) (v := ?vm15) (listed' := #[true, true, true, true, true, true, true, true, true, true, true, true, true, true, false, false, false, false, false]) (by rfl) (by kernel_rfl) (by kernel_rfl) (by kernel_rfl) (by intro _ _ _ h; exact h) (by rfl) ?hm15 (E2.out.trans (E3.out.trans (E4.out.trans E5.out))) (by kernel_rfl) ?rm15
                  case hm15 => (intro w hSw; (try dsimp only at hSw); go_simp <;> with_reducible rfl)
                  (try simp only [Act.put, sIT, sC0, sCS])
                  refine md_val (i := 14) (v := ?vm16) (listed' := #[true, true, true, true, true, true, true, true, true, true, true, true, true, true, true, false, false, false, false]) (by rfl) (by kernel_rfl) (by kernel_rfl) (by kernel_rfl) (by intro _ _ _ h; exact h) (by rfl) ?hm16 (E2.out.trans (E3.out.trans (E4.out.trans E5.out))) (by kernel_rfl) ?rm16
                  case hm16 => (intro w hSw; (try dsimp only at hSw); go_simp <;> with_reducible rfl)
                  (try simp only [Act.put, sIT, sC0, sCS])
                  refine md_val (i := 15) (v := ?vm17) (listed' := #[true, true, true, true, true, true, true, true, true, true, true, true, true, true, true, true, false, false, false]) (by rfl) (by kernel_rfl) (by kernel_rfl) (by kernel_rfl) (by intro _ _ _ h; exact h) (by rfl) ?hm17 (E2.out.trans (E3.out.trans (E4.out.trans E5.out))) (by kernel_rfl) ?rm17
                  case hm17 => (intro w hSw; (try dsimp only at hSw); go_simp <;> with_reducible rfl)
                  (try simp only [Act.put, sIT, sC0, sCS])
                  refine md_one (i := 16) (listed' := #[true, true, true, true, true, true, true, true, true, true, true, true, true, true, true, true, true, false, false]) (v := .pointer (some ⟨w5.heap.size, 0, none⟩)) (w' := (w5.alloc (.cells #[.bool false, .slice none 0 0, .bool false, .slice none 0 0] 41))) (by rfl) (by kernel_rfl) (by rfl) (by go_simp) ((E2.out.trans (E3.out.trans (E4.out.trans E5.out))).alloc _) (by kernel_rfl) ?_
                  (try simp only [Act.put, sIT, sC0, sCS])
                  have E6 := Lib.hid (show Ext w5 (w5.alloc (.cells #[.bool false, .slice none 0 0, .bool false, .slice none 0 0] 41)) from (Ext.refl _).alloc _)
                  have Fnb16 := Lib.hid (Blk.new w5 41 #[.bool false, .slice none 0 0, .bool false, .slice none 0 0])
                  have hbx := Fnb16.out
                  have ob := Own.setCells (w5.alloc (.cells #[.bool false, .slice none 0 0, .bool false, .slice none 0 0] 41)) w5.heap.size #[.bool false, .slice none 0 0, .bool false, .slice none 0 0]
                  have hgb : wv.heap.size ≤ w5.heap.size := (E2.out.trans (E3.out.trans (E4.out.trans E5.out))).size
                  have hS8 : Ext wv ((w5.alloc (.cells #[.bool false, .slice none 0 0, .bool false, .slice none 0 0] 41)).setCells w5.heap.size 0 (#[.bool false, .slice none 0 0, .bool false, .slice none 0 0] : Array Value).toList) := ob.ext (E2.out.trans (E3.out.trans (E4.out.trans (E5.out.trans E6.out)))) hgb
                  refine md_store (i := 17) (listed' := #[true, true, true, true, true, true, true, true, true, true, true, true, true, true, true, true, true, true, false]) (by rfl) (by kernel_rfl) (by rfl) _ _ _ (by rfl) w5.heap.size 41 #[.bool false, .slice none 0 0, .bool false, .slice none 0 0] #[.bool false, .slice none 0 0, .bool false, .slice none 0 0] (by rfl) (by rfl) hbx rfl (by kernel_rfl) (all_oneCell_toArray (by simp [Value.oneCell'])) hS8 (by kernel_rfl) ?_
                  (try simp only [Act.put])
                  refine md_val (i := 18) (v := ?vm18) (listed' := #[true, true, true, true, true, true, true, true, true, true, true, true, true, true, true, true, true, true, true]) (by rfl) (by kernel_rfl) (by kernel_rfl) (by kernel_rfl) (by intro _ _ _ h; exact h) (by rfl) ?hm18 hS8 (by kernel_rfl) ?rm18
                  case hm18 => (intro w hSw; (try dsimp only at hSw); go_simp <;> with_reducible rfl)
                  (try simp only [Act.put])
                  refine wpAnyH_done (by kernel_rfl) ?_ _
                  go_wp2_with fail
                  go_meet
                  exact ⟨_, rfl, rfl, hS8⟩
                · (try simp only [Act.put, sIT, sC0, sCS])
                  have E5 := Lib.hid (show Ext w4 (w4.alloc (.cells #[.bool false, .slice none 0 0, .bool false, .slice none 0 0] 41)) from (Ext.refl _).alloc _)
                  have Fnb16 := Lib.hid (Blk.new w4 41 #[.bool false, .slice none 0 0, .bool false, .slice none 0 0])
                  refine md_call (i := 12) (listed' := #[true, true, true, true, true, true, true, true, true, true, true, true, true, false, false, false, true, false, false]) (by rfl) (by kernel_rfl) (by rfl) (by go_simp) (pQuo0 (L := 6 * L + 8) ((FFA.out.ext (E2.out.trans (E3.out.trans (E4.out.trans E5.out)))).isIn (by omega)) ((FDE.out.ext E5.out).isIn (by omega)) (by omega) hden) (by kernel_rfl) ?_
                  rintro e w6 ⟨rfl, hx⟩
                  have E6 := Lib.hid (show Ext (w4.alloc (.cells #[.bool false, .slice none 0 0, .bool false, .slice none 0 0] 41)) w6 from hx)
                  clear hx
                  refine ⟨_, rfl, (E2.out.trans (E3.out.trans (E4.out.trans (E5.out.trans E6.out)))), ?_⟩
                  (try simp only [Act.put, sIT, sC0, sCS])
                  refine md_val (i := 13) (v := ?vm19) (listed' := #[true, true, true, true, true, true, true, true, true, true, true, true, true, true, false, false, true, false, false]) (by rfl) (by kernel_rfl) (by kernel_rfl) (by kernel_rfl) (by intro _ _ _ h; exact h) (by rfl) ?hm19 (E2.out.trans (E3.out.trans (E4.out.trans (E5.out.trans E6.out)))) (by kernel_rfl) ?rm19
                  case hm19 => (intro w hSw; (try dsimp only at hSw); go_simp <;> with_reducible rfl)
                  (try simp only [Act.put, sIT, sC0, sCS])
                  refine md_val (i := 14) (v := ?vm20) (listed' := #[true, true, true, true, true, true, true, true, true, true, true, true, true, true, true, false, true, false, false]) (by rfl) (by kernel_rfl) (by kernel_rfl) (by kernel_rfl) (by intro _ _ _ h; exact h) (by rfl) ?hm20 (E2.out.trans (E3.out.trans (E4.out.trans (E5.out.trans E6.out)))) (by kernel_rfl) ?rm20
                  case hm20 => (intro w hSw; (try dsimp only at hSw); go_simp <;> with_reducible rfl)
                  (try simp only [Act.put, sIT, sC0, sCS])
                  refine md_val (i := 15) (v := ?vm21) (listed' := #[true, true, true, true, true, true, true, true, true, true, true, true, true, true, true, true, true, false, false]) (by rfl) (by kernel_rfl) (by kernel_rfl) (by kernel_rfl) (by intro _ _ _ h; exact h) (by rfl) ?hm21 (E2.out.trans (E3.out.trans (E4.out.trans (E5.out.trans E6.out)))) (by kernel_rfl) ?rm21
                  case hm21 => (intro w hSw; (try dsimp only at hSw); go_simp <;> with_reducible rfl)
                  (try simp only [Act.put, sIT, sC0, sCS])
                  have hbx := (Fnb16.out.ext E6.out)
                  have ob := Own.setCells w6 w4.heap.size #[.bool false, .slice none 0 0, .bool false, .slice none 0 0]
                  have hgb : wv.heap.size ≤ w4.heap.size := (E2.out.trans (E3.out.trans E4.out)).size
                  have hS8 : Ext wv (w6.setCells w4.heap.size 0 (#[.bool false, .slice none 0 0, .bool false, .slice none 0 0] : Array Value).toList) := ob.ext (E2.out.trans (E3.out.trans (E4.out.trans (E5.out.trans E6.out)))) hgb
                  refine md_store (i := 17) (listed' := #[true, true, true, true, true, true, true, true, true, true, true, true, true, true, true, true, true, true, false]) (by rfl) (by kernel_rfl) (by rfl) _ _ _ (by rfl) w4.heap.size 41 #[.bool false, .slice none 0 0, .bool false, .slice none 0 0] #[.bool false, .slice none 0 0, .bool false, .slice none 0 0] (by rfl) (by rfl) hbx rfl (by kernel_rfl) (all_oneCell_toArray (by simp [Value.oneCell'])) hS8 (by kernel_rfl) ?_
                  (try simp only [Act.put])
                  refine md_val (i := 18) (v := ?vm22) (listed' := #[true, true, true, true, true, true, true, true, true, true, true, true, true, true, true, true, true, true, true]) (by rfl) (by kernel_rfl) (by kernel_rfl) (by kernel_rfl) (by intro _ _ _ h; exact h) (by rfl) ?hm22 hS8 (by kernel_rfl) ?rm22
                  case hm22 => (intro w hSw; (try dsimp only at hSw); go_simp <;> with_reducible rfl)
                  (try simp only [Act.put])
                  refine wpAnyH_done (by kernel_rfl) ?_ _
                  go_wp2_with fail
                  go_meet
                  exact ⟨_, rfl, rfl, hS8⟩
              · (try simp only [Act.put, sIT, sC0, sCS])
                have E4 := Lib.hid (show Ext w3 (w3.alloc (.cells #[.bool false, .slice none 0 0, .bool false, .slice none 0 0] 41)) from (Ext.refl _).alloc _)
                have Fnb16 := Lib.hid (Blk.new w3 41 #[.bool false, .slice none 0 0, .bool false, .slice none 0 0])
                refine md_call (i := 11) (listed' := #[true, true, true, true, true, true, true, true, true, true, true, true, false, false, false, false, true, false, false]) (by rfl) (by kernel_rfl) (by rfl) (by go_simp) (pAdd (L := 2 * L + 1) ((FFA.out.ext (E2.out.trans (E3.out.trans E4.out))).isIn (by omega)) ((FFC.out.ext E4.out).isIn (by omega)) (by omega)) (by kernel_rfl) ?_
                rintro e w5 ⟨ch, rfl, hc, hx⟩
                have E5 := Lib.hid (show Ext (w3.alloc (.cells #[.bool false, .slice none 0 0, .bool false, .slice none 0 0] 41)) w5 from hx)
                have FDE := Lib.hid hc
                have Z_ch := hc.size
                have O_ch := hc.one
                clear hc
                clear hx
                refine ⟨_, rfl, (E2.out.trans (E3.out.trans (E4.out.trans E5.out))), ?_⟩
                (try simp only [Act.put, sIT, sC0, sCS])
                refine md_call (i := 12) (listed' := #[true, true, true, true, true, true, true, true, true, true, true, true, true, false, false, false, true, false, false]) (by rfl) (by kernel_rfl) (by rfl) (by go_simp) (pQuo0 (L := 6 * L + 8) ((FFA.out.ext (E2.out.trans (E3.out.trans (E4.out.trans E5.out)))).isIn (by omega)) (FDE.out.isIn (by omega)) (by omega) hden) (by kernel_rfl) ?_
                rintro e w6 ⟨rfl, hx⟩
                have E6 := Lib.hid (show Ext w5 w6 from hx)
                clear hx
                refine ⟨_, rfl, (E2.out.trans (E3.out.trans (E4.out.trans (E5.out.trans E6.out)))), ?_⟩
                (try simp only [Act.put, sIT, sC0, sCS])
                refine md_val (i := 13) (v := ?vm23) (listed' := #[true, true, true, true, true, true, true, true, true, true, true, true, true, true, false, false, true, false, false]) (by rfl) (by kernel_rfl) (by kernel_rfl) (by kernel_rfl) (by intro _ _ _ h; exact h) (by rfl) ?hm23 (E2.out.trans (E3.out.trans (E4.out.trans (E5.out.trans E6.out)))) (by kernel_rfl) ?rm23
                case hm23 => (intro w hSw; (try dsimp only at hSw); go_simp <;> with_reducible rfl)
                (try simp only [Act.put, sIT, sC0, sCS])
                refine md_val (i := 14) (v := ?vm24) (listed' := #[true, true, true, true, true, true, true, true, true, true, true, true, true, true, true, false, true, false, false]) (by rfl) (by kernel_rfl) (by kernel_rfl) (by kernel_rfl) (by intro _ _ _ h; exact h) (by rfl) ?hm24 (E2.out.trans (E3.out.trans (E4.out.trans (E5.out.trans E6.out)))) (by kernel_rfl) ?rm24
                case hm24 => (intro w hSw; (try dsimp only at hSw); go_simp <;> with_reducible rfl)
                (try simp only [Act.put, sIT, sC0, sCS])
                refine md_val (i := 15) (v := ?vm25) (listed' := #[true, true, true, true, true, true, true, true, true, true, true, true, true, true, true, true, true, false, false]) (by rfl) (by kernel_rfl) (by kernel_rfl) (by kernel_rfl) (by intro _ _ _ h; exact h) (by rfl) ?hm25 (E2.out.trans (E3.out.trans (E4.out.trans (E5.out.trans E6.out)))) (by kernel_rfl) ?rm25
                case hm25 => (intro w hSw; (try dsimp only at hSw); go_simp <;> with_reducible rfl)
                (try simp only [Act.put, sIT, sC0, sCS])
                have hbx := (Fnb16.out.ext (E5.out.trans E6.out))
                have ob := Own.setCells w6 w3.heap.size #[.bool false, .slice none 0 0, .bool false, .slice none 0 0]
                have hgb : wv.heap.size ≤ w3.heap.size := (E2.out.trans E3.out).size
                have hS8 : Ext wv (w6.setCells w3.heap.size 0 (#[.bool false, .slice none 0 0, .bool false, .slice none 0 0] : Array Value).toList) := ob.ext (E2.out.trans (E3.out.trans (E4.out.trans (E5.out.trans E6.out)))) hgb
                refine md_store (i := 17) (listed' := #[true, true, true, true, true, true, true, true, true, true, true, true, true, true, true, true, true, true, false]) (by rfl) (by kernel_rfl) (by rfl) _ _ _ (by rfl) w3.heap.size 41 #[.bool false, .slice none 0 0, .bool false, .slice none 0 0] #[.bool false, .slice none 0 0, .bool false, .slice none 0 0] (by rfl) (by rfl) hbx rfl (by kernel_rfl) (all_oneCell_toArray (by simp [Value.oneCell'])) hS8 (by kernel_rfl) ?_
                (try simp only [Act.put])
                refine md_val (i := 18) (v := ?vm26) (listed' := #[true, true, true, true, true, true, true, true, true, true, true, true, true, true, true, true, true, true, true]) (by rfl) (by kernel_rfl) (by kernel_rfl) (by kernel_rfl) (by intro _ _ _ h; exact h) (by rfl) ?hm26 hS8 (by kernel_rfl) ?rm26
                case hm26 => (intro w hSw; (try dsimp only at hSw); go_simp <;> with_reducible rfl)
                (try simp only [Act.put])
                refine wpAnyH_done (by kernel_rfl) ?_ _
                go_wp2_with fail
                go_meet
                exact ⟨_, rfl, rfl, hS8⟩
            · (try simp only [Act.put, sIT, sC0, sCS])
              have E3 := Lib.hid (show Ext wv.drew (wv.drew.alloc (.cells #[.bool false, .slice none 0 0, .bool false, .slice none 0 0] 41)) from (Ext.refl _).alloc _)
              have Fnb16 := Lib.hid (Blk.new wv.drew 41 #[.bool false, .slice none 0 0, .bool false, .slice none 0 0])
              refine md_call (i := 10) (listed' := #[true, true, true, true, true, true, true, true, true, true, true, false, false, false, false, false, true, false, false]) (by rfl) (by kernel_rfl) (by rfl) (by go_simp) (pSub (L := L) (FP.out.ext (E1.out.trans (E2.out.trans E3.out))).e4 (FP.out.ext (E1.out.trans (E2.out.trans E3.out))).e2 (by omega)) (by kernel_rfl) ?_
              rintro e w4 ⟨cg, rfl, hc, hx⟩
              have E4 := Lib.hid (show Ext (wv.drew.alloc (.cells #[.bool false, .slice none 0 0, .bool false, .slice none 0 0] 41)) w4 from hx)
              have FFC := Lib.hid hc
              have Z_cg := hc.size
              have O_cg := hc.one
              clear hc
              clear hx
              refine ⟨_, rfl, (E2.out.trans (E3.out.trans E4.out)), ?_⟩
              (try simp only [Act.put, sIT, sC0, sCS])
              refine md_call (i := 11) (listed' := #[true, true, true, true, true, true, true, true, true, true, true, true, false, false, false, false, true, false, false]) (by rfl) (by kernel_rfl) (by rfl) (by go_simp) (pAdd (L := 2 * L + 1) ((FFA.out.ext (E2.out.trans (E3.out.trans E4.out))).isIn (by omega)) (FFC.out.isIn (by omega)) (by omega)) (by kernel_rfl) ?_
              rintro e w5 ⟨ch, rfl, hc, hx⟩
              have E5 := Lib.hid (show Ext w4 w5 from hx)
              have FDE := Lib.hid hc
              have Z_ch := hc.size
              have O_ch := hc.one
              clear hc
              clear hx
              refine ⟨_, rfl, (E2.out.trans (E3.out.trans (E4.out.trans E5.out))), ?_⟩
              (try simp only [Act.put, sIT, sC0, sCS])
              refine md_call (i := 12) (listed' := #[true, true, true, true, true, true, true, true, true, true, true, true, true, false, false, false, true, false, false]) (by rfl) (by kernel_rfl) (by rfl) (by go_simp) (pQuo0 (L := 6 * L + 8) ((FFA.out.ext (E2.out.trans (E3.out.trans (E4.out.trans E5.out)))).isIn (by omega)) (FDE.out.isIn (by omega)) (by omega) hden) (by kernel_rfl) ?_
              rintro e w6 ⟨rfl, hx⟩
              have E6 := Lib.hid (show Ext w5 w6 from hx)
              clear hx
              refine ⟨_, rfl, (E2.out.trans (E3.out.trans (E4.out.trans (E5.out.trans E6.out)))), ?_⟩
              (try simp only [Act.put, sIT, sC0, sCS])
              refine md_val (i := 13) (v := ?vm27) (listed' := #[true, true, true, true, true, true, true, true, true, true, true, true, true, true, false, false, true, false, false]) (by rfl) (by kernel_rfl) (by kernel_rfl) (by kernel_rfl) (by intro _ _ _ h; exact h) (by rfl) ?hm27 (E2.out.trans (E3.out.trans (E4.out.trans (E5.out.trans E6.out)))) (by kernel_rfl) ?rm27
              case hm27 => (intro w hSw; (try dsimp only at hSw); go_simp <;> with_reducible rfl)
              (try simp only [Act.put, sIT, sC0, sCS])
              refine md_val (i := 14) (v := ?vm28) (listed' := #[true, true, true, true, true, true, true, true, true, true, true, true, true, true, true, false, true, false, false]) (by rfl) (by kernel_rfl) (by kernel_rfl) (by kernel_rfl) (by intro _ _ _ h; exact h) (by rfl) ?hm28 (E2.out.trans (E3.out.trans (E4.out.trans (E5.out.trans E6.out)))) (by kernel_rfl) ?rm28
              case hm28 => (intro w hSw; (try dsimp only at hSw); go_simp <;> with_reducible rfl)
              (try simp only [Act.put, sIT, sC0, sCS])
              refine md_val (i := 15) (v := ?vm29) (listed' := #[true, true, true, true, true, true, true, true, true, true, true, true, true, true, true, true, true, false, false]) (by rfl) (by kernel_rfl) (by kernel_rfl) (by kernel_rfl) (by intro _ _ _ h; exact h) (by rfl) ?hm29 (E2.out.trans (E3.out.trans (E4.out.trans (E5.out.trans E6.out)))) (by kernel_rfl) ?rm29
              case hm29 => (intro w hSw; (try dsimp only at hSw); go_simp <;> with_reducible rfl)
              (try simp only [Act.put, sIT, sC0, sCS])
              have hbx := (Fnb16.out.ext (E4.out.trans (E5.out.trans E6.out)))
              have ob := Own.setCells w6 wv.drew.heap.size #[.bool false, .slice none 0 0, .bool false, .slice none 0 0]
              have hgb : wv.heap.size ≤ wv.drew.heap.size := E2.out.size
              have hS8 : Ext wv (w6.setCells wv.drew.heap.size 0 (#[.bool false, .slice none 0 0, .bool false, .slice none 0 0] : Array Value).toList) := ob.ext (E2.out.trans (E3.out.trans (E4.out.trans (E5.out.trans E6.out)))) hgb
              refine md_store (i := 17) (listed' := #[true, true, true, true, true, true, true, true, true, true, true, true, true, true, true, true, true, true, false]) (by rfl) (by kernel_rfl) (by rfl) _ _ _ (by rfl) wv.drew.heap.size 41 #[.bool false, .slice none 0 0, .bool false, .slice none 0 0] #[.bool false, .slice none 0 0, .bool false, .slice none 0 0] (by rfl) (by rfl) hbx rfl (by kernel_rfl) (all_oneCell_toArray (by simp [Value.oneCell'])) hS8 (by kernel_rfl) ?_
              (try simp only [Act.put])
              refine md_val (i := 18) (v := ?vm30) (listed' := #[true, true, true, true, true, true, true, true, true, true, true, true, true, true, true, true, true, true, true]) (by rfl) (by kernel_rfl) (by kernel_rfl) (by kernel_rfl) (by intro _ _ _ h; exact h) (by rfl) ?hm30 hS8 (by kernel_rfl) ?rm30
              case hm30 => (intro w hSw; (try dsimp only at hSw); go_simp <;> with_reducible rfl)
              (try simp only [Act.put])
              refine wpAnyH_done (by kernel_rfl) ?_ _
              go_wp2_with fail
              go_meet
              exact ⟨_, rfl, rfl, hS8⟩
          case rest =>
            obtain ⟨X9, rfl, rfl, hx⟩ := hcut
            have E2 := Lib.hid (show Ext wv wc from hx)
            clear hx
            go_upto_region 10 with fail
            refine wp_region_lit ?_
            refine mv_val (v := ?vm31) (w' := wc) (by rfl) ?hm31 ?rm31
            case hm31 => (go_simp <;> with_reducible rfl)
            (try simp only [Act.put, sIT, sC0, sCS])
            refine mv_val (v := ?vm33) (w' := wc) (by rfl) ?hm33 ?rm33
            case hm33 => (go_simp <;> with_reducible rfl)
            (try simp only [Act.put, sIT, sC0, sCS])
            refine mv_val (v := ?vm34) (w' := wc) (by rfl) ?hm34 ?rm34
            case hm34 => (go_simp <;> with_reducible rfl)
            (try simp only [Act.put, sIT, sC0, sCS])
            refine mv_skip (by rfl) ?_
            (try simp only [Act.put, sIT, sC0, sCS])
            refine mv_skip (by rfl) ?_
            (try simp only [Act.put, sIT, sC0, sCS])
            refine mv_skip (by rfl) ?_
            (try simp only [Act.put, sIT, sC0, sCS])
            refine mv_skip (by rfl) ?_
            (try simp only [Act.put, sIT, sC0, sCS])
            refine mv_val (v := ?vm35) (w' := wc) (by rfl) ?hm35 ?rm35
            case hm35 => (go_simp <;> with_reducible rfl)
            (try simp only [Act.put, sIT, sC0, sCS])
            refine mv_val (v := ?vm36) (w' := wc) (by rfl) ?hm36 ?rm36
            case hm36 => (go_simp <;> with_reducible rfl)
            (try simp only [Act.put, sIT, sC0, sCS])
            refine mv_skip (by rfl) ?_
            (try simp only [Act.put, sIT, sC0, sCS])
            refine mv_skip (by rfl) ?_
            (try simp only [Act.put, sIT, sC0, sCS])
            refine mv_skip (by rfl) ?_
            (try simp only [Act.put, sIT, sC0, sCS])
            refine mv_skip (by rfl) ?_
            (try simp only [Act.put, sIT, sC0, sCS])
            refine mv_val (v := ?vm37) (w' := wc) (by rfl) ?hm37 ?rm37
            case hm37 => (go_simp <;> with_reducible rfl)
            (try simp only [Act.put, sIT, sC0, sCS])
            go_wp2_with fail
            go_roundg 1
            case measure => omega
            case rel => exact Or.inr (Or.inl ⟨rfl, by go_num, (by rw [qLo_out (a := A0) (b := B0) (c := C0) (qTop_out0 hden), qHi_out (a := A0) (b := B0) (c := C0) (qTop_out0 hden)]; exact HST.out.turn (HST.out.box.ext (E1.out.trans E2.out)) (Turn.of_ext (E1.out.trans E2.out)))⟩)
        · go_upto_region 9 with fail
          go_cut [9, 10] (fun s e wx => ∃ (X9 : Nat) (c9 : Array Value), NIs wx c9 ((A0 - B0) / ((A0 - B0) + (C0 - B0))) ∧ Blk wx X9 41 c9 ∧ s = .pointer (some ⟨X9, 0, none⟩) ∧ e = .int .i64 0 ∧ Ext wv wx)
          case first =>
            refine wp_region_held_drew (S := fun x => Ext wv x) (by kernel_rfl) (Ext.refl _).drew (fun _ => ?_)
            have E2 := Lib.hid (show Ext wv wv.drew from (Ext.refl _).drew)
            refine md_load (i := 0) (listed' := #[true, false, false, false, false, false, false, false, false, false, false, false, false, false, false, false, false, false, false]) (by rfl) (by kernel_rfl) (by kernel_rfl) (by kernel_rfl) _ _ (by rfl) X8 _ c8 _ (by intro _ _ _ h; exact h) (by rfl) (by rfl) (fun x hx => (Fb8.out).ext hx) Try.underlying41 (by rfl) (by rw [show (c8 : Array Value).size = 4 from Z8]; kernel_rfl) E2.out (by kernel_rfl) ?_
            (try simp only [Act.put, sIT, sC0, sCS])
            refine md_load (i := 1) (listed' := #[true, true, false, false, false, false, false, false, false, false, false, false, false, false, false, false, false, false, false]) (by rfl) (by kernel_rfl) (by kernel_rfl) (by kernel_rfl) _ _ (by rfl) X8 _ c8 _ (by intro _ _ _ h; exact h) (by rfl) (by rfl) (fun x hx => (Fb8.out).ext hx) Try.underlying41 (by rfl) (by rw [show (c8 : Array Value).size = 4 from Z8]; kernel_rfl) E2.out (by kernel_rfl) ?_
            (try simp only [Act.put, sIT, sC0, sCS])
            refine md_val (i := 2) (v := ?vm38) (listed' := #[true, true, true, false, false, false, false, false, false, false, false, false, false, false, false, false, false, false, false]) (by rfl) (by kernel_rfl) (by kernel_rfl) (by kernel_rfl) (by intro _ _ _ h; exact h) (by rfl) ?hm38 E2.out (by kernel_rfl) ?rm38
            case hm38 => (intro w hSw; (try dsimp only at hSw); go_simp <;> with_reducible rfl)
            (try simp only [Act.put, sIT, sC0, sCS])
            refine md_val (i := 3) (v := ?vm39) (listed' := #[true, true, true, true, false, false, false, false, false, false, false, false, false, false, false, false, false, false, false]) (by rfl) (by kernel_rfl) (by kernel_rfl) (by kernel_rfl) (by intro _ _ _ h; exact h) (by rfl) ?hm39 E2.out (by kernel_rfl) ?rm39
            case hm39 => (intro w hSw; (try dsimp only at hSw); go_simp <;> with_reducible rfl)
            (try simp only [Act.put, sIT, sC0, sCS])
            refine md_val (i := 4) (v := ?vm40) (listed' := #[true, true, true, true, true, false, false, false, false, false, false, false, false, false, false, false, false, false, false]) (by rfl) (by kernel_rfl) (by kernel_rfl) (by kernel_rfl) (by intro _ _ _ h; exact h) (by rfl) ?hm40 E2.out (by kernel_rfl) ?rm40
            case hm40 => (intro w hSw; (try dsimp only at hSw); go_simp <;> with_reducible rfl)
            (try simp only [Act.put, sIT, sC0, sCS])
            refine md_part (i := 5) (listed' := #[true, true, true, true, true, true, false, false, false, false, false, false, false, false, false, false, false, false, false]) (by rfl) (by kernel_rfl) (by kernel_rfl) (by kernel_rfl) _ _ (by rfl) w.heap.size 16 4 _ cp _ (by intro _ _ _ h; exact h) (by rfl) (by rfl) (fun x hx => ((Fbx0.out.ext E1.out)).ext hx) Try.underlying41 (by rfl) (by kernel_rfl) (by rw [show (cp : Array Value).size = 24 from ZP]; omega) E2.out (by kernel_rfl) ?_
            (try simp only [Act.put, sIT, sC0, sCS])
            refine md_val (i := 6) (v := ?vm41) (listed' := #[true, true, true, true, true, true, true, false, false, false, false, false, false, false, false, false, false, false, false]) (by rfl) (by kernel_rfl) (by kernel_rfl) (by kernel_rfl) (by intro _ _ _ h; exact h) (by rfl) ?hm41 E2.out (by kernel_rfl) ?rm41
            case hm41 => (intro w hSw; (try dsimp only at hSw); go_simp <;> with_reducible rfl)
            (try simp only [Act.put, sIT, sC0, sCS])
            refine md_val (i := 7) (v := ?vm42) (listed' := #[true, true, true, true, true, true, true, true, false, false, false, false, false, false, false, false, false, false, false]) (by rfl) (by kernel_rfl) (by kernel_rfl) (by kernel_rfl) (by intro _ _ _ h; exact h) (by rfl) ?hm42 E2.out (by kernel_rfl) ?rm42
            case hm42 => (intro w hSw; (try dsimp only at hSw); go_simp <;> with_reducible rfl)
            (try simp only [Act.put, sIT, sC0, sCS])
            refine md_val (i := 8) (v := ?vm43) (listed' := #[true, true, true, true, true, true, true, true, true, false, false, false, false, false, false, false, false, false, false]) (by rfl) (by kernel_rfl) (by kernel_rfl) (by kernel_rfl) (by intro _ _ _ h; exact h) (by rfl) ?hm43 E2.out (by kernel_rfl) ?rm43
            case hm43 => (intro w hSw; (try dsimp only at hSw); go_simp <;> with_reducible rfl)
            (try simp only [Act.put, sIT, sC0, sCS])
            refine md_part (i := 9) (listed' := #[true, true, true, true, true, true, true, true, true, true, false, false, false, false, false, false, false, false, false]) (by rfl) (by kernel_rfl) (by kernel_rfl) (by kernel_rfl) _ _ (by rfl) w.heap.size 8 4 _ cp _ (by intro _ _ _ h; exact h) (by rfl) (by rfl) (fun x hx => ((Fbx0.out.ext E1.out)).ext hx) Try.underlying41 (by rfl) (by kernel_rfl) (by rw [show (cp : Array Value).size = 24 from ZP]; omega) E2.out (by kernel_rfl) ?_
            (try simp only [Act.put, sIT, sC0, sCS])
            refine md_call_or (i := 10) (j := 16) (listed' := #[true, true, true, true, true, true, true, true, true, true, true, false, false, false, false, false, false, false, false]) (lj := #[true, true, true, true, true, true, true, true, true, true, false, false, false, false, false, false, true, false, false]) (u := .pointer (some ⟨wv.drew.heap.size, 0, none⟩)) (wj := (wv.drew.alloc (.cells #[.bool false, .slice none 0 0, .bool false, .slice none 0 0] 41))) (by rfl) (by rfl) (by kernel_rfl) (by rfl) (by go_simp) (pSub (L := L) (FP.out.ext (E1.out.trans E2.out)).e4 (FP.out.ext (E1.out.trans E2.out)).e2 (by omega)) (by kernel_rfl) (by rfl) (by go_simp) (E2.out.alloc _) (by kernel_rfl) ?_ ?_
            · rintro e w3 ⟨cg, rfl, hc, hx⟩
              have E3 := Lib.hid (show Ext wv.drew w3 from hx)
              have FFC := Lib.hid hc
              have Z_cg := hc.size
              have O_cg := hc.one
              clear hc
              clear hx
              refine ⟨_, rfl, (E2.out.trans E3.out), ?_⟩
              (try simp only [Act.put, sIT, sC0, sCS])
              refine md_call_or (i := 11) (j := 16) (listed' := #[true, true, true, true, true, true, true, true, true, true, true, true, false, false, false, false, false, false, false]) (lj := #[true, true, true, true, true, true, true, true, true, true, true, false, false, false, false, false, true, false, false]) (u := .pointer (some ⟨w3.heap.size, 0, none⟩)) (wj := (w3.alloc (.cells #[.bool false, .slice none 0 0, .bool false, .slice none 0 0] 41))) (by rfl) (by rfl) (by kernel_rfl) (by rfl) (by go_simp) (pAdd (L := 2 * L + 1) ((FFA.out.ext (E2.out.trans E3.out)).isIn (by omega)) (FFC.out.isIn (by omega)) (by omega)) (by kernel_rfl) (by rfl) (by go_simp) ((E2.out.trans E3.out).alloc _) (by kernel_rfl) ?_ ?_
              · rintro e w4 ⟨ch, rfl, hc, hx⟩
                have E4 := Lib.hid (show Ext w3 w4 from hx)
                have FDE := Lib.hid hc
                have Z_ch := hc.size
                have O_ch := hc.one
                clear hc
                clear hx
                refine ⟨_, rfl, (E2.out.trans (E3.out.trans E4.out)), ?_⟩
                (try simp only [Act.put, sIT, sC0, sCS])
                refine md_call_or (i := 12) (j := 16) (listed' := #[true, true, true, true, true, true, true, true, true, true, true, true, true, false, false, false, false, false, false]) (lj := #[true, true, true, true, true, true, true, true, true, true, true, true, false, false, false, false, true, false, false]) (u := .pointer (some ⟨w4.heap.size, 0, none⟩)) (wj := (w4.alloc (.cells #[.bool false, .slice none 0 0, .bool false, .slice none 0 0] 41))) (by rfl) (by rfl) (by kernel_rfl) (by rfl) (by go_simp) (pQuo (L := 6 * L + 8) ((FFA.out.ext (E2.out.trans (E3.out.trans E4.out))).isIn (by omega)) (FDE.out.isIn (by omega)) (by omega) hden) (by kernel_rfl) (by rfl) (by go_simp) ((E2.out.trans (E3.out.trans E4.out)).alloc _) (by kernel_rfl) ?_ ?_
                · rintro e w5 ⟨ct, rfl, hc, hx⟩
                  have E5 := Lib.hid (show Ext w4 w5 from hx)
                  have FTO := Lib.hid hc
                  have Z_ct := hc.size
                  have O_ct := hc.one
                  clear hc
                  clear hx
                  refine ⟨_, rfl, (E2.out.trans (E3.out.trans (E4.out.trans E5.out))), ?_⟩
                  (try simp only [Act.put, sIT, sC0, sCS])
                  refine md_val (i := 13) (v := ?vm44) (listed' := #[true, true, true, true, true, true, true, true, true, true, true, true, true, true, false, false, false, false, false]) (by rfl) (by kernel_rfl) (by kernel_rfl) (by kernel_rfl) (by intro _ _ _ h; exact h) (by rfl) ?hm44 (E2.out.trans (E3.out.trans (E4.out.trans E5.out))) (by kernel_rfl) ?rm44
                  case hm44 => (intro w hSw; (try dsimp only at hSw); go_simp <;> with_reducible rfl)
                  (try simp only [Act.put, sIT, sC0, sCS])
                  refine md_val (i := 14) (v := ?vm45) (listed' := #[true, true, true, true, true, true, true, true, true, true, true, true, true, true, true, false, false, false, false]) (by rfl) (by kernel_rfl) (by kernel_rfl) (by kernel_rfl) (by intro _ _ _ h; exact h) (by rfl) ?hm45 (E2.out.trans (E3.out.trans (E4.out.trans E5.out))) (by kernel_rfl) ?rm45
                  case hm45 => (intro w hSw; (try dsimp only at hSw); go_simp <;> with_reducible rfl)
                  (try simp only [Act.put, sIT, sC0, sCS])
                  refine md_val (i := 15) (v := ?vm46) (listed' := #[true, true, true, true, true, true, true, true, true, true, true, true, true, true, true, true, false, false, false]) (by rfl) (by kernel_rfl) (by kernel_rfl) (by kernel_rfl) (by intro _ _ _ h; exact h) (by rfl) ?hm46 (E2.out.trans (E3.out.trans (E4.out.trans E5.out))) (by kernel_rfl) ?rm46
                  case hm46 => (intro w hSw; (try dsimp only at hSw); go_simp <;> with_reducible rfl)
                  (try simp only [Act.put, sIT, sC0, sCS])
                  refine md_one (i := 16) (listed' := #[true, true, true, true, true, true, true, true, true, true, true, true, true, true, true, true, true, false, false]) (v := .pointer (some ⟨w5.heap.size, 0, none⟩)) (w' := (w5.alloc (.cells #[.bool false, .slice none 0 0, .bool false, .slice none 0 0] 41))) (by rfl) (by kernel_rfl) (by rfl) (by go_simp) ((E2.out.trans (E3.out.trans (E4.out.trans E5.out))).alloc _) (by kernel_rfl) ?_
                  (try simp only [Act.put, sIT, sC0, sCS])
                  have E6 := Lib.hid (show Ext w5 (w5.alloc (.cells #[.bool false, .slice none 0 0, .bool false, .slice none 0 0] 41)) from (Ext.refl _).alloc _)
                  have Fnb16 := Lib.hid (Blk.new w5 41 #[.bool false, .slice none 0 0, .bool false, .slice none 0 0])
                  have hbx := Fnb16.out
                  have ob := Own.setCells (w5.alloc (.cells #[.bool false, .slice none 0 0, .bool false, .slice none 0 0] 41)) w5.heap.size ct
                  have hgb : wv.heap.size ≤ w5.heap.size := (E2.out.trans (E3.out.trans (E4.out.trans E5.out))).size
                  have hS8 : Ext wv ((w5.alloc (.cells #[.bool false, .slice none 0 0, .bool false, .slice none 0 0] 41)).setCells w5.heap.size 0 (ct : Array Value).toList) := ob.ext (E2.out.trans (E3.out.trans (E4.out.trans (E5.out.trans E6.out)))) hgb
                  refine md_store (i := 17) (listed' := #[true, true, true, true, true, true, true, true, true, true, true, true, true, true, true, true, true, true, false]) (by rfl) (by kernel_rfl) (by rfl) _ _ _ (by rfl) w5.heap.size 41 #[.bool false, .slice none 0 0, .bool false, .slice none 0 0] ct (by rfl) (by rfl) hbx (by rw [show (ct : Array Value).size = 4 from Z_ct]; rfl) (by rw [show (ct : Array Value).size = 4 from Z_ct]; kernel_rfl) O_ct hS8 (by kernel_rfl) ?_
                  (try simp only [Act.put])
                  refine md_val (i := 18) (v := ?vm47) (listed' := #[true, true, true, true, true, true, true, true, true, true, true, true, true, true, true, true, true, true, true]) (by rfl) (by kernel_rfl) (by kernel_rfl) (by kernel_rfl) (by intro _ _ _ h; exact h) (by rfl) ?hm47 hS8 (by kernel_rfl) ?rm47
                  case hm47 => (intro w hSw; (try dsimp only at hSw); go_simp <;> with_reducible rfl)
                  (try simp only [Act.put])
                  refine wpAnyH_done (by kernel_rfl) ?_ _
                  go_wp2_with fail
                  go_meet
                  exact ⟨_, _, ((FTO.out.ext E6.out)).map (fun r q h => h.own hbx (noU_of _ (by simp)) ob), hbx.setCells ct (by rw [show (ct : Array Value).size = 4 from Z_ct]; rfl), rfl, rfl, hS8⟩
                · (try simp only [Act.put, sIT, sC0, sCS])
                  have E5 := Lib.hid (show Ext w4 (w4.alloc (.cells #[.bool false, .slice none 0 0, .bool false, .slice none 0 0] 41)) from (Ext.refl _).alloc _)
                  have Fnb16 := Lib.hid (Blk.new w4 41 #[.bool false, .slice none 0 0, .bool false, .slice none 0 0])
                  refine md_call (i := 12) (listed' := #[true, true, true, true, true, true, true, true, true, true, true, true, true, false, false, false, true, false, false]) (by rfl) (by kernel_rfl) (by rfl) (by go_simp) (pQuo (L := 6 * L + 8) ((FFA.out.ext (E2.out.trans (E3.out.trans (E4.out.trans E5.out)))).isIn (by omega)) ((FDE.out.ext E5.out).isIn (by omega)) (by omega) hden) (by kernel_rfl) ?_
                  rintro e w6 ⟨ct, rfl, hc, hx⟩
                  have E6 := Lib.hid (show Ext (w4.alloc (.cells #[.bool false, .slice none 0 0, .bool false, .slice none 0 0] 41)) w6 from hx)
                  have FTO := Lib.hid hc
                  have Z_ct := hc.size
                  have O_ct := hc.one
                  clear hc
                  clear hx
                  refine ⟨_, rfl, (E2.out.trans (E3.out.trans (E4.out.trans (E5.out.trans E6.out)))), ?_⟩
                  (try simp only [Act.put, sIT, sC0, sCS])
                  refine md_val (i := 13) (v := ?vm48) (listed' := #[true, true, true, true, true, true, true, true, true, true, true, true, true, true, false, false, true, false, false]) (by rfl) (by kernel_rfl) (by kernel_rfl) (by kernel_rfl) (by intro _ _ _ h; exact h) (by rfl) ?hm48 (E2.out.trans (E3.out.trans (E4.out.trans (E5.out.trans E6.out)))) (by kernel_rfl) ?rm48
                  case hm48 => (intro w hSw; (try dsimp only at hSw); go_simp <;> with_reducible rfl)
                  (try simp only [Act.put, sIT, sC0, sCS])
                  refine md_val (i := 14) (v := ?vm49) (listed' := #[true, true, true, true, true, true, true, true, true, true, true, true, true, true, true, false, true, false, false]) (by rfl) (by kernel_rfl) (by kernel_rfl) (by kernel_rfl) (by intro _ _ _ h; exact h) (by rfl) ?hm49 (E2.out.trans (E3.out.trans (E4.out.trans (E5.out.trans E6.out)))) (by kernel_rfl) ?rm49
                  case hm49 => (intro w hSw; (try dsimp only at hSw); go_simp <;> with_reducible rfl)
                  (try simp only [Act.put, sIT, sC0, sCS])
                  refine md_val (i := 15) (v := ?vm50) (listed' := #[true, true, true, true, true, true, true, true, true, true, true, true, true, true, true, true, true, false, false]) (by rfl) (by kernel_rfl) (by kernel_rfl) (by kernel_rfl) (by intro _ _ _ h; exact h) (by rfl) ?hm50 (E2.out.trans (E3.out.trans (E4.out.trans (E5.out.trans E6.out)))) (by kernel_rfl) ?rm50
                  case hm50 => (intro w hSw; (try dsimp only at hSw); go_simp <;> with_reducible rfl)
                  (try simp only [Act.put, sIT, sC0, sCS])
                  have hbx := (Fnb16.out.ext E6.out)
                  have ob := Own.setCells w6 w4.heap.size ct
                  have hgb : wv.heap.size ≤ w4.heap.size := (E2.out.trans (E3.out.trans E4.out)).size
                  have hS8 : Ext wv (w6.setCells w4.heap.size 0 (ct : Array Value).toList) := ob.ext (E2.out.trans (E3.out.trans (E4.out.trans (E5.out.trans E6.out)))) hgb
                  refine md_store (i := 17) (listed' := #[true, true, true, true, true, true, true, true, true, true, true, true, true, true, true, true, true, true, false]) (by rfl) (by kernel_rfl) (by rfl) _ _ _ (by rfl) w4.heap.size 41 #[.bool false, .slice none 0 0, .bool false, .slice none 0 0] ct (by rfl) (by rfl) hbx (by rw [show (ct : Array Value).size = 4 from Z_ct]; rfl) (by rw [show (ct : Array Value).size = 4 from Z_ct]; kernel_rfl) O_ct hS8 (by kernel_rfl) ?_
                  (try simp only [Act.put])
                  refine md_val (i := 18) (v := ?vm51) (listed' := #[true, true, true, true, true, true, true, true, true, true, true, true, true, true, true, true, true, true, true]) (by rfl) (by kernel_rfl) (by kernel_rfl) (by kernel_rfl) (by intro _ _ _ h; exact h) (by rfl) ?hm51 hS8 (by kernel_rfl) ?rm51
                  case hm51 => (intro w hSw; (try dsimp only at hSw); go_simp <;> with_reducible rfl)
                  (try simp only [Act.put])
                  refine wpAnyH_done (by kernel_rfl) ?_ _
                  go_wp2_with fail
                  go_meet
                  exact ⟨_, _, (FTO.out).map (fun r q h => h.own hbx (noU_of _ (by simp)) ob), hbx.setCells ct (by rw [show (ct : Array Value).size = 4 from Z_ct]; rfl), rfl, rfl, hS8⟩
              · (try simp only [Act.put, sIT, sC0, sCS])
                have E4 := Lib.hid (show Ext w3 (w3.alloc (.cells #[.bool false, .slice none 0 0, .bool false, .slice none 0 0] 41)) from (Ext.refl _).alloc _)
                have Fnb16 := Lib.hid (Blk.new w3 41 #[.bool false, .slice none 0 0, .bool false, .slice none 0 0])
                refine md_call (i := 11) (listed' := #[true, true, true, true, true, true, true, true, true, true, true, true, false, false, false, false, true, false, false]) (by rfl) (by kernel_rfl) (by rfl) (by go_simp) (pAdd (L := 2 * L + 1) ((FFA.out.ext (E2.out.trans (E3.out.trans E4.out))).isIn (by omega)) ((FFC.out.ext E4.out).isIn (by omega)) (by omega)) (by kernel_rfl) ?_
                rintro e w5 ⟨ch, rfl, hc, hx⟩
                have E5 := Lib.hid (show Ext (w3.alloc (.cells #[.bool false, .slice none 0 0, .bool false, .slice none 0 0] 41)) w5 from hx)
                have FDE := Lib.hid hc
                have Z_ch := hc.size
                have O_ch := hc.one
                clear hc
                clear hx
                refine ⟨_, rfl, (E2.out.trans (E3.out.trans (E4.out.trans E5.out))), ?_⟩
                (try simp only [Act.put, sIT, sC0, sCS])
                refine md_call (i := 12) (listed' := #[true, true, true, true, true, true, true, true, true, true, true, true, true, false, false, false, true, false, false]) (by rfl) (by kernel_rfl) (by rfl) (by go_simp) (pQuo (L := 6 * L + 8) ((FFA.out.ext (E2.out.trans (E3.out.trans (E4.out.trans E5.out)))).isIn (by omega)) (FDE.out.isIn (by omega)) (by omega) hden) (by kernel_rfl) ?_
                rintro e w6 ⟨ct, rfl, hc, hx⟩
                have E6 := Lib.hid (show Ext w5 w6 from hx)
                have FTO := Lib.hid hc
                have Z_ct := hc.size
                have O_ct := hc.one
                clear hc
                clear hx
                refine ⟨_, rfl, (E2.out.trans (E3.out.trans (E4.out.trans (E5.out.trans E6.out)))), ?_⟩
                (try simp only [Act.put, sIT, sC0, sCS])
                refine md_val (i := 13) (v := ?vm52) (listed' := #[true, true, true, true, true, true, true, true, true, true, true, true, true, true, false, false, true, false, false]) (by rfl) (by kernel_rfl) (by kernel_rfl) (by kernel_rfl) (by intro _ _ _ h; exact h) (by rfl) ?hm52 (E2.out.trans (E3.out.trans (E4.out.trans (E5.out.trans E6.out)))) (by kernel_rfl) ?rm52
                case hm52 => (intro w hSw; (try dsimp only at hSw); go_simp <;> with_reducible rfl)
                (try simp only [Act.put, sIT, sC0, sCS])
                refine md_val (i := 14) (v := ?vm53) (listed' := #[true, true, true, true, true, true, true, true, true, true, true, true, true, true, true, false, true, false, false]) (by rfl) (by kernel_rfl) (by kernel_rfl) (by kernel_rfl) (by intro _ _ _ h; exact h) (by rfl) ?hm53 (E2.out.trans (E3.out.trans (E4.out.trans (E5.out.trans E6.out)))) (by kernel_rfl) ?rm53
                case hm53 => (intro w hSw; (try dsimp only at hSw); go_simp <;> with_reducible rfl)
                (try simp only [Act.put, sIT, sC0, sCS])
                refine md_val (i := 15) (v := ?vm54) (listed' := #[true, true, true, true, true, true, true, true, true, true, true, true, true, true, true, true, true, false, false]) (by rfl) (by kernel_rfl) (by kernel_rfl) (by kernel_rfl) (by intro _ _ _ h; exact h) (by rfl) ?hm54 (E2.out.trans (E3.out.trans (E4.out.trans (E5.out.trans E6.out)))) (by kernel_rfl) ?rm54
                case hm54 => (intro w hSw; (try dsimp only at hSw); go_simp <;> with_reducible rfl)
                (try simp only [Act.put, sIT, sC0, sCS])
                have hbx := (Fnb16.out.ext (E5.out.trans E6.out))
                have ob := Own.setCells w6 w3.heap.size ct
                have hgb : wv.heap.size ≤ w3.heap.size := (E2.out.trans E3.out).size
                have hS8 : Ext wv (w6.setCells w3.heap.size 0 (ct : Array Value).toList) := ob.ext (E2.out.trans (E3.out.trans (E4.out.trans (E5.out.trans E6.out)))) hgb
                refine md_store (i := 17) (listed' := #[true, true, true, true, true, true, true, true, true, true, true, true, true, true, true, true, true, true, false]) (by rfl) (by kernel_rfl) (by rfl) _ _ _ (by rfl) w3.heap.size 41 #[.bool false, .slice none 0 0, .bool false, .slice none 0 0] ct (by rfl) (by rfl) hbx (by rw [show (ct : Array Value).size = 4 from Z_ct]; rfl) (by rw [show (ct : Array Value).size = 4 from Z_ct]; kernel_rfl) O_ct hS8 (by kernel_rfl) ?_
                (try simp only [Act.put])
                refine md_val (i := 18) (v := ?vm55) (listed' := #[true, true, true, true, true, true, true, true, true, true, true, true, true, true, true, true, true, true, true]) (by rfl) (by kernel_rfl) (by kernel_rfl) (by kernel_rfl) (by intro _ _ _ h; exact h) (by rfl) ?hm55 hS8 (by kernel_rfl) ?rm55
                case hm55 => (intro w hSw; (try dsimp only at hSw); go_simp <;> with_reducible rfl)
                (try simp only [Act.put])
                refine wpAnyH_done (by kernel_rfl) ?_ _
                go_wp2_with fail
                go_meet
                exact ⟨_, _, (FTO.out).map (fun r q h => h.own hbx (noU_of _ (by simp)) ob), hbx.setCells ct (by rw [show (ct : Array Value).size = 4 from Z_ct]; rfl), rfl, rfl, hS8⟩
            · (try simp only [Act.put, sIT, sC0, sCS])
              have E3 := Lib.hid (show Ext wv.drew (wv.drew.alloc (.cells #[.bool false, .slice none 0 0, .bool false, .slice none 0 0] 41)) from (Ext.refl _).alloc _)
              have Fnb16 := Lib.hid (Blk.new wv.drew 41 #[.bool false, .slice none 0 0, .bool false, .slice none 0 0])
              refine md_call (i := 10) (listed' := #[true, true, true, true, true, true, true, true, true, true, true, false, false, false, false, false, true, false, false]) (by rfl) (by kernel_rfl) (by rfl) (by go_simp) (pSub (L := L) (FP.out.ext (E1.out.trans (E2.out.trans E3.out))).e4 (FP.out.ext (E1.out.trans (E2.out.trans E3.out))).e2 (by omega)) (by kernel_rfl) ?_
              rintro e w4 ⟨cg, rfl, hc, hx⟩
              have E4 := Lib.hid (show Ext (wv.drew.alloc (.cells #[.bool false, .slice none 0 0, .bool false, .slice none 0 0] 41)) w4 from hx)
              have FFC := Lib.hid hc
              have Z_cg := hc.size
              have O_cg := hc.one
              clear hc
              clear hx
              refine ⟨_, rfl, (E2.out.trans (E3.out.trans E4.out)), ?_⟩
              (try simp only [Act.put, sIT, sC0, sCS])
              refine md_call (i := 11) (listed' := #[true, true, true, true, true, true, true, true, true, true, true, true, false, false, false, false, true, false, false]) (by rfl) (by kernel_rfl) (by rfl) (by go_simp) (pAdd (L := 2 * L + 1) ((FFA.out.ext (E2.out.trans (E3.out.trans E4.out))).isIn (by omega)) (FFC.out.isIn (by omega)) (by omega)) (by kernel_rfl) ?_
              rintro e w5 ⟨ch, rfl, hc, hx⟩
              have E5 := Lib.hid (show Ext w4 w5 from hx)
              have FDE := Lib.hid hc
              have Z_ch := hc.size
              have O_ch := hc.one
              clear hc
              clear hx
              refine ⟨_, rfl, (E2.out.trans (E3.out.trans (E4.out.trans E5.out))), ?_⟩
              (try simp only [Act.put, sIT, sC0, sCS])
              refine md_call (i := 12) (listed' := #[true, true, true, true, true, true, true, true, true, true, true, true, true, false, false, false, true, false, false]) (by rfl) (by kernel_rfl) (by rfl) (by go_simp) (pQuo (L := 6 * L + 8) ((FFA.out.ext (E2.out.trans (E3.out.trans (E4.out.trans E5.out)))).isIn (by omega)) (FDE.out.isIn (by omega)) (by omega) hden) (by kernel_rfl) ?_
              rintro e w6 ⟨ct, rfl, hc, hx⟩
              have E6 := Lib.hid (show Ext w5 w6 from hx)
              have FTO := Lib.hid hc
              have Z_ct := hc.size
              have O_ct := hc.one
              clear hc
              clear hx
              refine ⟨_, rfl, (E2.out.trans (E3.out.trans (E4.out.trans (E5.out.trans E6.out)))), ?_⟩
              (try simp only [Act.put, sIT, sC0, sCS])
              refine md_val (i := 13) (v := ?vm56) (listed' := #[true, true, true, true, true, true, true, true, true, true, true, true, true, true, false, false, true, false, false]) (by rfl) (by kernel_rfl) (by kernel_rfl) (by kernel_rfl) (by intro _ _ _ h; exact h) (by rfl) ?hm56 (E2.out.trans (E3.out.trans (E4.out.trans (E5.out.trans E6.out)))) (by kernel_rfl) ?rm56
              case hm56 => (intro w hSw; (try dsimp only at hSw); go_simp <;> with_reducible rfl)
              (try simp only [Act.put, sIT, sC0, sCS])
              refine md_val (i := 14) (v := ?vm57) (listed' := #[true, true, true, true, true, true, true, true, true, true, true, true, true, true, true, false, true, false, false]) (by rfl) (by kernel_rfl) (by kernel_rfl) (by kernel_rfl) (by intro _ _ _ h; exact h) (by rfl) ?hm57 (E2.out.trans (E3.out.trans (E4.out.trans (E5.out.trans E6.out)))) (by kernel_rfl) ?rm57
              case hm57 => (intro w hSw; (try dsimp only at hSw); go_simp <;> with_reducible rfl)
              (try simp only [Act.put, sIT, sC0, sCS])
              refine md_val (i := 15) (v := ?vm58) (listed' := #[true, true, true, true, true, true, true, true, true, true, true, true, true, true, true, true, true, false, false]) (by rfl) (by kernel_rfl) (by kernel_rfl) (by kernel_rfl) (by intro _ _ _ h; exact h) (by rfl) ?hm58 (E2.out.trans (E3.out.trans (E4.out.trans (E5.out.trans E6.out)))) (by kernel_rfl) ?rm58
              case hm58 => (intro w hSw; (try dsimp only at hSw); go_simp <;> with_reducible rfl)
              (try simp only [Act.put, sIT, sC0, sCS])
              have hbx := (Fnb16.out.ext (E4.out.trans (E5.out.trans E6.out)))
              have ob := Own.setCells w6 wv.drew.heap.size ct
              have hgb : wv.heap.size ≤ wv.drew.heap.size := E2.out.size
              have hS8 : Ext wv (w6.setCells wv.drew.heap.size 0 (ct : Array Value).toList) := ob.ext (E2.out.trans (E3.out.trans (E4.out.trans (E5.out.trans E6.out)))) hgb
              refine md_store (i := 17) (listed' := #[true, true, true, true, true, true, true, true, true, true, true, true, true, true, true, true, true, true, false]) (by rfl) (by kernel_rfl) (by rfl) _ _ _ (by rfl) wv.drew.heap.size 41 #[.bool false, .slice none 0 0, .bool false, .slice none 0 0] ct (by rfl) (by rfl) hbx (by rw [show (ct : Array Value).size = 4 from Z_ct]; rfl) (by rw [show (ct : Array Value).size = 4 from Z_ct]; kernel_rfl) O_ct hS8 (by kernel_rfl) ?_
              (try simp only [Act.put])
              refine md_val (i := 18) (v := ?vm59) (listed' := #[true, true, true, true, true, true, true, true, true, true, true, true, true, true, true, true, true, true, true]) (by rfl) (by kernel_rfl) (by kernel_rfl) (by kernel_rfl) (by intro _ _ _ h; exact h) (by rfl) ?hm59 hS8 (by kernel_rfl) ?rm59
              case hm59 => (intro w hSw; (try dsimp only at hSw); go_simp <;> with_reducible rfl)
              (try simp only [Act.put])
              refine wpAnyH_done (by kernel_rfl) ?_ _
              go_wp2_with fail
              go_meet
              exact ⟨_, _, (FTO.out).map (fun r q h => h.own hbx (noU_of _ (by simp)) ob), hbx.setCells ct (by rw [show (ct : Array Value).size = 4 from Z_ct]; rfl), rfl, rfl, hS8⟩
          case rest =>
            obtain ⟨X9, c9, hto, hb9, rfl, rfl, hx⟩ := hcut
            have E2 := Lib.hid (show Ext wv wc from hx)
            have Z9 := hto.size
            have O9 := hto.one
            have FTO := Lib.hid hto
            have Fb9 := Lib.hid hb9
            clear hto hb9 hx
            obtain ⟨s0, hs0⟩ : ∃ s, s = rcmp ((A0 - B0) / ((A0 - B0) + (C0 - B0))) ((0 : Int) : Rat) := ⟨_, rfl⟩
            obtain ⟨s1, hs1⟩ : ∃ s, s = rcmp ((A0 - B0) / ((A0 - B0) + (C0 - B0))) ((1 : Int) : Rat) := ⟨_, rfl⟩
            have HSZ := Lib.hid hs0
            have HSO := Lib.hid hs1
            clear hs0 hs1
            by_cases hgt : 0 < s0
            · by_cases hlt : s1 < 0
              · go_upto_region 10 with fail
                refine wp_region_lit ?_
                refine mv_val (v := ?vm60) (w' := wc) (by rfl) ?hm60 ?rm60
                case hm60 => (go_simp <;> with_reducible rfl)
                (try simp only [Act.put, sIT, sC0, sCS])
                refine mv_val (v := ?vm62) (w' := wc) (by rfl) ?hm62 ?rm62
                case hm62 => (go_simp <;> with_reducible rfl)
                (try simp only [Act.put, sIT, sC0, sCS])
                refine mv_val (v := ?vm63) (w' := wc) (by rfl) ?hm63 ?rm63
                case hm63 => (go_simp <;> with_reducible rfl)
                (try simp only [Act.put, sIT, sC0, sCS])
                refine mv_load (by rfl) _ _ (by rfl) X9 _ c9 _ (by rfl) Fb9.out Try.underlying41 (by rfl) (by rw [show (c9 : Array Value).size = 4 from Z9]; kernel_rfl) ?_
                (try simp only [Act.put, sIT, sC0, sCS])
                refine mv_load (by rfl) _ _ (by rfl) V5 _ cz _ (by rfl) (FV5.out.ext (E1.out.trans E2.out)) Try.underlying41 (by rfl) (by rw [show (cz : Array Value).size = 4 from ZZ]; kernel_rfl) ?_
                (try simp only [Act.put, sIT, sC0, sCS])
                refine mv_call (by rfl) (by go_simp) (pCmpS HSZ.out (L := 6 * L + 8) (FTO.out.isIn (by omega)) ((FZ.out.ext (E1.out.trans E2.out)).isIn (by omega)) (by omega)) ?_
                rintro e w3 ⟨rfl, hx⟩
                have E3 := Lib.hid (show Ext wc w3 from hx)
                clear hx
                refine ⟨_, rfl, ?_⟩
                (try simp only [Act.put, sIT, sC0, sCS])
                refine mv_val (v := ?vm65) (w' := w3) (by rfl) ?hm65 ?rm65
                case hm65 => (go_simp <;> with_reducible rfl)
                (try simp only [Act.put, sIT, sC0, sCS])
                refine mv_val (v := ?vm66) (w' := w3) (by rfl) ?hm66 ?rm66
                case hm66 => (go_simp <;> with_reducible rfl)
                (try simp only [Act.put, sIT, sC0, sCS])
                refine mv_val (v := ?vm67) (w' := w3) (by rfl) ?hm67 ?rm67
                case hm67 => (go_simp <;> with_reducible rfl)
                (try simp only [Act.put, sIT, sC0, sCS])
                refine mv_load (by rfl) _ _ (by rfl) X9 _ c9 _ (by rfl) (Fb9.out.ext E3.out) Try.underlying41 (by rfl) (by rw [show (c9 : Array Value).size = 4 from Z9]; kernel_rfl) ?_
                (try simp only [Act.put, sIT, sC0, sCS])
                refine mv_load (by rfl) _ _ (by rfl) V6 _ co _ (by rfl) (FV6.out.ext (E1.out.trans (E2.out.trans E3.out))) Try.underlying41 (by rfl) (by rw [show (co : Array Value).size = 4 from ZO]; kernel_rfl) ?_
                (try simp only [Act.put, sIT, sC0, sCS])
                refine mv_call (by rfl) (by go_simp) (pCmpS HSO.out (L := 6 * L + 8) ((FTO.out.ext E3.out).isIn (by omega)) ((FO.out.ext (E1.out.trans (E2.out.trans E3.out))).isIn (by omega)) (by omega)) ?_
                rintro e w4 ⟨rfl, hx⟩
                have E4 := Lib.hid (show Ext w3 w4 from hx)
                clear hx
                refine ⟨_, rfl, ?_⟩
                (try simp only [Act.put, sIT, sC0, sCS])
                refine mv_val (v := ?vm69) (w' := w4) (by rfl) ?hm69 ?rm69
                case hm69 => (go_simp <;> with_reducible rfl)
                (try simp only [Act.put, sIT, sC0, sCS])
                refine mv_val (v := ?vm70) (w' := w4) (by rfl) ?hm70 ?rm70
                case hm70 => (go_simp <;> with_reducible rfl)
                (try simp only [Act.put, sIT, sC0, sCS])
                go_upto_region 11 with fail
                refine wp_region_lit ?_
                refine mv_val (v := ?vm71) (w' := w4) (by rfl) ?hm71 ?rm71
                case hm71 => (go_simp <;> with_reducible rfl)
                (try simp only [Act.put, sIT, sC0, sCS])
                refine mv_load (by rfl) _ _ (by rfl) w.heap.size _ cp _ (by rfl) (Fbx0.out.ext (E1.out.trans (E2.out.trans (E3.out.trans E4.out)))) Try.underlying46 (by rfl) (by rw [show (cp : Array Value).size = 24 from ZP]; kernel_rfl) ?_
                (try simp only [Act.put, sIT, sC0, sCS])
                refine mv_load (by rfl) _ _ (by rfl) X9 _ c9 _ (by rfl) (Fb9.out.ext (E3.out.trans E4.out)) Try.underlying41 (by rfl) (by rw [show (c9 : Array Value).size = 4 from Z9]; kernel_rfl) ?_
                (try simp only [Act.put, sIT, sC0, sCS])
                refine mv_call (by rfl) (by go_simp) (oEvalQuad (L := 6 * L + 8) ((FP.out.ext (E1.out.trans (E2.out.trans (E3.out.trans E4.out)))).mono (by omega)) ((FTO.out.ext (E3.out.trans E4.out)).isIn (by omega)) (by omega) (by omega)) ?_
                rintro e w5 ⟨ce, rfl, hc, hx⟩
                have E5 := Lib.hid (show Ext w4 w5 from hx)
                have FEV := Lib.hid hc
                have Z_ce := hc.size
                clear hc
                clear hx
                refine ⟨_, rfl, ?_⟩
                (try simp only [Act.put, sIT, sC0, sCS])
                refine mv_val (v := ?vm72) (w' := w5) (by rfl) ?hm72 ?rm72
                case hm72 => (go_simp <;> with_reducible rfl)
                (try simp only [Act.put, sIT, sC0, sCS])
                refine mv_val (v := .agg (ce.extract 0 (0 + 4))) (w' := w5) (by rfl) (by have hix := pIdx0 FEV.out; go_simp <;> with_reducible rfl) ?_
                (try simp only [Act.put, sIT, sC0, sCS])
                refine mv_call (by rfl) (by go_simp) (pBox0 (L := 16 * (6 * L + 8) + 10) (HST.out.box.ext (E1.out.trans (E2.out.trans (E3.out.trans (E4.out.trans E5.out))))) (FEV.out.c0.isIn (by omega)) (by omega) (by omega) (by omega)) ?_
                rintro e w6 ⟨rfl, hbx, htx⟩
                refine ⟨_, rfl, ?_⟩
                (try simp only [Act.put, sIT, sC0, sCS])
                go_wp2_with fail
                go_roundg 1
                case measure => omega
                case rel => exact Or.inr (Or.inl ⟨rfl, by go_num, (by rw [qLo_in (a := A0) (b := B0) (c := C0) (qTop_in (by have := HSZ.out; omega) (by have := HSO.out; omega)), qHi_in (a := A0) (b := B0) (c := C0) (qTop_in (by have := HSZ.out; omega) (by have := HSO.out; omega))]; exact HST.out.turn hbx ((Turn.of_ext (E1.out.trans (E2.out.trans (E3.out.trans (E4.out.trans E5.out))))).trans htx))⟩)
              · go_upto_region 10 with fail
                refine wp_region_lit ?_
                refine mv_val (v := ?vm73) (w' := wc) (by rfl) ?hm73 ?rm73
                case hm73 => (go_simp <;> with_reducible rfl)
                (try simp only [Act.put, sIT, sC0, sCS])
                refine mv_val (v := ?vm75) (w' := wc) (by rfl) ?hm75 ?rm75
                case hm75 => (go_simp <;> with_reducible rfl)
                (try simp only [Act.put, sIT, sC0, sCS])
                refine mv_val (v := ?vm76) (w' := wc) (by rfl) ?hm76 ?rm76
                case hm76 => (go_simp <;> with_reducible rfl)
                (try simp only [Act.put, sIT, sC0, sCS])
                refine mv_load (by rfl) _ _ (by rfl) X9 _ c9 _ (by rfl) Fb9.out Try.underlying41 (by rfl) (by rw [show (c9 : Array Value).size = 4 from Z9]; kernel_rfl) ?_
                (try simp only [Act.put, sIT, sC0, sCS])
                refine mv_load (by rfl) _ _ (by rfl) V5 _ cz _ (by rfl) (FV5.out.ext (E1.out.trans E2.out)) Try.underlying41 (by rfl) (by rw [show (cz : Array Value).size = 4 from ZZ]; kernel_rfl) ?_
                (try simp only [Act.put, sIT, sC0, sCS])
                refine mv_call (by rfl) (by go_simp) (pCmpS HSZ.out (L := 6 * L + 8) (FTO.out.isIn (by omega)) ((FZ.out.ext (E1.out.trans E2.out)).isIn (by omega)) (by omega)) ?_
                rintro e w3 ⟨rfl, hx⟩
                have E3 := Lib.hid (show Ext wc w3 from hx)
                clear hx
                refine ⟨_, rfl, ?_⟩
                (try simp only [Act.put, sIT, sC0, sCS])
                refine mv_val (v := ?vm78) (w' := w3) (by rfl) ?hm78 ?rm78
                case hm78 => (go_simp <;> with_reducible rfl)
                (try simp only [Act.put, sIT, sC0, sCS])
                refine mv_val (v := ?vm79) (w' := w3) (by rfl) ?hm79 ?rm79
                case hm79 => (go_simp <;> with_reducible rfl)
                (try simp only [Act.put, sIT, sC0, sCS])
                refine mv_val (v := ?vm80) (w' := w3) (by rfl) ?hm80 ?rm80
                case hm80 => (go_simp <;> with_reducible rfl)
                (try simp only [Act.put, sIT, sC0, sCS])
                refine mv_load (by rfl) _ _ (by rfl) X9 _ c9 _ (by rfl) (Fb9.out.ext E3.out) Try.underlying41 (by rfl) (by rw [show (c9 : Array Value).size = 4 from Z9]; kernel_rfl) ?_
                (try simp only [Act.put, sIT, sC0, sCS])
                refine mv_load (by rfl) _ _ (by rfl) V6 _ co _ (by rfl) (FV6.out.ext (E1.out.trans (E2.out.trans E3.out))) Try.underlying41 (by rfl) (by rw [show (co : Array Value).size = 4 from ZO]; kernel_rfl) ?_
                (try simp only [Act.put, sIT, sC0, sCS])
                refine mv_call (by rfl) (by go_simp) (pCmpS HSO.out (L := 6 * L + 8) ((FTO.out.ext E3.out).isIn (by omega)) ((FO.out.ext (E1.out.trans (E2.out.trans E3.out))).isIn (by omega)) (by omega)) ?_
                rintro e w4 ⟨rfl, hx⟩
                have E4 := Lib.hid (show Ext w3 w4 from hx)
                clear hx
                refine ⟨_, rfl, ?_⟩
                (try simp only [Act.put, sIT, sC0, sCS])
                refine mv_val (v := ?vm82) (w' := w4) (by rfl) ?hm82 ?rm82
                case hm82 => (go_simp <;> with_reducible rfl)
                (try simp only [Act.put, sIT, sC0, sCS])
                refine mv_val (v := ?vm83) (w' := w4) (by rfl) ?hm83 ?rm83
                case hm83 => (go_simp <;> with_reducible rfl)
                (try simp only [Act.put, sIT, sC0, sCS])
                go_wp2_with fail
                go_roundg 1
                case measure => omega
                case rel => exact Or.inr (Or.inl ⟨rfl, by go_num, (by rw [qLo_out (a := A0) (b := B0) (c := C0) (qTop_out2 (by have := HSO.out; omega)), qHi_out (a := A0) (b := B0) (c := C0) (qTop_out2 (by have := HSO.out; omega))]; exact HST.out.turn (HST.out.box.ext (E1.out.trans (E2.out.trans (E3.out.trans E4.out)))) (Turn.of_ext (E1.out.trans (E2.out.trans (E3.out.trans E4.out)))))⟩)
            · go_upto_region 10 with fail
              refine wp_region_lit ?_
              refine mv_val (v := ?vm84) (w' := wc) (by rfl) ?hm84 ?rm84
              case hm84 => (go_simp <;> with_reducible rfl)
              (try simp only [Act.put, sIT, sC0, sCS])
              refine mv_val (v := ?vm86) (w' := wc) (by rfl) ?hm86 ?rm86
              case hm86 => (go_simp <;> with_reducible rfl)
              (try simp only [Act.put, sIT, sC0, sCS])
              refine mv_val (v := ?vm87) (w' := wc) (by rfl) ?hm87 ?rm87
              case hm87 => (go_simp <;> with_reducible rfl)
              (try simp only [Act.put, sIT, sC0, sCS])
              refine mv_load (by rfl) _ _ (by rfl) X9 _ c9 _ (by rfl) Fb9.out Try.underlying41 (by rfl) (by rw [show (c9 : Array Value).size = 4 from Z9]; kernel_rfl) ?_
              (try simp only [Act.put, sIT, sC0, sCS])
              refine mv_load (by rfl) _ _ (by rfl) V5 _ cz _ (by rfl) (FV5.out.ext (E1.out.trans E2.out)) Try.underlying41 (by rfl) (by rw [show (cz : Array Value).size = 4 from ZZ]; kernel_rfl) ?_
              (try simp only [Act.put, sIT, sC0, sCS])
              refine mv_call (by rfl) (by go_simp) (pCmpS HSZ.out (L := 6 * L + 8) (FTO.out.isIn (by omega)) ((FZ.out.ext (E1.out.trans E2.out)).isIn (by omega)) (by omega)) ?_
              rintro e w3 ⟨rfl, hx⟩
              have E3 := Lib.hid (show Ext wc w3 from hx)
              clear hx
              refine ⟨_, rfl, ?_⟩
              (try simp only [Act.put, sIT, sC0, sCS])
              refine mv_val (v := ?vm89) (w' := w3) (by rfl) ?hm89 ?rm89
              case hm89 => (go_simp <;> with_reducible rfl)
              (try simp only [Act.put, sIT, sC0, sCS])
              refine mv_val (v := ?vm90) (w' := w3) (by rfl) ?hm90 ?rm90
              case hm90 => (go_simp <;> with_reducible rfl)
              (try simp only [Act.put, sIT, sC0, sCS])
              refine mv_val (v := ?vm91) (w' := w3) (by rfl) ?hm91 ?rm91
              case hm91 => (go_simp <;> with_reducible rfl)
              (try simp only [Act.put, sIT, sC0, sCS])
              refine mv_skip (by rfl) ?_
              (try simp only [Act.put, sIT, sC0, sCS])
              refine mv_skip (by rfl) ?_
              (try simp only [Act.put, sIT, sC0, sCS])
              refine mv_skip (by rfl) ?_
              (try simp only [Act.put, sIT, sC0, sCS])
              refine mv_skip (by rfl) ?_
              (try simp only [Act.put, sIT, sC0, sCS])
              refine mv_val (v := ?vm92) (w' := w3) (by rfl) ?hm92 ?rm92
              case hm92 => (go_simp <;> with_reducible rfl)
              (try simp only [Act.put, sIT, sC0, sCS])
              go_wp2_with fail
              go_roundg 1
              case measure => omega
              case rel => exact Or.inr (Or.inl ⟨rfl, by go_num, (by rw [qLo_out (a := A0) (b := B0) (c := C0) (qTop_out1 (by have := HSZ.out; omega)), qHi_out (a := A0) (b := B0) (c := C0) (qTop_out1 (by have := HSZ.out; omega))]; exact HST.out.turn (HST.out.box.ext (E1.out.trans (E2.out.trans E3.out))) (Turn.of_ext (E1.out.trans (E2.out.trans E3.out))))⟩)
    · have HST := Lib.hid hst
      clear hst
      have ZZ := HST.out.Z.size
      have ZO := HST.out.O.size
      have rz := rlI 0 (by decide)
      have ro := rlI 1 (by decide)
      have rfa := Nm.rl_sub A1 B1
      have rfc := Nm.rl_sub C1 B1
      have rde := Nm.rl_add (A1 - B1) (C1 - B1)
      have rto := Nm.rl_div (A1 - B1) ((A1 - B1) + (C1 - B1))
      have rlo := rl_lower (q := C1) (l := A1) (L := L) (by omega) (by omega)
      have rhi := rl_upper (q := C1) (l := A1) (L := L) (by omega) (by omega)
      have rev := rl_quadV3 (a := A1) (b := B1) (c := C1) (t := ((A1 - B1) / ((A1 - B1) + (C1 - B1)))) (L := 6 * L + 8) (by omega) (by omega) (by omega) (by omega)
      have FP := Lib.hid HST.out.P
      have FZ := Lib.hid HST.out.Z
      have FO := Lib.hid HST.out.O
      have Fbx0 := Lib.hid HST.out.kp
      have FV5 := Lib.hid HST.out.kz
      have FV6 := Lib.hid HST.out.ko
      go_upto_region 8 with fail
      go_cut [8] (fun s wx => ∃ (X8 : Nat) (c8 : Array Value), s = .pointer (some ⟨X8, 0, none⟩) ∧ NIs wx c8 (A1 - B1) ∧ Blk wx X8 41 c8 ∧ Ext wr wx)
      case first =>
        refine wp_region_held_drew (S := fun x => Ext wr x) (by kernel_rfl) (Ext.refl _).drew (fun _ => ?_)
        have E1 := Lib.hid (show Ext wr wr.drew from (Ext.refl _).drew)
        refine md_val (i := 0) (v := ?vm93) (listed' := #[true, false, false, false, false, false, false, false, false, false, false]) (by rfl) (by kernel_rfl) (by kernel_rfl) (by kernel_rfl) (by intro _ _ _ h; exact h) (by rfl) ?hm93 E1.out (by kernel_rfl) ?rm93
        case hm93 => (intro w hSw; (try dsimp only at hSw); go_simp <;> with_reducible rfl)
        (try simp only [Act.put, sIT, sC0, sCS])
        refine md_val (i := 1) (v := ?vm94) (listed' := #[true, true, false, false, false, false, false, false, false, false, false]) (by rfl) (by kernel_rfl) (by kernel_rfl) (by kernel_rfl) (by intro _ _ _ h; exact h) (by rfl) ?hm94 E1.out (by kernel_rfl) ?rm94
        case hm94 => (intro w hSw; (try dsimp only at hSw); go_simp <;> with_reducible rfl)
        (try simp only [Act.put, sIT, sC0, sCS])
        refine md_val (i := 2) (v := ?vm95) (listed' := #[true, true, true, false, false, false, false, false, false, false, false]) (by rfl) (by kernel_rfl) (by kernel_rfl) (by kernel_rfl) (by intro _ _ _ h; exact h) (by rfl) ?hm95 E1.out (by kernel_rfl) ?rm95
        case hm95 => (intro w hSw; (try dsimp only at hSw); go_simp <;> with_reducible rfl)
        (try simp only [Act.put, sIT, sC0, sCS])
        refine md_part (i := 3) (listed' := #[true, true, true, true, false, false, false, false, false, false, false]) (by rfl) (by kernel_rfl) (by kernel_rfl) (by kernel_rfl) _ _ (by rfl) w.heap.size 4 4 _ cp _ (by intro _ _ _ h; exact h) (by rfl) (by rfl) (fun x hx => (Fbx0.out).ext hx) Try.underlying41 (by rfl) (by kernel_rfl) (by rw [show (cp : Array Value).size = 24 from ZP]; omega) E1.out (by kernel_rfl) ?_
        (try simp only [Act.put, sIT, sC0, sCS])
        refine md_val (i := 4) (v := ?vm96) (listed' := #[true, true, true, true, true, false, false, false, false, false, false]) (by rfl) (by kernel_rfl) (by kernel_rfl) (by kernel_rfl) (by intro _ _ _ h; exact h) (by rfl) ?hm96 E1.out (by kernel_rfl) ?rm96
        case hm96 => (intro w hSw; (try dsimp only at hSw); go_simp <;> with_reducible rfl)
        (try simp only [Act.put, sIT, sC0, sCS])
        refine md_val (i := 5) (v := ?vm97) (listed' := #[true, true, true, true, true, true, false, false, false, false, false]) (by rfl) (by kernel_rfl) (by kernel_rfl) (by kernel_rfl) (by intro _ _ _ h; exact h) (by rfl) ?hm97 E1.out (by kernel_rfl) ?rm97
        case hm97 => (intro w hSw; (try dsimp only at hSw); go_simp <;> with_reducible rfl)
        (try simp only [Act.put, sIT, sC0, sCS])
        refine md_val (i := 6) (v := ?vm98) (listed' := #[true, true, true, true, true, true, true, false, false, false, false]) (by rfl) (by kernel_rfl) (by kernel_rfl) (by kernel_rfl) (by intro _ _ _ h; exact h) (by rfl) ?hm98 E1.out (by kernel_rfl) ?rm98
        case hm98 => (intro w hSw; (try dsimp only at hSw); go_simp <;> with_reducible rfl)
        (try simp only [Act.put, sIT, sC0, sCS])
        refine md_part (i := 7) (listed' := #[true, true, true, true, true, true, true, true, false, false, false]) (by rfl) (by kernel_rfl) (by kernel_rfl) (by kernel_rfl) _ _ (by rfl) w.heap.size 12 4 _ cp _ (by intro _ _ _ h; exact h) (by rfl) (by rfl) (fun x hx => (Fbx0.out).ext hx) Try.underlying41 (by rfl) (by kernel_rfl) (by rw [show (cp : Array Value).size = 24 from ZP]; omega) E1.out (by kernel_rfl) ?_
        (try simp only [Act.put, sIT, sC0, sCS])
        refine md_call_or (i := 8) (j := 9) (listed' := #[true, true, true, true, true, true, true, true, true, false, false]) (lj := #[true, true, true, true, true, true, true, true, false, true, false]) (u := .pointer (some ⟨wr.drew.heap.size, 0, none⟩)) (wj := (wr.drew.alloc (.cells #[.bool false, .slice none 0 0, .bool false, .slice none 0 0] 41))) (by rfl) (by rfl) (by kernel_rfl) (by rfl) (by go_simp) (pSub (L := L) (FP.out.ext E1.out).e1 (FP.out.ext E1.out).e3 (by omega)) (by kernel_rfl) (by rfl) (by go_simp) (E1.out.alloc _) (by kernel_rfl) ?_ ?_
        · rintro e w2 ⟨cf, rfl, hc, hx⟩
          have E2 := Lib.hid (show Ext wr.drew w2 from hx)
          have FFA := Lib.hid hc
          have Z_cf := hc.size
          have O_cf := hc.one
          clear hc
          clear hx
          refine ⟨_, rfl, (E1.out.trans E2.out), ?_⟩
          (try simp only [Act.put, sIT, sC0, sCS])
          refine md_one (i := 9) (listed' := #[true, true, true, true, true, true, true, true, true, true, false]) (v := .pointer (some ⟨w2.heap.size, 0, none⟩)) (w' := (w2.alloc (.cells #[.bool false, .slice none 0 0, .bool false, .slice none 0 0] 41))) (by rfl) (by kernel_rfl) (by rfl) (by go_simp) ((E1.out.trans E2.out).alloc _) (by kernel_rfl) ?_
          (try simp only [Act.put, sIT, sC0, sCS])
          have E3 := Lib.hid (show Ext w2 (w2.alloc (.cells #[.bool false, .slice none 0 0, .bool false, .slice none 0 0] 41)) from (Ext.refl _).alloc _)
          have Fnb9 := Lib.hid (Blk.new w2 41 #[.bool false, .slice none 0 0, .bool false, .slice none 0 0])
          have hbx := Fnb9.out
          have ob := Own.setCells (w2.alloc (.cells #[.bool false, .slice none 0 0, .bool false, .slice none 0 0] 41)) w2.heap.size cf
          have hgb : wr.heap.size ≤ w2.heap.size := (E1.out.trans E2.out).size
          have hS8 : Ext wr ((w2.alloc (.cells #[.bool false, .slice none 0 0, .bool false, .slice none 0 0] 41)).setCells w2.heap.size 0 (cf : Array Value).toList) := ob.ext (E1.out.trans (E2.out.trans E3.out)) hgb
          refine md_store (i := 10) (listed' := #[true, true, true, true, true, true, true, true, true, true, true]) (by rfl) (by kernel_rfl) (by rfl) _ _ _ (by rfl) w2.heap.size 41 #[.bool false, .slice none 0 0, .bool false, .slice none 0 0] cf (by rfl) (by rfl) hbx (by rw [show (cf : Array Value).size = 4 from Z_cf]; rfl) (by rw [show (cf : Array Value).size = 4 from Z_cf]; kernel_rfl) O_cf hS8 (by kernel_rfl) ?_
          (try simp only [Act.put])
          refine wpAnyH_done (by kernel_rfl) ?_ _
          go_wp2_with fail
          go_meet
          exact ⟨_, _, rfl, ((FFA.out.ext E3.out)).map (fun r q h => h.own hbx (noU_of _ (by simp)) ob), hbx.setCells cf (by rw [show (cf : Array Value).size = 4 from Z_cf]; rfl), hS8⟩
        · (try simp only [Act.put, sIT, sC0, sCS])
          have E2 := Lib.hid (show Ext wr.drew (wr.drew.alloc (.cells #[.bool false, .slice none 0 0, .bool false, .slice none 0 0] 41)) from (Ext.refl _).alloc _)
          have Fnb9 := Lib.hid (Blk.new wr.drew 41 #[.bool false, .slice none 0 0, .bool false, .slice none 0 0])
          refine md_call (i := 8) (listed' := #[true, true, true, true, true, true, true, true, true, true, false]) (by rfl) (by kernel_rfl) (by rfl) (by go_simp) (pSub (L := L) (FP.out.ext (E1.out.trans E2.out)).e1 (FP.out.ext (E1.out.trans E2.out)).e3 (by omega)) (by kernel_rfl) ?_
          rintro e w3 ⟨cf, rfl, hc, hx⟩
          have E3 := Lib.hid (show Ext (wr.drew.alloc (.cells #[.bool false, .slice none 0 0, .bool false, .slice none 0 0] 41)) w3 from hx)
          have FFA := Lib.hid hc
          have Z_cf := hc.size
          have O_cf := hc.one
          clear hc
          clear hx
          refine ⟨_, rfl, (E1.out.trans (E2.out.trans E3.out)), ?_⟩
          (try simp only [Act.put, sIT, sC0, sCS])
          have hbx := (Fnb9.out.ext E3.out)
          have ob := Own.setCells w3 wr.drew.heap.size cf
          have hgb : wr.heap.size ≤ wr.drew.heap.size := E1.out.size
          have hS8 : Ext wr (w3.setCells wr.drew.heap.size 0 (cf : Array Value).toList) := ob.ext (E1.out.trans (E2.out.trans E3.out)) hgb
          refine md_store (i := 10) (listed' := #[true, true, true, true, true, true, true, true, true, true, true]) (by rfl) (by kernel_rfl) (by rfl) _ _ _ (by rfl) wr.drew.heap.size 41 #[.bool false, .slice none 0 0, .bool false, .slice none 0 0] cf (by rfl) (by rfl) hbx (by rw [show (cf : Array Value).size = 4 from Z_cf]; rfl) (by rw [show (cf : Array Value).size = 4 from Z_cf]; kernel_rfl) O_cf hS8 (by kernel_rfl) ?_
          (try simp only [Act.put])
          refine wpAnyH_done (by kernel_rfl) ?_ _
          go_wp2_with fail
          go_meet
          exact ⟨_, _, rfl, (FFA.out).map (fun r q h => h.own hbx (noU_of _ (by simp)) ob), hbx.setCells cf (by rw [show (cf : Array Value).size = 4 from Z_cf]; rfl), hS8⟩
      case rest =>
        obtain ⟨X8, c8, rfl, hfa, hb8, hx⟩ := hcut
        generalize wc = wv at *
        have E1 := Lib.hid (show Ext wr wv from hx)
        have Z8 := hfa.size
        have O8 := hfa.one
        have FFA := Lib.hid hfa
        have Fb8 := Lib.hid hb8
        clear hfa hb8 hx
        by_cases hden : ((A1 - B1) + (C1 - B1)) = 0
        · go_upto_region 9 with fail
          go_cut [9, 10] (fun s e wx => ∃ X9 : Nat, s = .pointer (some ⟨X9, 0, none⟩) ∧ e = .int .i64 9 ∧ Ext wv wx)
          case first =>
            refine wp_region_held_drew (S := fun x => Ext wv x) (by kernel_rfl) (Ext.refl _).drew (fun _ => ?_)
            have E2 := Lib.hid (show Ext wv wv.drew from (Ext.refl _).drew)
            refine md_load (i := 0) (listed' := #[true, false, false, false, false, false, false, false, false, false, false, false, false, false, false, false, false, false, false]) (by rfl) (by kernel_rfl) (by kernel_rfl) (by kernel_rfl) _ _ (by rfl) X8 _ c8 _ (by intro _ _ _ h; exact h) (by rfl) (by rfl) (fun x hx => (Fb8.out).ext hx) Try.underlying41 (by rfl) (by rw [show (c8 : Array Value).size = 4 from Z8]; kernel_rfl) E2.out (by kernel_rfl) ?_
            (try simp only [Act.put, sIT, sC0, sCS])
            refine md_load (i := 1) (listed' := #[true, true, false, false, false, false, false, false, false, false, false, false, false, false, false, false, false, false, false]) (by rfl) (by kernel_rfl) (by kernel_rfl) (by kernel_rfl) _ _ (by rfl) X8 _ c8 _ (by intro _ _ _ h; exact h) (by rfl) (by rfl) (fun x hx => (Fb8.out).ext hx) Try.underlying41 (by rfl) (by rw [show (c8 : Array Value).size = 4 from Z8]; kernel_rfl) E2.out (by kernel_rfl) ?_
            (try simp only [Act.put, sIT, sC0, sCS])
            refine md_val (i := 2) (v := ?vm99) (listed' := #[true, true, true, false, false, false, false, false, false, false, false, false, false, false, false, false, false, false, false]) (by rfl) (by kernel_rfl) (by kernel_rfl) (by kernel_rfl) (by intro _ _ _ h; exact h) (by rfl) ?hm99 E2.out (by kernel_rfl) ?rm99
            case hm99 => (intro w hSw; (try dsimp only at hSw); go_simp <;> with_reducible rfl)
            (try simp only [Act.put, sIT, sC0, sCS])
            refine md_val (i := 3) (v := ?vm100) (listed' := #[true, true, true, true, false, false, false, false, false, false, false, false, false, false, false, false, false, false, false]) (by rfl) (by kernel_rfl) (by kernel_rfl) (by kernel_rfl) (by intro _ _ _ h; exact h) (by rfl) ?hm100 E2.out (by kernel_rfl) ?rm100
            case hm100 => (intro w hSw; (try dsimp only at hSw); go_simp <;> with_reducible rfl)
            (try simp only [Act.put, sIT, sC0, sCS])
            refine md_val (i := 4) (v := ?vm101) (listed' := #[true, true, true, true, true, false, false, false, false, false, false, false, false, false, false, false, false, false, false]) (by rfl) (by kernel_rfl) (by kernel_rfl) (by kernel_rfl) (by intro _ _ _ h; exact h) (by rfl) ?hm101 E2.out (by kernel_rfl) ?rm101
            case hm101 => (intro w hSw; (try dsimp only at hSw); go_simp <;> with_reducible rfl)
            (try simp only [Act.put, sIT, sC0, sCS])
            refine md_part (i := 5) (listed' := #[true, true, true, true, true, true, false, false, false, false, false, false, false, false, false, false, false, false, false]) (by rfl) (by kernel_rfl) (by kernel_rfl) (by kernel_rfl) _ _ (by rfl) w.heap.size 20 4 _ cp _ (by intro _ _ _ h; exact h) (by rfl) (by rfl) (fun x hx => ((Fbx0.out.ext E1.out)).ext hx) Try.underlying41 (by rfl) (by kernel_rfl) (by rw [show (cp : Array Value).size = 24 from ZP]; omega) E2.out (by kernel_rfl) ?_
            (try simp only [Act.put, sIT, sC0, sCS])
            refine md_val (i := 6) (v := ?vm102) (listed' := #[true, true, true, true, true, true, true, false, false, false, false, false, false, false, false, false, false, false, false]) (by rfl) (by kernel_rfl) (by kernel_rfl) (by kernel_rfl) (by intro _ _ _ h; exact h) (by rfl) ?hm102 E2.out (by kernel_rfl) ?rm102
            case hm102 => (intro w hSw; (try dsimp only at hSw); go_simp <;> with_reducible rfl)
            (try simp only [Act.put, sIT, sC0, sCS])
            refine md_val (i := 7) (v := ?vm103) (listed' := #[true, true, true, true, true, true, true, true, false, false, false, false, false, false, false, false, false, false, false]) (by rfl) (by kernel_rfl) (by kernel_rfl) (by kernel_rfl) (by intro _ _ _ h; exact h) (by rfl) ?hm103 E2.out (by kernel_rfl) ?rm103
            case hm103 => (intro w hSw; (try dsimp only at hSw); go_simp <;> with_reducible rfl)
            (try simp only [Act.put, sIT, sC0, sCS])
            refine md_val (i := 8) (v := ?vm104) (listed' := #[true, true, true, true, true, true, true, true, true, false, false, false, false, false, false, false, false, false, false]) (by rfl) (by kernel_rfl) (by kernel_rfl) (by kernel_rfl) (by intro _ _ _ h; exact h) (by rfl) ?hm104 E2.out (by kernel_rfl) ?rm104
            case hm104 => (intro w hSw; (try dsimp only at hSw); go_simp <;> with_reducible rfl)
            (try simp only [Act.put, sIT, sC0, sCS])
            refine md_part (i := 9) (listed' := #[true, true, true, true, true, true, true, true, true, true, false, false, false, false, false, false, false, false, false]) (by rfl) (by kernel_rfl) (by kernel_rfl) (by kernel_rfl) _ _ (by rfl) w.heap.size 12 4 _ cp _ (by intro _ _ _ h; exact h) (by rfl) (by rfl) (fun x hx => ((Fbx0.out.ext E1.out)).ext hx) Try.underlying41 (by rfl) (by kernel_rfl) (by rw [show (cp : Array Value).size = 24 from ZP]; omega) E2.out (by kernel_rfl) ?_
            (try simp only [Act.put, sIT, sC0, sCS])
            refine md_call_or (i := 10) (j := 16) (listed' := #[true, true, true, true, true, true, true, true, true, true, true, false, false, false, false, false, false, false, false]) (lj := #[true, true, true, true, true, true, true, true, true, true, false, false, false, false, false, false, true, false, false]) (u := .pointer (some ⟨wv.drew.heap.size, 0, none⟩)) (wj := (wv.drew.alloc (.cells #[.bool false, .slice none 0 0, .bool false, .slice none 0 0] 41))) (by rfl) (by rfl) (by kernel_rfl) (by rfl) (by go_simp) (pSub (L := L) (FP.out.ext (E1.out.trans E2.out)).e5 (FP.out.ext (E1.out.trans E2.out)).e3 (by omega)) (by kernel_rfl) (by rfl) (by go_simp) (E2.out.alloc _) (by kernel_rfl) ?_ ?_
            · rintro e w3 ⟨cg, rfl, hc, hx⟩
              have E3 := Lib.hid (show Ext wv.drew w3 from hx)
              have FFC := Lib.hid hc
              have Z_cg := hc.size
              have O_cg := hc.one
              clear hc
              clear hx
              refine ⟨_, rfl, (E2.out.trans E3.out), ?_⟩
              (try simp only [Act.put, sIT, sC0, sCS])
              refine md_call_or (i := 11) (j := 16) (listed' := #[true, true, true, true, true, true, true, true, true, true, true, true, false, false, false, false, false, false, false]) (lj := #[true, true, true, true, true, true, true, true, true, true, true, false, false, false, false, false, true, false, false]) (u := .pointer (some ⟨w3.heap.size, 0, none⟩)) (wj := (w3.alloc (.cells #[.bool false, .slice none 0 0, .bool false, .slice none 0 0] 41))) (by rfl) (by rfl) (by kernel_rfl) (by rfl) (by go_simp) (pAdd (L := 2 * L + 1) ((FFA.out.ext (E2.out.trans E3.out)).isIn (by omega)) (FFC.out.isIn (by omega)) (by omega)) (by kernel_rfl) (by rfl) (by go_simp) ((E2.out.trans E3.out).alloc _) (by kernel_rfl) ?_ ?_
              · rintro e w4 ⟨ch, rfl, hc, hx⟩
                have E4 := Lib.hid (show Ext w3 w4 from hx)
                have FDE := Lib.hid hc
                have Z_ch := hc.size
                have O_ch := hc.one
                clear hc
                clear hx
                refine ⟨_, rfl, (E2.out.trans (E3.out.trans E4.out)), ?_⟩
                (try simp only [Act.put, sIT, sC0, sCS])
                refine md_call_or (i := 12) (j := 16) (listed' := #[true, true, true, true, true, true, true, true, true, true, true, true, true, false, false, false, false, false, false]) (lj := #[true, true, true, true, true, true, true, true, true, true, true, true, false, false, false, false, true, false, false]) (u := .pointer (some ⟨w4.heap.size, 0, none⟩)) (wj := (w4.alloc (.cells #[.bool false, .slice none 0 0, .bool false, .slice none 0 0] 41))) (by rfl) (by rfl) (by kernel_rfl) (by rfl) (by go_simp) (pQuo0 (L := 6 * L + 8) ((FFA.out.ext (E2.out.trans (E3.out.trans E4.out))).isIn (by omega)) (FDE.out.isIn (by omega)) (by omega) hden) (by kernel_rfl) (by rfl) (by go_simp) ((E2.out.trans (E3.out.trans E4.out)).alloc _) (by kernel_rfl) ?_ ?_
                · rintro e w5 ⟨rfl, hx⟩
                  have E5 := Lib.hid (show Ext w4 w5 from hx)
                  clear hx
                  refine ⟨_, rfl, (E2.out.trans (E3.out.trans (E4.out.trans E5.out))), ?_⟩
                  (try simp only [Act.put, sIT, sC0, sCS])
                  refine md_val (i := 13) (v := ?vm105) (listed' := #[true, true, true, true, true, true, true, true, true, true, true, true, true, true, false, false, false, false, false]) (by rfl) (by kernel_rfl) (by kernel_rfl) (by kernel_rfl) (by intro _ _ _ h; exact h) (by rfl) ?hm105 (E2.out.trans (E3.out.trans (E4.out.trans E5.out))) (by kernel_rfl) ?rm105
                  case hm105 => (intro w hSw; (try dsimp only at hSw); go_simp <;> with_reducible rfl)
                  (try simp only [Act.put, sIT, sC0, sCS])
                  refine md_val (i := 14) (v := ?vm106) (listed' := #[true, true, true, true, true, true, true, true, true, true, true, true, true, true, true, false, false, false, false]) (by rfl) (by kernel_rfl) (by kernel_rfl) (by kernel_rfl) (by intro _ _ _ h; exact h) (by rfl) ?hm106 (E2.out.trans (E3.out.trans (E4.out.trans E5.out))) (by kernel_rfl) ?rm106
                  case hm106 => (intro w hSw; (try dsimp only at hSw); go_simp <;> with_reducible rfl)
                  (try simp only [Act.put, sIT, sC0, sCS])
                  refine md_val (i := 15) (v := ?vm107) (listed' := #[true, true, true, true, true, true, true, true, true, true, true, true, true, true, true, true, false, false, false]) (by rfl) (by kernel_rfl) (by kernel_rfl) (by kernel_rfl) (by intro _ _ _ h; exact h) (by rfl) ?hm107 (E2.out.trans (E3.out.trans (E4.out.trans E5.out))) (by kernel_rfl) ?rm107
                  case hm107 => (intro w hSw; (try dsimp only at hSw); go_simp <;> with_reducible rfl)
                  (try simp only [Act.put, sIT, sC0, sCS])
                  refine md_one (i := 16) (listed' := #[true, true, true, true, true, true, true, true, true, true, true, true, true, true, true, true, true, false, false]) (v := .pointer (some ⟨w5.heap.size, 0, none⟩)) (w' := (w5.alloc (.cells #[.bool false, .slice none 0 0, .bool false, .slice none 0 0] 41))) (by rfl) (by kernel_rfl) (by rfl) (by go_simp) ((E2.out.trans (E3.out.trans (E4.out.trans E5.out))).alloc _) (by kernel_rfl) ?_
                  (try simp only [Act.put, sIT, sC0, sCS])
                  have E6 := Lib.hid (show Ext w5 (w5.alloc (.cells #[.bool false, .slice none 0 0, .bool false, .slice none 0 0] 41)) from (Ext.refl _).alloc _)
                  have Fnb16 := Lib.hid (Blk.new w5 41 #[.bool false, .slice none 0 0, .bool false, .slice none 0 0])
                  have hbx := Fnb16.out
                  have ob := Own.setCells (w5.alloc (.cells #[.bool false, .slice none 0 0, .bool false, .slice none 0 0] 41)) w5.heap.size #[.bool false, .slice none 0 0, .bool false, .slice none 0 0]
                  have hgb : wv.heap.size ≤ w5.heap.size := (E2.out.trans (E3.out.trans (E4.out.trans E5.out))).size
                  have hS8 : Ext wv ((w5.alloc (.cells #[.bool false, .slice none 0 0, .bool false, .slice none 0 0] 41)).setCells w5.heap.size 0 (#[.bool false, .slice none 0 0, .bool false, .slice none 0 0] : Array Value).toList) := ob.ext (E2.out.trans (E3.out.trans (E4.out.trans (E5.out.trans E6.out)))) hgb
                  refine md_store (i := 17) (listed' := #[true, true, true, true, true, true, true, true, true, true, true, true, true, true, true, true, true, true, false]) (by rfl) (by kernel_rfl) (by rfl) _ _ _ (by rfl) w5.heap.size 41 #[.bool false, .slice none 0 0, .bool false, .slice none 0 0] #[.bool false, .slice none 0 0, .bool false, .slice none 0 0] (by rfl) (by rfl) hbx rfl (by kernel_rfl) (all_oneCell_toArray (by simp [Value.oneCell'])) hS8 (by kernel_rfl) ?_
                  (try simp only [Act.put])
                  refine md_val (i := 18) (v := ?vm108) (listed' := #[true, true, true, true, true, true, true, true, true, true, true, true, true, true, true, true, true, true, true]) (by rfl) (by kernel_rfl) (by kernel_rfl) (by kernel_rfl) (by intro _ _ _ h; exact h) (by rfl) ?hm108 hS8 (by kernel_rfl) ?rm108
                  case hm108 => (intro w hSw; (try dsimp only at hSw); go_simp <;> with_reducible rfl)
                  (try simp only [Act.put])
                  refine wpAnyH_done (by kernel_rfl) ?_ _
                  go_wp2_with fail
                  go_meet
                  exact ⟨_, rfl, rfl, hS8⟩
                · (try simp only [Act.put, sIT, sC0, sCS])
                  have E5 := Lib.hid (show Ext w4 (w4.alloc (.cells #[.bool false, .slice none 0 0, .bool false, .slice none 0 0] 41)) from (Ext.refl _).alloc _)
                  have Fnb16 := Lib.hid (Blk.new w4 41 #[.bool false, .slice none 0 0, .bool false, .slice none 0 0])
                  refine md_call (i := 12) (listed' := #[true, true, true, true, true, true, true, true, true, true, true, true, true, false, false, false, true, false, false]) (by rfl) (by kernel_rfl) (by rfl) (by go_simp) (pQuo0 (L := 6 * L + 8) ((FFA.out.ext (E2.out.trans (E3.out.trans (E4.out.trans E5.out)))).isIn (by omega)) ((FDE.out.ext E5.out).isIn (by omega)) (by omega) hden) (by kernel_rfl) ?_
                  rintro e w6 ⟨rfl, hx⟩
                  have E6 := Lib.hid (show Ext (w4.alloc (.cells #[.bool false, .slice none 0 0, .bool false, .slice none 0 0] 41)) w6 from hx)
                  clear hx
                  refine ⟨_, rfl, (E2.out.trans (E3.out.trans (E4.out.trans (E5.out.trans E6.out)))), ?_⟩
                  (try simp only [Act.put, sIT, sC0, sCS])
                  refine md_val (i := 13) (v := ?vm109) (listed' := #[true, true, true, true, true, true, true, true, true, true, true, true, true, true, false, false, true, false, false]) (by rfl) (by kernel_rfl) (by kernel_rfl) (by kernel_rfl) (by intro _ _ _ h; exact h) (by rfl) ?hm109 (E2.out.trans (E3.out.trans (E4.out.trans (E5.out.trans E6.out)))) (by kernel_rfl) ?rm109
                  case hm109 => (intro w hSw; (try dsimp only at hSw); go_simp <;> with_reducible rfl)
                  (try simp only [Act.put, sIT, sC0, sCS])
                  refine md_val (i := 14) (v := ?vm110) (listed' := #[true, true, true, true, true, true, true, true, true, true, true, true, true, true, true, false, true, false, false]) (by rfl) (by kernel_rfl) (by kernel_rfl) (by kernel_rfl) (by intro _ _ _ h; exact h) (by rfl) ?hm110 (E2.out.trans (E3.out.trans (E4.out.trans (E5.out.trans E6.out)))) (by kernel_rfl) ?rm110
                  case hm110 => (intro w hSw; (try dsimp only at hSw); go_simp <;> with_reducible rfl)
                  (try simp only [Act.put, sIT, sC0, sCS])
                  refine md_val (i := 15) (v := ?vm111) (listed' := #[true, true, true, true, true, true, true, true, true, true, true, true, true, true, true, true, true, false, false]) (by rfl) (by kernel_rfl) (by kernel_rfl) (by kernel_rfl) (by intro _ _ _ h; exact h) (by rfl) ?hm111 (E2.out.trans (E3.out.trans (E4.out.trans (E5.out.trans E6.out)))) (by kernel_rfl) ?rm111
                  case hm111 => (intro w hSw; (try dsimp only at hSw); go_simp <;> with_reducible rfl)
                  (try simp only [Act.put, sIT, sC0, sCS])
                  have hbx := (Fnb16.out.ext E6.out)
                  have ob := Own.setCells w6 w4.heap.size #[.bool false, .slice none 0 0, .bool false, .slice none 0 0]
                  have hgb : wv.heap.size ≤ w4.heap.size := (E2.out.trans (E3.out.trans E4.out)).size
                  have hS8 : Ext wv (w6.setCells w4.heap.size 0 (#[.bool false, .slice none 0 0, .bool false, .slice none 0 0] : Array Value).toList) := ob.ext (E2.out.trans (E3.out.trans (E4.out.trans (E5.out.trans E6.out)))) hgb
                  refine md_store (i := 17) (listed' := #[true, true, true, true, true, true, true, true, true, true, true, true, true, true, true, true, true, true, false]) (by rfl) (by kernel_rfl) (by rfl) _ _ _ (by rfl) w4.heap.size 41 #[.bool false, .slice none 0 0, .bool false, .slice none 0 0] #[.bool false, .slice none 0 0, .bool false, .slice none 0 0] (by rfl) (by rfl) hbx rfl (by kernel_rfl) (all_oneCell_toArray (by simp [Value.oneCell'])) hS8 (by kernel_rfl) ?_
                  (try simp only [Act.put])
                  refine md_val (i := 18) (v := ?vm112) (listed' := #[true, true, true, true, true, true, true, true, true, true, true, true, true, true, true, true, true, true, true]) (by rfl) (by kernel_rfl) (by kernel_rfl) (by kernel_rfl) (by intro _ _ _ h; exact h) (by rfl) ?hm112 hS8 (by kernel_rfl) ?rm112
                  case hm112 => (intro w hSw; (try dsimp only at hSw); go_simp <;> with_reducible rfl)
                  (try simp only [Act.put])
                  refine wpAnyH_done (by kernel_rfl) ?_ _
                  go_wp2_with fail
                  go_meet
                  exact ⟨_, rfl, rfl, hS8⟩
              · (try simp only [Act.put, sIT, sC0, sCS])
                have E4 := Lib.hid (show Ext w3 (w3.alloc (.cells #[.bool false, .slice none 0 0, .bool false, .slice none 0 0] 41)) from (Ext.refl _).alloc _)
                have Fnb16 := Lib.hid (Blk.new w3 41 #[.bool false, .slice none 0 0, .bool false, .slice none 0 0])
                refine md_call (i := 11) (listed' := #[true, true, true, true, true, true, true, true, true, true, true, true, false, false, false, false, true, false, false]) (by rfl) (by kernel_rfl) (by rfl) (by go_simp) (pAdd (L := 2 * L + 1) ((FFA.out.ext (E2.out.trans (E3.out.trans E4.out))).isIn (by omega)) ((FFC.out.ext E4.out).isIn (by omega)) (by omega)) (by kernel_rfl) ?_
                rintro e w5 ⟨ch, rfl, hc, hx⟩
                have E5 := Lib.hid (show Ext (w3.alloc (.cells #[.bool false, .slice none 0 0, .bool false, .slice none 0 0] 41)) w5 from hx)
                have FDE := Lib.hid hc
                have Z_ch := hc.size
                have O_ch := hc.one
                clear hc
                clear hx
                refine ⟨_, rfl, (E2.out.trans (E3.out.trans (E4.out.trans E5.out))), ?_⟩
                (try simp only [Act.put, sIT, sC0, sCS])
                refine md_call (i := 12) (listed' := #[true, true, true, true, true, true, true, true, true, true, true, true, true, false, false, false, true, false, false]) (by rfl) (by kernel_rfl) (by rfl) (by go_simp) (pQuo0 (L := 6 * L + 8) ((FFA.out.ext (E2.out.trans (E3.out.trans (E4.out.trans E5.out)))).isIn (by omega)) (FDE.out.isIn (by omega)) (by omega) hden) (by kernel_rfl) ?_
                rintro e w6 ⟨rfl, hx⟩
                have E6 := Lib.hid (show Ext w5 w6 from hx)
                clear hx
                refine ⟨_, rfl, (E2.out.trans (E3.out.trans (E4.out.trans (E5.out.trans E6.out)))), ?_⟩
                (try simp only [Act.put, sIT, sC0, sCS])
                refine md_val (i := 13) (v := ?vm113) (listed' := #[true, true, true, true, true, true, true, true, true, true, true, true, true, true, false, false, true, false, false]) (by rfl) (by kernel_rfl) (by kernel_rfl) (by kernel_rfl) (by intro _ _ _ h; exact h) (by rfl) ?hm113 (E2.out.trans (E3.out.trans (E4.out.trans (E5.out.trans E6.out)))) (by kernel_rfl) ?rm113
                case hm113 => (intro w hSw; (try dsimp only at hSw); go_simp <;> with_reducible rfl)
                (try simp only [Act.put, sIT, sC0, sCS])
                refine md_val (i := 14) (v := ?vm114) (listed' := #[true, true, true, true, true, true, true, true, true, true, true, true, true, true, true, false, true, false, false]) (by rfl) (by kernel_rfl) (by kernel_rfl) (by kernel_rfl) (by intro _ _ _ h; exact h) (by rfl) ?hm114 (E2.out.trans (E3.out.trans (E4.out.trans (E5.out.trans E6.out)))) (by kernel_rfl) ?rm114
                case hm114 => (intro w hSw; (try dsimp only at hSw); go_simp <;> with_reducible rfl)
                (try simp only [Act.put, sIT, sC0, sCS])
                refine md_val (i := 15) (v := ?vm115) (listed' := #[true, true, true, true, true, true, true, true, true, true, true, true, true, true, true, true, true, false, false]) (by rfl) (by kernel_rfl) (by kernel_rfl) (by kernel_rfl) (by intro _ _ _ h; exact h) (by rfl) ?hm115 (E2.out.trans (E3.out.trans (E4.out.trans (E5.out.trans E6.out)))) (by kernel_rfl) ?rm115
                case hm115 => (intro w hSw; (try dsimp only at hSw); go_simp <;> with_reducible rfl)
                (try simp only [Act.put, sIT, sC0, sCS])
                have hbx := (Fnb16.out.ext (E5.out.trans E6.out))
                have ob := Own.setCells w6 w3.heap.size #[.bool false, .slice none 0 0, .bool false, .slice none 0 0]
                have hgb : wv.heap.size ≤ w3.heap.size := (E2.out.trans E3.out).size
                have hS8 : Ext wv (w6.setCells w3.heap.size 0 (#[.bool false, .slice none 0 0, .bool false, .slice none 0 0] : Array Value).toList) := ob.ext (E2.out.trans (E3.out.trans (E4.out.trans (E5.out.trans E6.out)))) hgb
                refine md_store (i := 17) (listed' := #[true, true, true, true, true, true, true, true, true, true, true, true, true, true, true, true, true, true, false]) (by rfl) (by kernel_rfl) (by rfl) _ _ _ (by rfl) w3.heap.size 41 #[.bool false, .slice none 0 0, .bool false, .slice none 0 0] #[.bool false, .slice none 0 0, .bool false, .slice none 0 0] (by rfl) (by rfl) hbx rfl (by kernel_rfl) (all_oneCell_toArray (by simp [Value.oneCell'])) hS8 (by kernel_rfl) ?_
                (try simp only [Act.put])
                refine md_val (i := 18) (v := ?vm116) (listed' := #[true, true, true, true, true, true, true, true, true, true, true, true, true, true, true, true, true, true, true]) (by rfl) (by kernel_rfl) (by kernel_rfl) (by kernel_rfl) (by intro _ _ _ h; exact h) (by rfl) ?hm116 hS8 (by kernel_rfl) ?rm116
                case hm116 => (intro w hSw; (try dsimp only at hSw); go_simp <;> with_reducible rfl)
                (try simp only [Act.put])
                refine wpAnyH_done (by kernel_rfl) ?_ _
                go_wp2_with fail
                go_meet
                exact ⟨_, rfl, rfl, hS8⟩
            · (try simp only [Act.put, sIT, sC0, sCS])
              have E3 := Lib.hid (show Ext wv.drew (wv.drew.alloc (.cells #[.bool false, .slice none 0 0, .bool false, .slice none 0 0] 41)) from (Ext.refl _).alloc _)
              have Fnb16 := Lib.hid (Blk.new wv.drew 41 #[.bool false, .slice none 0 0, .bool false, .slice none 0 0])
              refine md_call (i := 10) (listed' := #[true, true, true, true, true, true, true, true, true, true, true, false, false, false, false, false, true, false, false]) (by rfl) (by kernel_rfl) (by rfl) (by go_simp) (pSub (L := L) (FP.out.ext (E1.out.trans (E2.out.trans E3.out))).e5 (FP.out.ext (E1.out.trans (E2.out.trans E3.out))).e3 (by omega)) (by kernel_rfl) ?_
              rintro e w4 ⟨cg, rfl, hc, hx⟩
              have E4 := Lib.hid (show Ext (wv.drew.alloc (.cells #[.bool false, .slice none 0 0, .bool false, .slice none 0 0] 41)) w4 from hx)
              have FFC := Lib.hid hc
              have Z_cg := hc.size
              have O_cg := hc.one
              clear hc
              clear hx
              refine ⟨_, rfl, (E2.out.trans (E3.out.trans E4.out)), ?_⟩
              (try simp only [Act.put, sIT, sC0, sCS])
              refine md_call (i := 11) (listed' := #[true, true, true, true, true, true, true, true, true, true, true, true, false, false, false, false, true, false, false]) (by rfl) (by kernel_rfl) (by rfl) (by go_simp) (pAdd (L := 2 * L + 1) ((FFA.out.ext (E2.out.trans (E3.out.trans E4.out))).isIn (by omega)) (FFC.out.isIn (by omega)) (by omega)) (by kernel_rfl) ?_
              rintro e w5 ⟨ch, rfl, hc, hx⟩
              have E5 := Lib.hid (show Ext w4 w5 from hx)
              have FDE := Lib.hid hc
              have Z_ch := hc.size
              have O_ch := hc.one
              clear hc
              clear hx
              refine ⟨_, rfl, (E2.out.trans (E3.out.trans (E4.out.trans E5.out))), ?_⟩
              (try simp only [Act.put, sIT, sC0, sCS])
              refine md_call (i := 12) (listed' := #[true, true, true, true, true, true, true, true, true, true, true, true, true, false, false, false, true, false, false]) (by rfl) (by kernel_rfl) (by rfl) (by go_simp) (pQuo0 (L := 6 * L + 8) ((FFA.out.ext (E2.out.trans (E3.out.trans (E4.out.trans E5.out)))).isIn (by omega)) (FDE.out.isIn (by omega)) (by omega) hden) (by kernel_rfl) ?_
              rintro e w6 ⟨rfl, hx⟩
              have E6 := Lib.hid (show Ext w5 w6 from hx)
              clear hx
              refine ⟨_, rfl, (E2.out.trans (E3.out.trans (E4.out.trans (E5.out.trans E6.out)))), ?_⟩
              (try simp only [Act.put, sIT, sC0, sCS])
              refine md_val (i := 13) (v := ?vm117) (listed' := #[true, true, true, true, true, true, true, true, true, true, true, true, true, true, false, false, true, false, false]) (by rfl) (by kernel_rfl) (by kernel_rfl) (by kernel_rfl) (by intro _ _ _ h; exact h) (by rfl) ?hm117 (E2.out.trans (E3.out.trans (E4.out.trans (E5.out.trans E6.out)))) (by kernel_rfl) ?rm117
              case hm117 => (intro w hSw; (try dsimp only at hSw); go_simp <;> with_reducible rfl)
              (try simp only [Act.put, sIT, sC0, sCS])
              refine md_val (i := 14) (v := ?vm118) (listed' := #[true, true, true, true, true, true, true, true, true, true, true, true, true, true, true, false, true, false, false]) (by rfl) (by kernel_rfl) (by kernel_rfl) (by kernel_rfl) (by intro _ _ _ h; exact h) (by rfl) ?hm118 (E2.out.trans (E3.out.trans (E4.out.trans (E5.out.trans E6.out)))) (by kernel_rfl) ?rm118
              case hm118 => (intro w hSw; (try dsimp only at hSw); go_simp <;> with_reducible rfl)
              (try simp only [Act.put, sIT, sC0, sCS])
              refine md_val (i := 15) (v := ?vm119) (listed' := #[true, true, true, true, true, true, true, true, true, true, true, true, true, true, true, true, true, false, false]) (by rfl) (by kernel_rfl) (by kernel_rfl) (by kernel_rfl) (by intro _ _ _ h; exact h) (by rfl) ?hm119 (E2.out.trans (E3.out.trans (E4.out.trans (E5.out.trans E6.out)))) (by kernel_rfl) ?rm119
              case hm119 => (intro w hSw; (try dsimp only at hSw); go_simp <;> with_reducible rfl)
              (try simp only [Act.put, sIT, sC0, sCS])
              have hbx := (Fnb16.out.ext (E4.out.trans (E5.out.trans E6.out)))
              have ob := Own.setCells w6 wv.drew.heap.size #[.bool false, .slice none 0 0, .bool false, .slice none 0 0]
              have hgb : wv.heap.size ≤ wv.drew.heap.size := E2.out.size
              have hS8 : Ext wv (w6.setCells wv.drew.heap.size 0 (#[.bool false, .slice none 0 0, .bool false, .slice none 0 0] : Array Value).toList) := ob.ext (E2.out.trans (E3.out.trans (E4.out.trans (E5.out.trans E6.out)))) hgb
              refine md_store (i := 17) (listed' := #[true, true, true, true, true, true, true, true, true, true, true, true, true, true, true, true, true, true, false]) (by rfl) (by kernel_rfl) (by rfl) _ _ _ (by rfl) wv.drew.heap.size 41 #[.bool false, .slice none 0 0, .bool false, .slice none 0 0] #[.bool false, .slice none 0 0, .bool false, .slice none 0 0] (by rfl) (by rfl) hbx rfl (by kernel_rfl) (all_oneCell_toArray (by simp [Value.oneCell'])) hS8 (by kernel_rfl) ?_
              (try simp only [Act.put])
              refine md_val (i := 18) (v := ?vm120) (listed' := #[true, true, true, true, true, true, true, true, true, true, true, true, true, true, true, true, true, true, true]) (by rfl) (by kernel_rfl) (by kernel_rfl) (by kernel_rfl) (by intro _ _ _ h; exact h) (by rfl) ?hm120 hS8 (by kernel_rfl) ?rm120
              case hm120 => (intro w hSw; (try dsimp only at hSw); go_simp <;> with_reducible rfl)
              (try simp only [Act.put])
              refine wpAnyH_done (by kernel_rfl) ?_ _
              go_wp2_with fail
              go_meet
              exact ⟨_, rfl, rfl, hS8⟩
          case rest =>
            obtain ⟨X9, rfl, rfl, hx⟩ := hcut
            have E2 := Lib.hid (show Ext wv wc from hx)
            clear hx
            go_upto_region 10 with fail
            refine wp_region_lit ?_
            refine mv_val (v := ?vm121) (w' := wc) (by rfl) ?hm121 ?rm121
            case hm121 => (go_simp <;> with_reducible rfl)
            (try simp only [Act.put, sIT, sC0, sCS])
            refine mv_val (v := ?vm123) (w' := wc) (by rfl) ?hm123 ?rm123
            case hm123 => (go_simp <;> with_reducible rfl)
            (try simp only [Act.put, sIT, sC0, sCS])
            refine mv_val (v := ?vm124) (w' := wc) (by rfl) ?hm124 ?rm124
            case hm124 => (go_simp <;> with_reducible rfl)
            (try simp only [Act.put, sIT, sC0, sCS])
            refine mv_skip (by rfl) ?_
            (try simp only [Act.put, sIT, sC0, sCS])
            refine mv_skip (by rfl) ?_
            (try simp only [Act.put, sIT, sC0, sCS])
            refine mv_skip (by rfl) ?_
            (try simp only [Act.put, sIT, sC0, sCS])
            refine mv_skip (by rfl) ?_
            (try simp only [Act.put, sIT, sC0, sCS])
            refine mv_val (v := ?vm125) (w' := wc) (by rfl) ?hm125 ?rm125
            case hm125 => (go_simp <;> with_reducible rfl)
            (try simp only [Act.put, sIT, sC0, sCS])
            refine mv_val (v := ?vm126) (w' := wc) (by rfl) ?hm126 ?rm126
            case hm126 => (go_simp <;> with_reducible rfl)
            (try simp only [Act.put, sIT, sC0, sCS])
            refine mv_skip (by rfl) ?_
            (try simp only [Act.put, sIT, sC0, sCS])
            refine mv_skip (by rfl) ?_
            (try simp only [Act.put, sIT, sC0, sCS])
            refine mv_skip (by rfl) ?_
            (try simp only [Act.put, sIT, sC0, sCS])
            refine mv_skip (by rfl) ?_
            (try simp only [Act.put, sIT, sC0, sCS])
            refine mv_val (v := ?vm127) (w' := wc) (by rfl) ?hm127 ?rm127
            case hm127 => (go_simp <;> with_reducible rfl)
            (try simp only [Act.put, sIT, sC0, sCS])
            go_wp2_with fail
            go_roundg 0
            case measure => omega
            case rel => exact Or.inr (Or.inr ⟨rfl, by go_num, (by rw [qLo_out (a := A1) (b := B1) (c := C1) (qTop_out0 hden), qHi_out (a := A1) (b := B1) (c := C1) (qTop_out0 hden)]; exact HST.out.turn (HST.out.box.ext (E1.out.trans E2.out)) (Turn.of_ext (E1.out.trans E2.out)))⟩)
        · go_upto_region 9 with fail
          go_cut [9, 10] (fun s e wx => ∃ (X9 : Nat) (c9 : Array Value), NIs wx c9 ((A1 - B1) / ((A1 - B1) + (C1 - B1))) ∧ Blk wx X9 41 c9 ∧ s = .pointer (some ⟨X9, 0, none⟩) ∧ e = .int .i64 0 ∧ Ext wv wx)
          case first =>
            refine wp_region_held_drew (S := fun x => Ext wv x) (by kernel_rfl) (Ext.refl _).drew (fun _ => ?_)
            have E2 := Lib.hid (show Ext wv wv.drew from (Ext.refl _).drew)
            refine md_load (i := 0) (listed' := #[true, false, false, false, false, false, false, false, false, false, false, false, false, false, false, false, false, false, false]) (by rfl) (by kernel_rfl) (by kernel_rfl) (by kernel_rfl) _ _ (by rfl) X8 _ c8 _ (by intro _ _ _ h; exact h) (by rfl) (by rfl) (fun x hx => (Fb8.out).ext hx) Try.underlying41 (by rfl) (by rw [show (c8 : Array Value).size = 4 from Z8]; kernel_rfl) E2.out (by kernel_rfl) ?_
            (try simp only [Act.put, sIT, sC0, sCS])
            refine md_load (i := 1) (listed' := #[true, true, false, false, false, false, false, false, false, false, false, false, false, false, false, false, false, false, false]) (by rfl) (by kernel_rfl) (by kernel_rfl) (by kernel_rfl) _ _ (by rfl) X8 _ c8 _ (by intro _ _ _ h; exact h) (by rfl) (by rfl) (fun x hx => (Fb8.out).ext hx) Try.underlying41 (by rfl) (by rw [show (c8 : Array Value).size = 4 from Z8]; kernel_rfl) E2.out (by kernel_rfl) ?_
            (try simp only [Act.put, sIT, sC0, sCS])
            refine md_val (i := 2) (v := ?vm128) (listed' := #[true, true, true, false, false, false, false, false, false, false, false, false, false, false, false, false, false, false, false]) (by rfl) (by kernel_rfl) (by kernel_rfl) (by kernel_rfl) (by intro _ _ _ h; exact h) (by rfl) ?hm128 E2.out (by kernel_rfl) ?rm128
            case hm128 => (intro w hSw; (try dsimp only at hSw); go_simp <;> with_reducible rfl)
            (try simp only [Act.put, sIT, sC0, sCS])
            refine md_val (i := 3) (v := ?vm129) (listed' := #[true, true, true, true, false, false, false, false, false, false, false, false, false, false, false, false, false, false, false]) (by rfl) (by kernel_rfl) (by kernel_rfl) (by kernel_rfl) (by intro _ _ _ h; exact h) (by rfl) ?hm129 E2.out (by kernel_rfl) ?rm129
            case hm129 => (intro w hSw; (try dsimp only at hSw); go_simp <;> with_reducible rfl)
            (try simp only [Act.put, sIT, sC0, sCS])
            refine md_val (i := 4) (v := ?vm130) (listed' := #[true, true, true, true, true, false, false, false, false, false, false, false, false, false, false, false, false, false, false]) (by rfl) (by kernel_rfl) (by kernel_rfl) (by kernel_rfl) (by intro _ _ _ h; exact h) (by rfl) ?hm130 E2.out (by kernel_rfl) ?rm130
            case hm130 => (intro w hSw; (try dsimp only at hSw); go_simp <;> with_reducible rfl)
            (try simp only [Act.put, sIT, sC0, sCS])
            refine md_part (i := 5) (listed' := #[true, true, true, true, true, true, false, false, false, false, false, false, false, false, false, false, false, false, false]) (by rfl) (by kernel_rfl) (by kernel_rfl) (by kernel_rfl) _ _ (by rfl) w.heap.size 20 4 _ cp _ (by intro _ _ _ h; exact h) (by rfl) (by rfl) (fun x hx => ((Fbx0.out.ext E1.out)).ext hx) Try.underlying41 (by rfl) (by kernel_rfl) (by rw [show (cp : Array Value).size = 24 from ZP]; omega) E2.out (by kernel_rfl) ?_
            (try simp only [Act.put, sIT, sC0, sCS])
            refine md_val (i := 6) (v := ?vm131) (listed' := #[true, true, true, true, true, true, true, false, false, false, false, false, false, false, false, false, false, false, false]) (by rfl) (by kernel_rfl) (by kernel_rfl) (by kernel_rfl) (by intro _ _ _ h; exact h) (by rfl) ?hm131 E2.out (by kernel_rfl) ?rm131
            case hm131 => (intro w hSw; (try dsimp only at hSw); go_simp <;> with_reducible rfl)
            (try simp only [Act.put, sIT, sC0, sCS])
            refine md_val (i := 7) (v := ?vm132) (listed' := #[true, true, true, true, true, true, true, true, false, false, false, false, false, false, false, false, false, false, false]) (by rfl) (by kernel_rfl) (by kernel_rfl) (by kernel_rfl) (by intro _ _ _ h; exact h) (by rfl) ?hm132 E2.out (by kernel_rfl) ?rm132
            case hm132 => (intro w hSw; (try dsimp only at hSw); go_simp <;> with_reducible rfl)
            (try simp only [Act.put, sIT, sC0, sCS])
            refine md_val (i := 8) (v := ?vm133) (listed' := #[true, true, true, true, true, true, true, true, true, false, false, false, false, false, false, false, false, false, false]) (by rfl) (by kernel_rfl) (by kernel_rfl) (by kernel_rfl) (by intro _ _ _ h; exact h) (by rfl) ?hm133 E2.out (by kernel_rfl) ?rm133
            case hm133 => (intro w hSw; (try dsimp only at hSw); go_simp <;> with_reducible rfl)
            (try simp only [Act.put, sIT, sC0, sCS])
            refine md_part (i := 9) (listed' := #[true, true, true, true, true, true, true, true, true, true, false, false, false, false, false, false, false, false, false]) (by rfl) (by kernel_rfl) (by kernel_rfl) (by kernel_rfl) _ _ (by rfl) w.heap.size 12 4 _ cp _ (by intro _ _ _ h; exact h) (by rfl) (by rfl) (fun x hx => ((Fbx0.out.ext E1.out)).ext hx) Try.underlying41 (by rfl) (by kernel_rfl) (by rw [show (cp : Array Value).size = 24 from ZP]; omega) E2.out (by kernel_rfl) ?_
            (try simp only [Act.put, sIT, sC0, sCS])
            refine md_call_or (i := 10) (j := 16) (listed' := #[true, true, true, true, true, true, true, true, true, true, true, false, false, false, false, false, false, false, false]) (lj := #[true, true, true, true, true, true, true, true, true, true, false, false, false, false, false, false, true, false, false]) (u := .pointer (some ⟨wv.drew.heap.size, 0, none⟩)) (wj := (wv.drew.alloc (.cells #[.bool false, .slice none 0 0, .bool false, .slice none 0 0] 41))) (by rfl) (by rfl) (by kernel_rfl) (by rfl) (by go_simp) (pSub (L := L) (FP.out.ext (E1.out.trans E2.out)).e5 (FP.out.ext (E1.out.trans E2.out)).e3 (by omega)) (by kernel_rfl) (by rfl) (by go_simp) (E2.out.alloc _) (by kernel_rfl) ?_ ?_
            · rintro e w3 ⟨cg, rfl, hc, hx⟩
              have E3 := Lib.hid (show Ext wv.drew w3 from hx)
              have FFC := Lib.hid hc
              have Z_cg := hc.size
              have O_cg := hc.one
              clear hc
              clear hx
              refine ⟨_, rfl, (E2.out.trans E3.out), ?_⟩
              (try simp only [Act.put, sIT, sC0, sCS])
              refine md_call_or (i := 11) (j := 16) (listed' := #[true, true, true, true, true, true, true, true, true, true, true, true, false, false, false, false, false, false, false]) (lj := #[true, true, true, true, true, true, true, true, true, true, true, false, false, false, false, false, true, false, false]) (u := .pointer (some ⟨w3.heap.size, 0, none⟩)) (wj := (w3.alloc (.cells #[.bool false, .slice none 0 0, .bool false, .slice none 0 0] 41))) (by rfl) (by rfl) (by kernel_rfl) (by rfl) (by go_simp) (pAdd (L := 2 * L + 1) ((FFA.out.ext (E2.out.trans E3.out)).isIn (by omega)) (FFC.out.isIn (by omega)) (by omega)) (by kernel_rfl) (by rfl) (by go_simp) ((E2.out.trans E3.out).alloc _) (by kernel_rfl) ?_ ?_
              · rintro e w4 ⟨ch, rfl, hc, hx⟩
                have E4 := Lib.hid (show Ext w3 w4 from hx)
                have FDE := Lib.hid hc
                have Z_ch := hc.size
                have O_ch := hc.one
                clear hc
                clear hx
                refine ⟨_, rfl, (E2.out.trans (E3.out.trans E4.out)), ?_⟩
                (try simp only [Act.put, sIT, sC0, sCS])
                refine md_call_or (i := 12) (j := 16) (listed' := #[true, true, true, true, true, true, true, true, true, true, true, true, true, false, false, false, false, false, false]) (lj := #[true, true, true, true, true, true, true, true, true, true, true, true, false, false, false, false, true, false, false]) (u := .pointer (some ⟨w4.heap.size, 0, none⟩)) (wj := (w4.alloc (.cells #[.bool false, .slice none 0 0, .bool false, .slice none 0 0] 41))) (by rfl) (by rfl) (by kernel_rfl) (by rfl) (by go_simp) (pQuo (L := 6 * L + 8) ((FFA.out.ext (E2.out.trans (E3.out.trans E4.out))).isIn (by omega)) (FDE.out.isIn (by omega)) (by omega) hden) (by kernel_rfl) (by rfl) (by go_simp) ((E2.out.trans (E3.out.trans E4.out)).alloc _) (by kernel_rfl) ?_ ?_
                · rintro e w5 ⟨ct, rfl, hc, hx⟩
                  have E5 := Lib.hid (show Ext w4 w5 from hx)
                  have FTO := Lib.hid hc
                  have Z_ct := hc.size
                  have O_ct := hc.one
                  clear hc
                  clear hx
                  refine ⟨_, rfl, (E2.out.trans (E3.out.trans (E4.out.trans E5.out))), ?_⟩
                  (try simp only [Act.put, sIT, sC0, sCS])
                  refine md_val (i := 13) (v := ?vm134) (listed' := #[true, true, true, true, true, true, true, true, true, true, true, true, true, true, false, false, false, false, false]) (by rfl) (by kernel_rfl) (by kernel_rfl) (by kernel_rfl) (by intro _ _ _ h; exact h) (by rfl) ?hm134 (E2.out.trans (E3.out.trans (E4.out.trans E5.out))) (by kernel_rfl) ?rm134
                  case hm134 => (intro w hSw; (try dsimp only at hSw); go_simp <;> with_reducible rfl)
                  (try simp only [Act.put, sIT, sC0, sCS])
                  refine md_val (i := 14) (v := ?vm135) (listed' := #[true, true, true, true, true, true, true, true, true, true, true, true, true, true, true, false, false, false, false]) (by rfl) (by kernel_rfl) (by kernel_rfl) (by kernel_rfl) (by intro _ _ _ h; exact h) (by rfl) ?hm135 (E2.out.trans (E3.out.trans (E4.out.trans E5.out))) (by kernel_rfl) ?rm135
                  case hm135 => (intro w hSw; (try dsimp only at hSw); go_simp <;> with_reducible rfl)
                  (try simp only [Act.put, sIT, sC0, sCS])
                  refine md_val (i := 15) (v := ?vm136) (listed' := #[true, true, true, true, true, true, true, true, true, true, true, true, true, true, true, true, false, false, false]) (by rfl) (by kernel_rfl) (by kernel_rfl) (by kernel_rfl) (by intro _ _ _ h; exact h) (by rfl) ?hm136 (E2.out.trans (E3.out.trans (E4.out.trans E5.out))) (by kernel_rfl) ?rm136
                  case hm136 => (intro w hSw; (try dsimp only at hSw); go_simp <;> with_reducible rfl)
                  (try simp only [Act.put, sIT, sC0, sCS])
                  refine md_one (i := 16) (listed' := #[true, true, true, true, true, true, true, true, true, true, true, true, true, true, true, true, true, false, false]) (v := .pointer (some ⟨w5.heap.size, 0, none⟩)) (w' := (w5.alloc (.cells #[.bool false, .slice none 0 0, .bool false, .slice none 0 0] 41))) (by rfl) (by kernel_rfl) (by rfl) (by go_simp) ((E2.out.trans (E3.out.trans (E4.out.trans E5.out))).alloc _) (by kernel_rfl) ?_
                  (try simp only [Act.put, sIT, sC0, sCS])
                  have E6 := Lib.hid (show Ext w5 (w5.alloc (.cells #[.bool false, .slice none 0 0, .bool false, .slice none 0 0] 41)) from (Ext.refl _).alloc _)
                  have Fnb16 := Lib.hid (Blk.new w5 41 #[.bool false, .slice none 0 0, .bool false, .slice none 0 0])
                  have hbx := Fnb16.out
                  have ob := Own.setCells (w5.alloc (.cells #[.bool false, .slice none 0 0, .bool false, .slice none 0 0] 41)) w5.heap.size ct
                  have hgb : wv.heap.size ≤ w5.heap.size := (E2.out.trans (E3.out.trans (E4.out.trans E5.out))).size
                  have hS8 : Ext wv ((w5.alloc (.cells #[.bool false, .slice none 0 0, .bool false, .slice none 0 0] 41)).setCells w5.heap.size 0 (ct : Array Value).toList) := ob.ext (E2.out.trans (E3.out.trans (E4.out.trans (E5.out.trans E6.out)))) hgb
                  refine md_store (i := 17) (listed' := #[true, true, true, true, true, true, true, true, true, true, true, true, true, true, true, true, true, true, false]) (by rfl) (by kernel_rfl) (by rfl) _ _ _ (by rfl) w5.heap.size 41 #[.bool false, .slice none 0 0, .bool false, .slice none 0 0] ct (by rfl) (by rfl) hbx (by rw [show (ct : Array Value).size = 4 from Z_ct]; rfl) (by rw [show (ct : Array Value).size = 4 from Z_ct]; kernel_rfl) O_ct hS8 (by kernel_rfl) ?_
                  (try simp only [Act.put])
                  refine md_val (i := 18) (v := ?vm137) (listed' := #[true, true, true, true, true, true, true, true, true, true, true, true, true, true, true, true, true, true, true]) (by rfl) (by kernel_rfl) (by kernel_rfl) (by kernel_rfl) (by intro _ _ _ h; exact h) (by rfl) ?hm137 hS8 (by kernel_rfl) ?rm137
                  case hm137 => (intro w hSw; (try dsimp only at hSw); go_simp <;> with_reducible rfl)
                  (try simp only [Act.put])
                  refine wpAnyH_done (by kernel_rfl) ?_ _
                  go_wp2_with fail
                  go_meet
                  exact ⟨_, _, ((FTO.out.ext E6.out)).map (fun r q h => h.own hbx (noU_of _ (by simp)) ob), hbx.setCells ct (by rw [show (ct : Array Value).size = 4 from Z_ct]; rfl), rfl, rfl, hS8⟩
                · (try simp only [Act.put, sIT, sC0, sCS])
                  have E5 := Lib.hid (show Ext w4 (w4.alloc (.cells #[.bool false, .slice none 0 0, .bool false, .slice none 0 0] 41)) from (Ext.refl _).alloc _)
                  have Fnb16 := Lib.hid (Blk.new w4 41 #[.bool false, .slice none 0 0, .bool false, .slice none 0 0])
                  refine md_call (i := 12) (listed' := #[true, true, true, true, true, true, true, true, true, true, true, true, true, false, false, false, true, false, false]) (by rfl) (by kernel_rfl) (by rfl) (by go_simp) (pQuo (L := 6 * L + 8) ((FFA.out.ext (E2.out.trans (E3.out.trans (E4.out.trans E5.out)))).isIn (by omega)) ((FDE.out.ext E5.out).isIn (by omega)) (by omega) hden) (by kernel_rfl) ?_
                  rintro e w6 ⟨ct, rfl, hc, hx⟩
                  have E6 := Lib.hid (show Ext (w4.alloc (.cells #[.bool false, .slice none 0 0, .bool false, .slice none 0 0] 41)) w6 from hx)
                  have FTO := Lib.hid hc
                  have Z_ct := hc.size
                  have O_ct := hc.one
                  clear hc
                  clear hx
                  refine ⟨_, rfl, (E2.out.trans (E3.out.trans (E4.out.trans (E5.out.trans E6.out)))), ?_⟩
                  (try simp only [Act.put, sIT, sC0, sCS])
                  refine md_val (i := 13) (v := ?vm138) (listed' := #[true, true, true, true, true, true, true, true, true, true, true, true, true, true, false, false, true, false, false]) (by rfl) (by kernel_rfl) (by kernel_rfl) (by kernel_rfl) (by intro _ _ _ h; exact h) (by rfl) ?hm138 (E2.out.trans (E3.out.trans (E4.out.trans (E5.out.trans E6.out)))) (by kernel_rfl) ?rm138
                  case hm138 => (intro w hSw; (try dsimp only at hSw); go_simp <;> with_reducible rfl)
                  (try simp only [Act.put, sIT, sC0, sCS])
                  refine md_val (i := 14) (v := ?vm139) (listed' := #[true, true, true, true, true, true, true, true, true, true, true, true, true, true, true, false, true, false, false]) (by rfl) (by kernel_rfl) (by kernel_rfl) (by kernel_rfl) (by intro _ _ _ h; exact h) (by rfl) ?hm139 (E2.out.trans (E3.out.trans (E4.out.trans (E5.out.trans E6.out)))) (by kernel_rfl) ?rm139
                  case hm139 => (intro w hSw; (try dsimp only at hSw); go_simp <;> with_reducible rfl)
                  (try simp only [Act.put, sIT, sC0, sCS])
                  refine md_val (i := 15) (v := ?vm140) (listed' := #[true, true, true, true, true, true, true, true, true, true, true, true, true, true, true, true, true, false, false]) (by rfl) (by kernel_rfl) (by kernel_rfl) (by kernel_rfl) (by intro _ _ _ h; exact h) (by rfl) ?hm140 (E2.out.trans (E3.out.trans (E4.out.trans (E5.out.trans E6.out)))) (by kernel_rfl) ?rm140
                  case hm140 => (intro w hSw; (try dsimp only at hSw); go_simp <;> with_reducible rfl)
                  (try simp only [Act.put, sIT, sC0, sCS])
                  have hbx := (Fnb16.out.ext E6.out)
                  have ob := Own.setCells w6 w4.heap.size ct
                  have hgb : wv.heap.size ≤ w4.heap.size := (E2.out.trans (E3.out.trans E4.out)).size
                  have hS8 : Ext wv (w6.setCells w4.heap.size 0 (ct : Array Value).toList) := ob.ext (E2.out.trans (E3.out.trans (E4.out.trans (E5.out.trans E6.out)))) hgb
                  refine md_store (i := 17) (listed' := #[true, true, true, true, true, true, true, true, true, true, true, true, true, true, true, true, true, true, false]) (by rfl) (by kernel_rfl) (by rfl) _ _ _ (by rfl) w4.heap.size 41 #[.bool false, .slice none 0 0, .bool false, .slice none 0 0] ct (by rfl) (by rfl) hbx (by rw [show (ct : Array Value).size = 4 from Z_ct]; rfl) (by rw [show (ct : Array Value).size = 4 from Z_ct]; kernel_rfl) O_ct hS8 (by kernel_rfl) ?_
                  (try simp only [Act.put])
                  refine md_val (i := 18) (v := ?vm141) (listed' := #[true, true, true, true, true, true, true, true, true, true, true, true, true, true, true, true, true, true, true]) (by rfl) (by kernel_rfl) (by kernel_rfl) (by kernel_rfl) (by intro _ _ _ h; exact h) (by rfl) ?hm141 hS8 (by kernel_rfl) ?rm141
                  case hm141 => (intro w hSw; (try dsimp only at hSw); go_simp <;> with_reducible rfl)
                  (try simp only [Act.put])
                  refine wpAnyH_done (by kernel_rfl) ?_ _
                  go_wp2_with fail
                  go_meet
                  exact ⟨_, _, (FTO.out).map (fun r q h => h.own hbx (noU_of _ (by simp)) ob), hbx.setCells ct (by rw [show (ct : Array Value).size = 4 from Z_ct]; rfl), rfl, rfl, hS8⟩
              · (try simp only [Act.put, sIT, sC0, sCS])
                have E4 := Lib.hid (show Ext w3 (w3.alloc (.cells #[.bool false, .slice none 0 0, .bool false, .slice none 0 0] 41)) from (Ext.refl _).alloc _)
                have Fnb16 := Lib.hid (Blk.new w3 41 #[.bool false, .slice none 0 0, .bool false, .slice none 0 0])
                refine md_call (i := 11) (listed' := #[true, true, true, true, true, true, true, true, true, true, true, true, false, false, false, false, true, false, false]) (by rfl) (by kernel_rfl) (by rfl) (by go_simp) (pAdd (L := 2 * L + 1) ((FFA.out.ext (E2.out.trans (E3.out.trans E4.out))).isIn (by omega)) ((FFC.out.ext E4.out).isIn (by omega)) (by omega)) (by kernel_rfl) ?_
                rintro e w5 ⟨ch, rfl, hc, hx⟩
                have E5 := Lib.hid (show Ext (w3.alloc (.cells #[.bool false, .slice none 0 0, .bool false, .slice none 0 0] 41)) w5 from hx)
                have FDE := Lib.hid hc
                have Z_ch := hc.size
                have O_ch := hc.one
                clear hc
                clear hx
                refine ⟨_, rfl, (E2.out.trans (E3.out.trans (E4.out.trans E5.out))), ?_⟩
                (try simp only [Act.put, sIT, sC0, sCS])
                refine md_call (i := 12) (listed' := #[true, true, true, true, true, true, true, true, true, true, true, true, true, false, false, false, true, false, false]) (by rfl) (by kernel_rfl) (by rfl) (by go_simp) (pQuo (L := 6 * L + 8) ((FFA.out.ext (E2.out.trans (E3.out.trans (E4.out.trans E5.out)))).isIn (by omega)) (FDE.out.isIn (by omega)) (by omega) hden) (by kernel_rfl) ?_
                rintro e w6 ⟨ct, rfl, hc, hx⟩
                have E6 := Lib.hid (show Ext w5 w6 from hx)
                have FTO := Lib.hid hc
                have Z_ct := hc.size
                have O_ct := hc.one
                clear hc
                clear hx
                refine ⟨_, rfl, (E2.out.trans (E3.out.trans (E4.out.trans (E5.out.trans E6.out)))), ?_⟩
                (try simp only [Act.put, sIT, sC0, sCS])
                refine md_val (i := 13) (v := ?vm142) (listed' := #[true, true, true, true, true, true, true, true, true, true, true, true, true, true, false, false, true, false, false]) (by rfl) (by kernel_rfl) (by kernel_rfl) (by kernel_rfl) (by intro _ _ _ h; exact h) (by rfl) ?hm142 (E2.out.trans (E3.out.trans (E4.out.trans (E5.out.trans E6.out)))) (by kernel_rfl) ?rm142
                case hm142 => (intro w hSw; (try dsimp only at hSw); go_simp <;> with_reducible rfl)
                (try simp only [Act.put, sIT, sC0, sCS])
                refine md_val (i := 14) (v := ?vm143) (listed' := #[true, true, true, true, true, true, true, true, true, true, true, true, true, true, true, false, true, false, false]) (by rfl) (by kernel_rfl) (by kernel_rfl) (by kernel_rfl) (by intro _ _ _ h; exact h) (by rfl) ?hm143 (E2.out.trans (E3.out.trans (E4.out.trans (E5.out.trans E6.out)))) (by kernel_rfl) ?rm143
                case hm143 => (intro w hSw; (try dsimp only at hSw); go_simp <;> with_reducible rfl)
                (try simp only [Act.put, sIT, sC0, sCS])
                refine md_val (i := 15) (v := ?vm144) (listed' := #[true, true, true, true, true, true, true, true, true, true, true, true, true, true, true, true, true, false, false]) (by rfl) (by kernel_rfl) (by kernel_rfl) (by kernel_rfl) (by intro _ _ _ h; exact h) (by rfl) ?hm144 (E2.out.trans (E3.out.trans (E4.out.trans (E5.out.trans E6.out)))) (by kernel_rfl) ?rm144
                case hm144 => (intro w hSw; (try dsimp only at hSw); go_simp <;> with_reducible rfl)
                (try simp only [Act.put, sIT, sC0, sCS])
                have hbx := (Fnb16.out.ext (E5.out.trans E6.out))
                have ob := Own.setCells w6 w3.heap.size ct
                have hgb : wv.heap.size ≤ w3.heap.size := (E2.out.trans E3.out).size
                have hS8 : Ext wv (w6.setCells w3.heap.size 0 (ct : Array Value).toList) := ob.ext (E2.out.trans (E3.out.trans (E4.out.trans (E5.out.trans E6.out)))) hgb
                refine md_store (i := 17) (listed' := #[true, true, true, true, true, true, true, true, true, true, true, true, true, true, true, true, true, true, false]) (by rfl) (by kernel_rfl) (by rfl) _ _ _ (by rfl) w3.heap.size 41 #[.bool false, .slice none 0 0, .bool false, .slice none 0 0] ct (by rfl) (by rfl) hbx (by rw [show (ct : Array Value).size = 4 from Z_ct]; rfl) (by rw [show (ct : Array Value).size = 4 from Z_ct]; kernel_rfl) O_ct hS8 (by kernel_rfl) ?_
                (try simp only [Act.put])
                refine md_val (i := 18) (v := ?vm145) (listed' := #[true, true, true, true, true, true, true, true, true, true, true, true, true, true, true, true, true, true, true]) (by rfl) (by kernel_rfl) (by kernel_rfl) (by kernel_rfl) (by intro _ _ _ h; exact h) (by rfl) ?hm145 hS8 (by kernel_rfl) ?rm145
                case hm145 => (intro w hSw; (try dsimp only at hSw); go_simp <;> with_reducible rfl)
                (try simp only [Act.put])
                refine wpAnyH_done (by kernel_rfl) ?_ _
                go_wp2_with fail
                go_meet
                exact ⟨_, _, (FTO.out).map (fun r q h => h.own hbx (noU_of _ (by simp)) ob), hbx.setCells ct (by rw [show (ct : Array Value).size = 4 from Z_ct]; rfl), rfl, rfl, hS8⟩
            · (try simp only [Act.put, sIT, sC0, sCS])
              have E3 := Lib.hid (show Ext wv.drew (wv.drew.alloc (.cells #[.bool false, .slice none 0 0, .bool false, .slice none 0 0] 41)) from (Ext.refl _).alloc _)
              have Fnb16 := Lib.hid (Blk.new wv.drew 41 #[.bool false, .slice none 0 0, .bool false, .slice none 0 0])
              refine md_call (i := 10) (listed' := #[true, true, true, true, true, true, true, true, true, true, true, false, false, false, false, false, true, false, false]) (by rfl) (by kernel_rfl) (by rfl) (by go_simp) (pSub (L := L) (FP.out.ext (E1.out.trans (E2.out.trans E3.out))).e5 (FP.out.ext (E1.out.trans (E2.out.trans E3.out))).e3 (by omega)) (by kernel_rfl) ?_
              rintro e w4 ⟨cg, rfl, hc, hx⟩
              have E4 := Lib.hid (show Ext (wv.drew.alloc (.cells #[.bool false, .slice none 0 0, .bool false, .slice none 0 0] 41)) w4 from hx)
              have FFC := Lib.hid hc
              have Z_cg := hc.size
              have O_cg := hc.one
              clear hc
              clear hx
              refine ⟨_, rfl, (E2.out.trans (E3.out.trans E4.out)), ?_⟩
              (try simp only [Act.put, sIT, sC0, sCS])
              refine md_call (i := 11) (listed' := #[true, true, true, true, true, true, true, true, true, true, true, true, false, false, false, false, true, false, false]) (by rfl) (by kernel_rfl) (by rfl) (by go_simp) (pAdd (L := 2 * L + 1) ((FFA.out.ext (E2.out.trans (E3.out.trans E4.out))).isIn (by omega)) (FFC.out.isIn (by omega)) (by omega)) (by kernel_rfl) ?_
              rintro e w5 ⟨ch, rfl, hc, hx⟩
              have E5 := Lib.hid (show Ext w4 w5 from hx)
              have FDE := Lib.hid hc
              have Z_ch := hc.size
              have O_ch := hc.one
              clear hc
              clear hx
              refine ⟨_, rfl, (E2.out.trans (E3.out.trans (E4.out.trans E5.out))), ?_⟩
              (try simp only [Act.put, sIT, sC0, sCS])
              refine md_call (i := 12) (listed' := #[true, true, true, true, true, true, true, true, true, true, true, true, true, false, false, false, true, false, false]) (by rfl) (by kernel_rfl) (by rfl) (by go_simp) (pQuo (L := 6 * L + 8) ((FFA.out.ext (E2.out.trans (E3.out.trans (E4.out.trans E5.out)))).isIn (by omega)) (FDE.out.isIn (by omega)) (by omega) hden) (by kernel_rfl) ?_
              rintro e w6 ⟨ct, rfl, hc, hx⟩
              have E6 := Lib.hid (show Ext w5 w6 from hx)
              have FTO := Lib.hid hc
              have Z_ct := hc.size
              have O_ct := hc.one
              clear hc
              clear hx
              refine ⟨_, rfl, (E2.out.trans (E3.out.trans (E4.out.trans (E5.out.trans E6.out)))), ?_⟩
              (try simp only [Act.put, sIT, sC0, sCS])
              refine md_val (i := 13) (v := ?vm146) (listed' := #[true, true, true, true, true, true, true, true, true, true, true, true, true, true, false, false, true, false, false]) (by rfl) (by kernel_rfl) (by kernel_rfl) (by kernel_rfl) (by intro _ _ _ h; exact h) (by rfl) ?hm146 (E2.out.trans (E3.out.trans (E4.out.trans (E5.out.trans E6.out)))) (by kernel_rfl) ?rm146
              case hm146 => (intro w hSw; (try dsimp only at hSw); go_simp <;> with_reducible rfl)
              (try simp only [Act.put, sIT, sC0, sCS])
              refine md_val (i := 14) (v := ?vm147) (listed' := #[true, true, true, true, true, true, true, true, true, true, true, true, true, true, true, false, true, false, false]) (by rfl) (by kernel_rfl) (by kernel_rfl) (by kernel_rfl) (by intro _ _ _ h; exact h) (by rfl) ?hm147 (E2.out.trans (E3.out.trans (E4.out.trans (E5.out.trans E6.out)))) (by kernel_rfl) ?rm147
              case hm147 => (intro w hSw; (try dsimp only at hSw); go_simp <;> with_reducible rfl)
              (try simp only [Act.put, sIT, sC0, sCS])
              refine md_val (i := 15) (v := ?vm148) (listed' := #[true, true, true, true, true, true, true, true, true, true, true, true, true, true, true, true, true, false, false]) (by rfl) (by kernel_rfl) (by kernel_rfl) (by kernel_rfl) (by intro _ _ _ h; exact h) (by rfl) ?hm148 (E2.out.trans (E3.out.trans (E4.out.trans (E5.out.trans E6.out)))) (by kernel_rfl) ?rm148
              case hm148 => (intro w hSw; (try dsimp only at hSw); go_simp <;> with_reducible rfl)
              (try simp only [Act.put, sIT, sC0, sCS])
              have hbx := (Fnb16.out.ext (E4.out.trans (E5.out.trans E6.out)))
              have ob := Own.setCells w6 wv.drew.heap.size ct
              have hgb : wv.heap.size ≤ wv.drew.heap.size := E2.out.size
              have hS8 : Ext wv (w6.setCells wv.drew.heap.size 0 (ct : Array Value).toList) := ob.ext (E2.out.trans (E3.out.trans (E4.out.trans (E5.out.trans E6.out)))) hgb
              refine md_store (i := 17) (listed' := #[true, true, true, true, true, true, true, true, true, true, true, true, true, true, true, true, true, true, false]) (by rfl) (by kernel_rfl) (by rfl) _ _ _ (by rfl) wv.drew.heap.size 41 #[.bool false, .slice none 0 0, .bool false, .slice none 0 0] ct (by rfl) (by rfl) hbx (by rw [show (ct : Array Value).size = 4 from Z_ct]; rfl) (by rw [show (ct : Array Value).size = 4 from Z_ct]; kernel_rfl) O_ct hS8 (by kernel_rfl) ?_
              (try simp only [Act.put])
              refine md_val (i := 18) (v := ?vm149) (listed' := #[true, true, true, true, true, true, true, true, true, true, true, true, true, true, true, true, true, true, true]) (by rfl) (by kernel_rfl) (by kernel_rfl) (by kernel_rfl) (by intro _ _ _ h; exact h) (by rfl) ?hm149 hS8 (by kernel_rfl) ?rm149
              case hm149 => (intro w hSw; (try dsimp only at hSw); go_simp <;> with_reducible rfl)
              (try simp only [Act.put])
              refine wpAnyH_done (by kernel_rfl) ?_ _
              go_wp2_with fail
              go_meet
              exact ⟨_, _, (FTO.out).map (fun r q h => h.own hbx (noU_of _ (by simp)) ob), hbx.setCells ct (by rw [show (ct : Array Value).size = 4 from Z_ct]; rfl), rfl, rfl, hS8⟩
          case rest =>
            obtain ⟨X9, c9, hto, hb9, rfl, rfl, hx⟩ := hcut
            have E2 := Lib.hid (show Ext wv wc from hx)
            have Z9 := hto.size
            have O9 := hto.one
            have FTO := Lib.hid hto
            have Fb9 := Lib.hid hb9
            clear hto hb9 hx
            obtain ⟨s0, hs0⟩ : ∃ s, s = rcmp ((A1 - B1) / ((A1 - B1) + (C1 - B1))) ((0 : Int) : Rat) := ⟨_, rfl⟩
            obtain ⟨s1, hs1⟩ : ∃ s, s = rcmp ((A1 - B1) / ((A1 - B1) + (C1 - B1))) ((1 : Int) : Rat) := ⟨_, rfl⟩
            have HSZ := Lib.hid hs0
            have HSO := Lib.hid hs1
            clear hs0 hs1
            by_cases hgt : 0 < s0
            · by_cases hlt : s1 < 0
              · go_upto_region 10 with fail
                refine wp_region_lit ?_
                refine mv_val (v := ?vm150) (w' := wc) (by rfl) ?hm150 ?rm150
                case hm150 => (go_simp <;> with_reducible rfl)
                (try simp only [Act.put, sIT, sC0, sCS])
                refine mv_val (v := ?vm152) (w' := wc) (by rfl) ?hm152 ?rm152
                case hm152 => (go_simp <;> with_reducible rfl)
                (try simp only [Act.put, sIT, sC0, sCS])
                refine mv_val (v := ?vm153) (w' := wc) (by rfl) ?hm153 ?rm153
                case hm153 => (go_simp <;> with_reducible rfl)
                (try simp only [Act.put, sIT, sC0, sCS])
                refine mv_load (by rfl) _ _ (by rfl) X9 _ c9 _ (by rfl) Fb9.out Try.underlying41 (by rfl) (by rw [show (c9 : Array Value).size = 4 from Z9]; kernel_rfl) ?_
                (try simp only [Act.put, sIT, sC0, sCS])
                refine mv_load (by rfl) _ _ (by rfl) V5 _ cz _ (by rfl) (FV5.out.ext (E1.out.trans E2.out)) Try.underlying41 (by rfl) (by rw [show (cz : Array Value).size = 4 from ZZ]; kernel_rfl) ?_
                (try simp only [Act.put, sIT, sC0, sCS])
                refine mv_call (by rfl) (by go_simp) (pCmpS HSZ.out (L := 6 * L + 8) (FTO.out.isIn (by omega)) ((FZ.out.ext (E1.out.trans E2.out)).isIn (by omega)) (by omega)) ?_
                rintro e w3 ⟨rfl, hx⟩
                have E3 := Lib.hid (show Ext wc w3 from hx)
                clear hx
                refine ⟨_, rfl, ?_⟩
                (try simp only [Act.put, sIT, sC0, sCS])
                refine mv_val (v := ?vm155) (w' := w3) (by rfl) ?hm155 ?rm155
                case hm155 => (go_simp <;> with_reducible rfl)
                (try simp only [Act.put, sIT, sC0, sCS])
                refine mv_val (v := ?vm156) (w' := w3) (by rfl) ?hm156 ?rm156
                case hm156 => (go_simp <;> with_reducible rfl)
                (try simp only [Act.put, sIT, sC0, sCS])
                refine mv_val (v := ?vm157) (w' := w3) (by rfl) ?hm157 ?rm157
                case hm157 => (go_simp <;> with_reducible rfl)
                (try simp only [Act.put, sIT, sC0, sCS])
                refine mv_load (by rfl) _ _ (by rfl) X9 _ c9 _ (by rfl) (Fb9.out.ext E3.out) Try.underlying41 (by rfl) (by rw [show (c9 : Array Value).size = 4 from Z9]; kernel_rfl) ?_
                (try simp only [Act.put, sIT, sC0, sCS])
                refine mv_load (by rfl) _ _ (by rfl) V6 _ co _ (by rfl) (FV6.out.ext (E1.out.trans (E2.out.trans E3.out))) Try.underlying41 (by rfl) (by rw [show (co : Array Value).size = 4 from ZO]; kernel_rfl) ?_
                (try simp only [Act.put, sIT, sC0, sCS])
                refine mv_call (by rfl) (by go_simp) (pCmpS HSO.out (L := 6 * L + 8) ((FTO.out.ext E3.out).isIn (by omega)) ((FO.out.ext (E1.out.trans (E2.out.trans E3.out))).isIn (by omega)) (by omega)) ?_
                rintro e w4 ⟨rfl, hx⟩
                have E4 := Lib.hid (show Ext w3 w4 from hx)
                clear hx
                refine ⟨_, rfl, ?_⟩
                (try simp only [Act.put, sIT, sC0, sCS])
                refine mv_val (v := ?vm159) (w' := w4) (by rfl) ?hm159 ?rm159
                case hm159 => (go_simp <;> with_reducible rfl)
                (try simp only [Act.put, sIT, sC0, sCS])
                refine mv_val (v := ?vm160) (w' := w4) (by rfl) ?hm160 ?rm160
                case hm160 => (go_simp <;> with_reducible rfl)
                (try simp only [Act.put, sIT, sC0, sCS])
                go_upto_region 11 with fail
                refine wp_region_lit ?_
                refine mv_val (v := ?vm161) (w' := w4) (by rfl) ?hm161 ?rm161
                case hm161 => (go_simp <;> with_reducible rfl)
                (try simp only [Act.put, sIT, sC0, sCS])
                refine mv_load (by rfl) _ _ (by rfl) w.heap.size _ cp _ (by rfl) (Fbx0.out.ext (E1.out.trans (E2.out.trans (E3.out.trans E4.out)))) Try.underlying46 (by rfl) (by rw [show (cp : Array Value).size = 24 from ZP]; kernel_rfl) ?_
                (try simp only [Act.put, sIT, sC0, sCS])
                refine mv_load (by rfl) _ _ (by rfl) X9 _ c9 _ (by rfl) (Fb9.out.ext (E3.out.trans E4.out)) Try.underlying41 (by rfl) (by rw [show (c9 : Array Value).size = 4 from Z9]; kernel_rfl) ?_
                (try simp only [Act.put, sIT, sC0, sCS])
                refine mv_call (by rfl) (by go_simp) (oEvalQuad (L := 6 * L + 8) ((FP.out.ext (E1.out.trans (E2.out.trans (E3.out.trans E4.out)))).mono (by omega)) ((FTO.out.ext (E3.out.trans E4.out)).isIn (by omega)) (by omega) (by omega)) ?_
                rintro e w5 ⟨ce, rfl, hc, hx⟩
                have E5 := Lib.hid (show Ext w4 w5 from hx)
                have FEV := Lib.hid hc
                have Z_ce := hc.size
                clear hc
                clear hx
                refine ⟨_, rfl, ?_⟩
                (try simp only [Act.put, sIT, sC0, sCS])
                refine mv_val (v := ?vm162) (w' := w5) (by rfl) ?hm162 ?rm162
                case hm162 => (go_simp <;> with_reducible rfl)
                (try simp only [Act.put, sIT, sC0, sCS])
                refine mv_val (v := .agg (ce.extract 4 (4 + 4))) (w' := w5) (by rfl) (by have hix := pIdx1 FEV.out; go_simp <;> with_reducible rfl) ?_
                (try simp only [Act.put, sIT, sC0, sCS])
                refine mv_call (by rfl) (by go_simp) (pBox1 (L := 16 * (6 * L + 8) + 10) (HST.out.box.ext (E1.out.trans (E2.out.trans (E3.out.trans (E4.out.trans E5.out))))) (FEV.out.c1.isIn (by omega)) (by omega) (by omega) (by omega)) ?_
                rintro e w6 ⟨rfl, hbx, htx⟩
                refine ⟨_, rfl, ?_⟩
                (try simp only [Act.put, sIT, sC0, sCS])
                go_wp2_with fail
                go_roundg 0
                case measure => omega
                case rel => exact Or.inr (Or.inr ⟨rfl, by go_num, (by rw [qLo_in (a := A1) (b := B1) (c := C1) (qTop_in (by have := HSZ.out; omega) (by have := HSO.out; omega)), qHi_in (a := A1) (b := B1) (c := C1) (qTop_in (by have := HSZ.out; omega) (by have := HSO.out; omega))]; exact HST.out.turn hbx ((Turn.of_ext (E1.out.trans (E2.out.trans (E3.out.trans (E4.out.trans E5.out))))).trans htx))⟩)
              · go_upto_region 10 with fail
                refine wp_region_lit ?_
                refine mv_val (v := ?vm163) (w' := wc) (by rfl) ?hm163 ?rm163
                case hm163 => (go_simp <;> with_reducible rfl)
                (try simp only [Act.put, sIT, sC0, sCS])
                refine mv_val (v := ?vm165) (w' := wc) (by rfl) ?hm165 ?rm165
                case hm165 => (go_simp <;> with_reducible rfl)
                (try simp only [Act.put, sIT, sC0, sCS])
                refine mv_val (v := ?vm166) (w' := wc) (by rfl) ?hm166 ?rm166
                case hm166 => (go_simp <;> with_reducible rfl)
                (try simp only [Act.put, sIT, sC0, sCS])
                refine mv_load (by rfl) _ _ (by rfl) X9 _ c9 _ (by rfl) Fb9.out Try.underlying41 (by rfl) (by rw [show (c9 : Array Value).size = 4 from Z9]; kernel_rfl) ?_
                (try simp only [Act.put, sIT, sC0, sCS])
                refine mv_load (by rfl) _ _ (by rfl) V5 _ cz _ (by rfl) (FV5.out.ext (E1.out.trans E2.out)) Try.underlying41 (by rfl) (by rw [show (cz : Array Value).size = 4 from ZZ]; kernel_rfl) ?_
                (try simp only [Act.put, sIT, sC0, sCS])
                refine mv_call (by rfl) (by go_simp) (pCmpS HSZ.out (L := 6 * L + 8) (FTO.out.isIn (by omega)) ((FZ.out.ext (E1.out.trans E2.out)).isIn (by omega)) (by omega)) ?_
                rintro e w3 ⟨rfl, hx⟩
                have E3 := Lib.hid (show Ext wc w3 from hx)
                clear hx
                refine ⟨_, rfl, ?_⟩
                (try simp only [Act.put, sIT, sC0, sCS])
                refine mv_val (v := ?vm168) (w' := w3) (by rfl) ?hm168 ?rm168
                case hm168 => (go_simp <;> with_reducible rfl)
                (try simp only [Act.put, sIT, sC0, sCS])
                refine mv_val (v := ?vm169) (w' := w3) (by rfl) ?hm169 ?rm169
                case hm169 => (go_simp <;> with_reducible rfl)
                (try simp only [Act.put, sIT, sC0, sCS])
                refine mv_val (v := ?vm170) (w' := w3) (by rfl) ?hm170 ?rm170
                case hm170 => (go_simp <;> with_reducible rfl)
                (try simp only [Act.put, sIT, sC0, sCS])
                refine mv_load (by rfl) _ _ (by rfl) X9 _ c9 _ (by rfl) (Fb9.out.ext E3.out) Try.underlying41 (by rfl) (by rw [show (c9 : Array Value).size = 4 from Z9]; kernel_rfl) ?_
                (try simp only [Act.put, sIT, sC0, sCS])
                refine mv_load (by rfl) _ _ (by rfl) V6 _ co _ (by rfl) (FV6.out.ext (E1.out.trans (E2.out.trans E3.out))) Try.underlying41 (by rfl) (by rw [show (co : Array Value).size = 4 from ZO]; kernel_rfl) ?_
                (try simp only [Act.put, sIT, sC0, sCS])
                refine mv_call (by rfl) (by go_simp) (pCmpS HSO.out (L := 6 * L + 8) ((FTO.out.ext E3.out).isIn (by omega)) ((FO.out.ext (E1.out.trans (E2.out.trans E3.out))).isIn (by omega)) (by omega)) ?_
                rintro e w4 ⟨rfl, hx⟩
                have E4 := Lib.hid (show Ext w3 w4 from hx)
                clear hx
                refine ⟨_, rfl, ?_⟩
                (try simp only [Act.put, sIT, sC0, sCS])
                refine mv_val (v := ?vm172) (w' := w4) (by rfl) ?hm172 ?rm172
                case hm172 => (go_simp <;> with_reducible rfl)
                (try simp only [Act.put, sIT, sC0, sCS])
                refine mv_val (v := ?vm173) (w' := w4) (by rfl) ?hm173 ?rm173
                case hm173 => (go_simp <;> with_reducible rfl)
                (try simp only [Act.put, sIT, sC0, sCS])
                go_wp2_with fail
                go_roundg 0
                case measure => omega
                case rel => exact Or.inr (Or.inr ⟨rfl, by go_num, (by rw [qLo_out (a := A1) (b := B1) (c := C1) (qTop_out2 (by have := HSO.out; omega)), qHi_out (a := A1) (b := B1) (c := C1) (qTop_out2 (by have := HSO.out; omega))]; exact HST.out.turn (HST.out.box.ext (E1.out.trans (E2.out.trans (E3.out.trans E4.out)))) (Turn.of_ext (E1.out.trans (E2.out.trans (E3.out.trans E4.out)))))⟩)
            · go_upto_region 10 with fail
              refine wp_region_lit ?_
              refine mv_val (v := ?vm174) (w' := wc) (by rfl) ?hm174 ?rm174
              case hm174 => (go_simp <;> with_reducible rfl)
              (try simp only [Act.put, sIT, sC0, sCS])
              refine mv_val (v := ?vm176) (w' := wc) (by rfl) ?hm176 ?rm176
              case hm176 => (go_simp <;> with_reducible rfl)
              (try simp only [Act.put, sIT, sC0, sCS])
              refine mv_val (v := ?vm177) (w' := wc) (by rfl) ?hm177 ?rm177
              case hm177 => (go_simp <;> with_reducible rfl)
              (try simp only [Act.put, sIT, sC0, sCS])
              refine mv_load (by rfl) _ _ (by rfl) X9 _ c9 _ (by rfl) Fb9.out Try.underlying41 (by rfl) (by rw [show (c9 : Array Value).size = 4 from Z9]; kernel_rfl) ?_
              (try simp only [Act.put, sIT, sC0, sCS])
              refine mv_load (by rfl) _ _ (by rfl) V5 _ cz _ (by rfl) (FV5.out.ext (E1.out.trans E2.out)) Try.underlying41 (by rfl) (by rw [show (cz : Array Value).size = 4 from ZZ]; kernel_rfl) ?_
              (try simp only [Act.put, sIT, sC0, sCS])
              refine mv_call (by rfl) (by go_simp) (pCmpS HSZ.out (L := 6 * L + 8) (FTO.out.isIn (by omega)) ((FZ.out.ext (E1.out.trans E2.out)).isIn (by omega)) (by omega)) ?_
              rintro e w3 ⟨rfl, hx⟩
              have E3 := Lib.hid (show Ext wc w3 from hx)
              clear hx
              refine ⟨_, rfl, ?_⟩
              (try simp only [Act.put, sIT, sC0, sCS])
              refine mv_val (v := ?vm179) (w' := w3) (by rfl) ?hm179 ?rm179
              case hm179 => (go_simp <;> with_reducible rfl)
              (try simp only [Act.put, sIT, sC0, sCS])
              refine mv_val (v := ?vm180) (w' := w3) (by rfl) ?hm180 ?rm180
              case hm180 => (go_simp <;> with_reducible rfl)
              (try simp only [Act.put, sIT, sC0, sCS])
              refine mv_val (v := ?vm181) (w' := w3) (by rfl) ?hm181 ?rm181
              case hm181 => (go_simp <;> with_reducible rfl)
              (try simp only [Act.put, sIT, sC0, sCS])
              refine mv_skip (by rfl) ?_
              (try simp only [Act.put, sIT, sC0, sCS])
              refine mv_skip (by rfl) ?_
              (try simp only [Act.put, sIT, sC0, sCS])
              refine mv_skip (by rfl) ?_
              (try simp only [Act.put, sIT, sC0, sCS])
              refine mv_skip (by rfl) ?_
              (try simp only [Act.put, sIT, sC0, sCS])
              refine mv_val (v := ?vm182) (w' := w3) (by rfl) ?hm182 ?rm182
              case hm182 => (go_simp <;> with_reducible rfl)
              (try simp only [Act.put, sIT, sC0, sCS])
              go_wp2_with fail
              go_roundg 0
              case measure => omega
              case rel => exact Or.inr (Or.inr ⟨rfl, by go_num, (by rw [qLo_out (a := A1) (b := B1) (c := C1) (qTop_out1 (by have := HSZ.out; omega)), qHi_out (a := A1) (b := B1) (c := C1) (qTop_out1 (by have := HSZ.out; omega))]; exact HST.out.turn (HST.out.box.ext (E1.out.trans (E2.out.trans E3.out))) (Turn.of_ext (E1.out.trans (E2.out.trans E3.out))))⟩)
    · obtain ⟨za, zb, zc, zd, kX, ia, ib, ic, id_⟩ := hst.box
      have hEE : Ext w wr := hst.t.1.ext HEX.out gX
      have GR0 := Lib.hid hst.k0
      have GR1 := Lib.hid hst.k1
      have nbX_R0 := hst.n0.symm
      have nbX_R1 := hst.n1.symm
      clear hst
      go_upto_region 13 with fail
      have E1 := Lib.hid (show Ext w wr from hEE)
      clear hEE
      have FR0 := Lib.hid GR0.out
      have FR1 := Lib.hid GR1.out
      have FbX := Lib.hid kX
      have Fza := Lib.hid ia
      have Fzb := Lib.hid ib
      have Fzc := Lib.hid ic
      have Fzd := Lib.hid id_
      clear kX ia ib ic id_
      refine wp_region_held_drew (S := fun x => Own2 R0 R1 wr x) (by kernel_rfl) (Own2.of_ext (Ext.refl _).drew) (fun _ => ?_)
      have E2 := Lib.hid (show Ext wr wr.drew from (Ext.refl _).drew)
      refine md_val (i := 0) (v := ?vm183) (listed' := #[true, false, false, false, false, false]) (by rfl) (by kernel_rfl) (by kernel_rfl) (by kernel_rfl) (by intro _ _ _ h; exact h) (by rfl) ?hm183 (Own2.of_ext E2.out) (by kernel_rfl) ?rm183
      case hm183 => (intro w hSw; (try dsimp only at hSw); go_simp <;> with_reducible rfl)
      (try simp only [Act.put, sIT, sC0, sCS])
      refine md_range (i := 1) (listed' := #[true, true, false, false, false, false]) (by rfl) (by kernel_rfl) (by kernel_rfl) (by kernel_rfl) _ _ (by rfl) X 0 [.bool za.n, .slice za.p za.l za.c, .bool za.m, .slice za.p2 za.l2 za.c2, .bool zb.n, .slice zb.p zb.l zb.c, .bool zb.m, .slice zb.p2 zb.l2 zb.c2] _ (by intro _ _ _ h; exact h) (by rfl) (by rfl) (fun x hx => ((FbX.out).own2 hx nbX_R0 nbX_R1).part 0 8) Try.underlying42 (by rfl) (by kernel_rfl) (Own2.of_ext E2.out) (by kernel_rfl) ?_
      (try simp only [Act.put, sIT, sC0, sCS])
      refine md_val (i := 2) (v := ?vm184) (listed' := #[true, true, true, false, false, false]) (by rfl) (by kernel_rfl) (by kernel_rfl) (by kernel_rfl) (by intro _ _ _ h; exact h) (by rfl) ?hm184 (Own2.of_ext E2.out) (by kernel_rfl) ?rm184
      case hm184 => (intro w hSw; (try dsimp only at hSw); go_simp <;> with_reducible rfl)
      (try simp only [Act.put, sIT, sC0, sCS])
      refine md_range (i := 3) (listed' := #[true, true, true, true, false, false]) (by rfl) (by kernel_rfl) (by kernel_rfl) (by kernel_rfl) _ _ (by rfl) X 8 [.bool zc.n, .slice zc.p zc.l zc.c, .bool zc.m, .slice zc.p2 zc.l2 zc.c2, .bool zd.n, .slice zd.p zd.l zd.c, .bool zd.m, .slice zd.p2 zd.l2 zd.c2] _ (by intro _ _ _ h; exact h) (by rfl) (by rfl) (fun x hx => ((FbX.out).own2 hx nbX_R0 nbX_R1).part 8 8) Try.underlying42 (by rfl) (by kernel_rfl) (Own2.of_ext E2.out) (by kernel_rfl) ?_
      (try simp only [Act.put, sIT, sC0, sCS])
      have o1 := Own.setCells wr.drew R0 #[.bool za.n, .slice za.p za.l za.c, .bool za.m, .slice za.p2 za.l2 za.c2, .bool zb.n, .slice zb.p zb.l zb.c, .bool zb.m, .slice zb.p2 zb.l2 zb.c2]
      have kb1 := (FR0.out.ext E2.out)
      have hs1 : Own2 R0 R1 wr (wr.drew.setCells R0 0 (#[.bool za.n, .slice za.p za.l za.c, .bool za.m, .slice za.p2 za.l2 za.c2, .bool zb.n, .slice zb.p zb.l zb.c, .bool zb.m, .slice zb.p2 zb.l2 zb.c2] : Array Value).toList) := (Own2.one (Own.then_ext' E2.out o1))
      refine md_store (i := 4) (listed' := #[true, true, true, true, true, false]) (by rfl) (by kernel_rfl) (by rfl) _ _ _ (by rfl) R0 _ #[.bool false, .slice none 0 0, .bool false, .slice none 0 0, .bool false, .slice none 0 0, .bool false, .slice none 0 0] #[.bool za.n, .slice za.p za.l za.c, .bool za.m, .slice za.p2 za.l2 za.c2, .bool zb.n, .slice zb.p zb.l zb.c, .bool zb.m, .slice zb.p2 zb.l2 zb.c2] (by rfl) (by rfl) kb1 (by rw [show (#[.bool za.n, .slice za.p za.l za.c, .bool za.m, .slice za.p2 za.l2 za.c2, .bool zb.n, .slice zb.p zb.l zb.c, .bool zb.m, .slice zb.p2 zb.l2 zb.c2] : Array Value).size = 8 from rfl]; rfl) (by rw [show (#[.bool za.n, .slice za.p za.l za.c, .bool za.m, .slice za.p2 za.l2 za.c2, .bool zb.n, .slice zb.p zb.l zb.c, .bool zb.m, .slice zb.p2 zb.l2 zb.c2] : Array Value).size = 8 from rfl]; kernel_rfl) (all_oneCell_toArray (by simp [Value.oneCell'])) hs1 (by kernel_rfl) ?_
      (try simp only [Act.put])
      have kc1 := kb1.setCells #[.bool za.n, .slice za.p za.l za.c, .bool za.m, .slice za.p2 za.l2 za.c2, .bool zb.n, .slice zb.p zb.l zb.c, .bool zb.m, .slice zb.p2 zb.l2 zb.c2] (by rw [show (#[.bool za.n, .slice za.p za.l za.c, .bool za.m, .slice za.p2 za.l2 za.c2, .bool zb.n, .slice zb.p zb.l zb.c, .bool zb.m, .slice zb.p2 zb.l2 zb.c2] : Array Value).size = 8 from rfl]; rfl)
      have o2 := Own.setCells (wr.drew.setCells R0 0 (#[.bool za.n, .slice za.p za.l za.c, .bool za.m, .slice za.p2 za.l2 za.c2, .bool zb.n, .slice zb.p zb.l zb.c, .bool zb.m, .slice zb.p2 zb.l2 zb.c2] : Array Value).toList) R1 #[.bool zc.n, .slice zc.p zc.l zc.c, .bool zc.m, .slice zc.p2 zc.l2 zc.c2, .bool zd.n, .slice zd.p zd.l zd.c, .bool zd.m, .slice zd.p2 zd.l2 zd.c2]
      have kb2 := ((FR1.out.ext E2.out)).own o1 nR1_R0
      have hs2 : Own2 R0 R1 wr ((wr.drew.setCells R0 0 (#[.bool za.n, .slice za.p za.l za.c, .bool za.m, .slice za.p2 za.l2 za.c2, .bool zb.n, .slice zb.p zb.l zb.c, .bool zb.m, .slice zb.p2 zb.l2 zb.c2] : Array Value).toList).setCells R1 0 (#[.bool zc.n, .slice zc.p zc.l zc.c, .bool zc.m, .slice zc.p2 zc.l2 zc.c2, .bool zd.n, .slice zd.p zd.l zd.c, .bool zd.m, .slice zd.p2 zd.l2 zd.c2] : Array Value).toList) := ⟨_, Own.then_ext' E2.out o1, o2⟩
      refine md_store (i := 5) (listed' := #[true, true, true, true, true, true]) (by rfl) (by kernel_rfl) (by rfl) _ _ _ (by rfl) R1 _ #[.bool false, .slice none 0 0, .bool false, .slice none 0 0, .bool false, .slice none 0 0, .bool false, .slice none 0 0] #[.bool zc.n, .slice zc.p zc.l zc.c, .bool zc.m, .slice zc.p2 zc.l2 zc.c2, .bool zd.n, .slice zd.p zd.l zd.c, .bool zd.m, .slice zd.p2 zd.l2 zd.c2] (by rfl) (by rfl) kb2 (by rw [show (#[.bool zc.n, .slice zc.p zc.l zc.c, .bool zc.m, .slice zc.p2 zc.l2 zc.c2, .bool zd.n, .slice zd.p zd.l zd.c, .bool zd.m, .slice zd.p2 zd.l2 zd.c2] : Array Value).size = 8 from rfl]; rfl) (by rw [show (#[.bool zc.n, .slice zc.p zc.l zc.c, .bool zc.m, .slice zc.p2 zc.l2 zc.c2, .bool zd.n, .slice zd.p zd.l zd.c, .bool zd.m, .slice zd.p2 zd.l2 zd.c2] : Array Value).size = 8 from rfl]; kernel_rfl) (all_oneCell_toArray (by simp [Value.oneCell'])) hs2 (by kernel_rfl) ?_
      (try simp only [Act.put])
      have kc2 := kb2.setCells #[.bool zc.n, .slice zc.p zc.l zc.c, .bool zc.m, .slice zc.p2 zc.l2 zc.c2, .bool zd.n, .slice zd.p zd.l zd.c, .bool zd.m, .slice zd.p2 zd.l2 zd.c2] (by rw [show (#[.bool zc.n, .slice zc.p zc.l zc.c, .bool zc.m, .slice zc.p2 zc.l2 zc.c2, .bool zd.n, .slice zd.p zd.l zd.c, .bool zd.m, .slice zd.p2 zd.l2 zd.c2] : Array Value).size = 8 from rfl]; rfl)
      refine wpAnyH_done (by kernel_rfl) ?_ _
      go_wp2_with fail
      have kd1 := kc1.own o2 nR0_R1
      refine bodyPost_ret (v := .tuple #[.agg #[.bool za.n, .slice za.p za.l za.c, .bool za.m, .slice za.p2 za.l2 za.c2, .bool zb.n, .slice zb.p zb.l zb.c, .bool zb.m, .slice zb.p2 zb.l2 zb.c2], .agg #[.bool zc.n, .slice zc.p zc.l zc.c, .bool zc.m, .slice zc.p2 zc.l2 zc.c2, .bool zd.n, .slice zd.p zd.l zd.c, .bool zd.m, .slice zd.p2 zd.l2 zd.c2]]) ?_ rfl ⟨_, _, rfl, ⟨za, zb, rfl, (((Fza.out.ext E2.out).own kb1 (noU_of _ (by simp)) o1).own kb2 (noU_of _ (by simp)) o2), (((Fzb.out.ext E2.out).own kb1 (noU_of _ (by simp)) o1).own kb2 (noU_of _ (by simp)) o2)⟩, ⟨zc, zd, rfl, (((Fzc.out.ext E2.out).own kb1 (noU_of _ (by simp)) o1).own kb2 (noU_of _ (by simp)) o2), (((Fzd.out.ext E2.out).own kb1 (noU_of _ (by simp)) o1).own kb2 (noU_of _ (by simp)) o2)⟩, (o2.ext (o1.ext (E1.out.trans E2.out) gR0) gR1)⟩
      exact results_cell2 rfl rfl rfl (kd1.loadVar rfl rfl rfl) (kc2.loadVar rfl rfl rfl)

end Go.Proofs.Ytllpkoinjompcaa
