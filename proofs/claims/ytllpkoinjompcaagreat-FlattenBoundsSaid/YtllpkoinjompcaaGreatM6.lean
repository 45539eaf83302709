/- Contracts that the claim stands on: XQBnd to XWgt. -/
import Derived.Deep.LoopGhost
import Derived.Deep.DeepCutAuto
import Derived.Test.YtllpkoinjompcaaGreatM5
namespace Go.Proofs.YtllpkoinjompcaaGreat
open Go.RowKit
attribute [local go_sem ↓] Go.wp_at_zero Go.wp_at_succ run_max_ii run_min_ii

theorem rlI (k : Int) (h : k.natAbs < 4294967296) : Nm.rl (k : Rat) ≤ 1 := by
  unfold Nm.rl
  rw [Rat.num_intCast, Rat.den_intCast]
  have h1 : Nm.nl k.natAbs ≤ 1 := Nm.nl_le (by omega)
  have h2 : Nm.nl 1 ≤ 1 := Nm.nl_le (by decide)
  omega
theorem rl_quadV3 {a b c t : Rat} {L : Nat} (ha : Nm.rl a ≤ L) (hb : Nm.rl b ≤ L) (hc : Nm.rl c ≤ L) (ht : Nm.rl t ≤ L) : Nm.rl (quadV a b c t) ≤ 16 * L + 10 := by
  have h1 := rl_lerpV ha hb ht
  have h2 := rl_lerpV hb hc ht
  have h3 : Nm.rl (quadV a b c t) ≤ 4 * (4 * L + 2) + 2 := rl_lerpV (L := 4 * L + 2) h1 h2 (by omega)
  omega
theorem pIdx0 {w : World} {cs : Array Value} {x y : Rat} (h : PtIs w cs x y) (W : World) : (Instr.index 27 (.agg cs) (.int .i64 0)).run Tryz.prog W = .ok (.agg (cs.extract 0 (0 + 4))) W := by
  obtain ⟨a, b, rfl, _, _⟩ := h
  exact idx0 a b W
theorem pIdx1 {w : World} {cs : Array Value} {x y : Rat} (h : PtIs w cs x y) (W : World) : (Instr.index 27 (.agg cs) (.int .i64 1)).run Tryz.prog W = .ok (.agg (cs.extract 4 (4 + 4))) W := by
  obtain ⟨a, b, rfl, _, _⟩ := h
  exact idx1 a b W
theorem pBox0 {L X : Nat} {cs : Array Value} {lx ly hx hy q : Rat} {w : World} (hb : BoxAt w X lx ly hx hy) (hn : NIn L w cs q) (hlo : Nm.rl lx ≤ L) (hhi : Nm.rl hx ≤ L) (hL : L ≤ 60000) :
    Calls Tryz.prog 47 #[.pointer (some ⟨X, 0, none⟩), .int .i64 0, .agg cs] w fun e w' => e = .returned (.tuple #[]) ∧ BoxAt w' X (lower q lx) ly (upper q hx) hy ∧ Turn X w w' := by
  obtain ⟨a, rfl, h⟩ := hn
  exact add0_any L X a lx ly hx hy q w hb h hlo hhi hL
theorem pBox1 {L X : Nat} {cs : Array Value} {lx ly hx hy q : Rat} {w : World} (hb : BoxAt w X lx ly hx hy) (hn : NIn L w cs q) (hlo : Nm.rl ly ≤ L) (hhi : Nm.rl hy ≤ L) (hL : L ≤ 60000) :
    Calls Tryz.prog 47 #[.pointer (some ⟨X, 0, none⟩), .int .i64 1, .agg cs] w fun e w' => e = .returned (.tuple #[]) ∧ BoxAt w' X lx (lower q ly) hx (upper q hy) ∧ Turn X w w' := by
  obtain ⟨a, rfl, h⟩ := hn
  exact add1_any L X a lx ly hx hy q w hb h hlo hhi hL
theorem BoxAt.lt {w : World} {X : Nat} {lx ly hx hy : Rat} (h : BoxAt w X lx ly hx hy) : X < w.heap.size := by
  obtain ⟨a, b, c, d, k, _⟩ := h
  exact k.lt
theorem Q3In.own0 {L : Nat} {w w' : World} {cs : Array Value} {A0 A1 B0 B1 C0 C1 : Rat} (h : Q3In L w cs A0 A1 B0 B1 C0 C1) {X : Nat} (hb : Blk w X 69 ([.bool false, .slice none 0 0, .bool false, .slice none 0 0, .bool false, .slice none 0 0, .bool false, .slice none 0 0, .bool false, .slice none 0 0, .bool false, .slice none 0 0, .bool false, .slice none 0 0, .bool false, .slice none 0 0, .bool false] : List Value).toArray) (t : Turn X w w') : Q3In L w' cs A0 A1 B0 B1 C0 C1 := by
  obtain ⟨a0, a1, b0, b1, c0, c1, e, ha0, ha1, hb0, hb1, hc0, hc1⟩ := h
  exact ⟨a0, a1, b0, b1, c0, c1, e, ha0.own hb (noU_of _ (by simp)) t.1, ha1.own hb (noU_of _ (by simp)) t.1, hb0.own hb (noU_of _ (by simp)) t.1, hb1.own hb (noU_of _ (by simp)) t.1, hc0.own hb (noU_of _ (by simp)) t.1, hc1.own hb (noU_of _ (by simp)) t.1⟩
theorem oPutFirst' {L X : Nat} {cs : Array Value} {x y : Rat} {w : World} (hX : Blk w X 69 ([.bool false, .slice none 0 0, .bool false, .slice none 0 0, .bool false, .slice none 0 0, .bool false, .slice none 0 0, .bool false, .slice none 0 0, .bool false, .slice none 0 0, .bool false, .slice none 0 0, .bool false, .slice none 0 0, .bool false] : List Value).toArray) (hp : PtIn L w cs x y) (h1 : 1 ≤ L) (hL : L ≤ 60000) :
    Calls Tryz.prog 41 #[.pointer (some ⟨X, 0, none⟩), .agg cs] w fun e w' => e = .returned (.tuple #[]) ∧ BoxAt w' X x y x y ∧ Turn X w w' := by
  obtain ⟨a, b, rfl, ha, hb⟩ := hp
  exact putFirst_any L X a b x y w hX ha hb h1 hL
theorem oPutMore' {L X : Nat} {cs : Array Value} {lx ly hx hy x y : Rat} {w : World} (hX : BoxAt w X lx ly hx hy) (hp : PtIn L w cs x y) (r1 : Nm.rl lx ≤ L) (r2 : Nm.rl ly ≤ L) (r3 : Nm.rl hx ≤ L) (r4 : Nm.rl hy ≤ L) (h1 : 1 ≤ L) (hL : L ≤ 60000) :
    Calls Tryz.prog 41 #[.pointer (some ⟨X, 0, none⟩), .agg cs] w fun e w' => e = .returned (.tuple #[]) ∧ BoxAt w' X (lower x lx) (lower y ly) (upper x hx) (upper y hy) ∧ Turn X w w' := by
  obtain ⟨a, b, rfl, ha, hb⟩ := hp
  exact putMore_any L X a b lx ly hx hy x y w hX ha hb r1 r2 r3 r4 h1 hL
theorem Q3In.own {L : Nat} {w w' : World} {cs : Array Value} {A0 A1 B0 B1 C0 C1 : Rat} (h : Q3In L w cs A0 A1 B0 B1 C0 C1) {X : Nat} {lx ly hx hy : Rat} (hb : BoxAt w X lx ly hx hy) (t : Turn X w w') : Q3In L w' cs A0 A1 B0 B1 C0 C1 := by
  obtain ⟨a0, a1, b0, b1, c0, c1, e, ha0, ha1, hb0, hb1, hc0, hc1⟩ := h
  exact ⟨a0, a1, b0, b1, c0, c1, e, ha0.turn hb t, ha1.turn hb t, hb0.turn hb t, hb1.turn hb t, hc0.turn hb t, hc1.turn hb t⟩
structure QbSt (L X bp bz bo r0 r1 : Nat) (cp cz co : Array Value) (A0 A1 B0 B1 C0 C1 : Rat) (wX wr : World) (lx ly hx hy : Rat) : Prop where
  box : BoxAt wr X lx ly hx hy
  P : Q3In L wr cp A0 A1 B0 B1 C0 C1
  Z : NIs wr cz ((0 : Int) : Rat)
  O : NIs wr co ((1 : Int) : Rat)
  kp : Blk wr bp 32 cp
  kz : Blk wr bz 26 cz
  ko : Blk wr bo 26 co
  k0 : Blk wr r0 27 z8
  k1 : Blk wr r1 27 z8
  t : Turn X wX wr
  np : bp ≠ X
  nz : bz ≠ X
  no : bo ≠ X
  n0 : r0 ≠ X
  n1 : r1 ≠ X
theorem QbSt.turn {L X bp bz bo r0 r1 : Nat} {cp cz co : Array Value} {A0 A1 B0 B1 C0 C1 : Rat} {wX wr w' : World} {lx ly hx hy lx' ly' hx' hy' : Rat} (h : QbSt L X bp bz bo r0 r1 cp cz co A0 A1 B0 B1 C0 C1 wX wr lx ly hx hy) (k : BoxAt w' X lx' ly' hx' hy') (t : Turn X wr w') : QbSt L X bp bz bo r0 r1 cp cz co A0 A1 B0 B1 C0 C1 wX w' lx' ly' hx' hy' :=
  ⟨k, h.P.own h.box t, h.Z.map t.2, h.O.map t.2, t.blk h.kp h.np, t.blk h.kz h.nz, t.blk h.ko h.no, t.blk h.k0 h.n0, t.blk h.k1 h.n1, h.t.trans t, h.np, h.nz, h.no, h.n0, h.n1⟩
theorem qTop_in {a b c : Rat} (h1 : 0 < rcmp ((a - b) / ((a - b) + (c - b))) ((0 : Int) : Rat)) (h2 : rcmp ((a - b) / ((a - b) + (c - b))) ((1 : Int) : Rat) < 0) : 0 < qTop a b c ∧ qTop a b c < 1 := ⟨rcmp_gt'.1 h1, rcmp_lt.1 h2⟩
theorem qTop_out1 {a b c : Rat} (h1 : ¬ 0 < rcmp ((a - b) / ((a - b) + (c - b))) ((0 : Int) : Rat)) : ¬ (0 < qTop a b c ∧ qTop a b c < 1) := fun h => h1 (rcmp_gt'.2 h.1)
theorem qTop_out2 {a b c : Rat} (h2 : ¬ rcmp ((a - b) / ((a - b) + (c - b))) ((1 : Int) : Rat) < 0) : ¬ (0 < qTop a b c ∧ qTop a b c < 1) := fun h => h2 (rcmp_lt.2 h.2)
theorem qTop_out0 {a b c : Rat} (h : (a - b) + (c - b) = 0) : ¬ (0 < qTop a b c ∧ qTop a b c < 1) := by
  intro k
  have e : qTop a b c = 0 := by unfold qTop; rw [h]; grind
  rw [e] at k
  exact absurd k.1 (by decide +kernel)
theorem qLo_in {a b c : Rat} (h : 0 < qTop a b c ∧ qTop a b c < 1) : quadLo a b c = lower (quadV a b c ((a - b) / ((a - b) + (c - b)))) (lower c a) := if_pos h
theorem qHi_in {a b c : Rat} (h : 0 < qTop a b c ∧ qTop a b c < 1) : quadHi a b c = upper (quadV a b c ((a - b) / ((a - b) + (c - b)))) (upper c a) := if_pos h
theorem qLo_out {a b c : Rat} (h : ¬ (0 < qTop a b c ∧ qTop a b c < 1)) : quadLo a b c = lower c a := if_neg h
theorem qHi_out {a b c : Rat} (h : ¬ (0 < qTop a b c ∧ qTop a b c < 1)) : quadHi a b c = upper c a := if_neg h
set_option maxRecDepth 20000 in
set_option maxHeartbeats 8000000 in
theorem quadBounds_any (L : Nat) (cp : Array Value) (A0 A1 B0 B1 C0 C1 : Rat) (w : World) (hP : Q3In L w cp A0 A1 B0 B1 C0 C1) (h1 : 1 ≤ L) (hL : L ≤ 200) :
  Calls Tryz.prog 22 #[.agg cp] w fun e w' => ∃ c1 c2, e = .returned (.tuple #[.agg c1, .agg c2]) ∧ PtIs w' c1 (quadLo A0 B0 C0) (quadLo A1 B1 C1) ∧ PtIs w' c2 (quadHi A0 B0 C0) (quadHi A1 B1 C1) ∧ Ext w w' := by
 have ZP := hP.size
 have OP := hP.one
 have ra0 : Nm.rl A0 ≤ L := by obtain ⟨_, _, _, _, _, _, _, h, _, _, _, _, _⟩ := hP; have := h.rl; omega
 have ra1 : Nm.rl A1 ≤ L := by obtain ⟨_, _, _, _, _, _, _, _, h, _, _, _, _⟩ := hP; have := h.rl; omega
 have rb0 : Nm.rl B0 ≤ L := by obtain ⟨_, _, _, _, _, _, _, _, _, h, _, _, _⟩ := hP; have := h.rl; omega
 have rb1 : Nm.rl B1 ≤ L := by obtain ⟨_, _, _, _, _, _, _, _, _, _, h, _, _⟩ := hP; have := h.rl; omega
 have rc0 : Nm.rl C0 ≤ L := by obtain ⟨_, _, _, _, _, _, _, _, _, _, _, h, _⟩ := hP; have := h.rl; omega
 have rc1 : Nm.rl C1 ≤ L := by obtain ⟨_, _, _, _, _, _, _, _, _, _, _, _, h⟩ := hP; have := h.rl; omega
 have FP := zH hP
 clear hP
 go_enter Tryz.func22, Tryz.ntmps22
 go_upto_region 1 with fail
 have hbx0 : Blk (((w.alloc (.cells cp 32)).alloc (.cells z8 27)).alloc (.cells z8 27)) (w.heap.size) 32 cp := Blk.ext (Blk.new_at w _ (by simp) _ _) (((Ext.refl _).alloc _).alloc _)
 have hR0 : Blk (((w.alloc (.cells cp 32)).alloc (.cells z8 27)).alloc (.cells z8 27)) (w.heap.size + 1) 27 z8 := Blk.ext (Blk.new_at (w.alloc (.cells cp 32)) _ (by simp) _ _) ((Ext.refl _).alloc _)
 have hR1 : Blk (((w.alloc (.cells cp 32)).alloc (.cells z8 27)).alloc (.cells z8 27)) (w.heap.size + 1 + 1) 27 z8 := Blk.ext (Blk.new_at ((w.alloc (.cells cp 32)).alloc (.cells z8 27)) _ (by simp) _ _) (Ext.refl _)
 have hE : Ext w (((w.alloc (.cells cp 32)).alloc (.cells z8 27)).alloc (.cells z8 27)) := ((((Ext.refl _).alloc _).alloc _).alloc _)
 have gR0 : w.heap.size ≤ w.heap.size + 1 := by omega
 have nbx0_R0 : w.heap.size ≠ w.heap.size + 1 := by omega
 have nR1_R0 : w.heap.size + 1 + 1 ≠ w.heap.size + 1 := by omega
 have gR1 : w.heap.size ≤ w.heap.size + 1 + 1 := by omega
 have nbx0_R1 : w.heap.size ≠ w.heap.size + 1 + 1 := by omega
 have nR0_R1 : w.heap.size + 1 ≠ w.heap.size + 1 + 1 := by omega
 generalize (((w.alloc (.cells cp 32)).alloc (.cells z8 27)).alloc (.cells z8 27)) = wa at *
 generalize w.heap.size + 1 + 1 = R1 at *
 generalize w.heap.size + 1 = R0 at *
 have E1 : Hid (Ext w wa) := hE
 have Fbx0 := zH hbx0
 have FR0 := zH hR0
 have FR1 := zH hR1
 clear hE hbx0 hR0 hR1
 refine wp_region_lit ?_
 refine mv_val (v := .pointer (some ⟨wa.heap.size, 0, none⟩)) (w' := (wa.alloc (.cells ([.bool false, .slice none 0 0, .bool false, .slice none 0 0, .bool false, .slice none 0 0, .bool false, .slice none 0 0, .bool false, .slice none 0 0, .bool false, .slice none 0 0, .bool false, .slice none 0 0, .bool false, .slice none 0 0, .bool false] : List Value).toArray 69))) (by rfl) (by go_simp) ?_
 (try simp only [Act.put, zA, zB, zC])
 have hbX : Blk (wa.alloc (.cells ([.bool false, .slice none 0 0, .bool false, .slice none 0 0, .bool false, .slice none 0 0, .bool false, .slice none 0 0, .bool false, .slice none 0 0, .bool false, .slice none 0 0, .bool false, .slice none 0 0, .bool false, .slice none 0 0, .bool false] : List Value).toArray 69)) wa.heap.size 69 ([.bool false, .slice none 0 0, .bool false, .slice none 0 0, .bool false, .slice none 0 0, .bool false, .slice none 0 0, .bool false, .slice none 0 0, .bool false, .slice none 0 0, .bool false, .slice none 0 0, .bool false, .slice none 0 0, .bool false] : List Value).toArray := Blk.new _ _ _
 have hxx : Ext wa (wa.alloc (.cells ([.bool false, .slice none 0 0, .bool false, .slice none 0 0, .bool false, .slice none 0 0, .bool false, .slice none 0 0, .bool false, .slice none 0 0, .bool false, .slice none 0 0, .bool false, .slice none 0 0, .bool false, .slice none 0 0, .bool false] : List Value).toArray 69)) := (Ext.refl _).alloc _
 have gX : w.heap.size ≤ wa.heap.size := (E1.out).size
 have nbx0_X : w.heap.size ≠ wa.heap.size := Nat.ne_of_lt (Blk.lt Fbx0.out)
 have nR0_X : R0 ≠ wa.heap.size := Nat.ne_of_lt (Blk.lt FR0.out)
 have nR1_X : R1 ≠ wa.heap.size := Nat.ne_of_lt (Blk.lt FR1.out)
 generalize (wa.alloc (.cells ([.bool false, .slice none 0 0, .bool false, .slice none 0 0, .bool false, .slice none 0 0, .bool false, .slice none 0 0, .bool false, .slice none 0 0, .bool false, .slice none 0 0, .bool false, .slice none 0 0, .bool false, .slice none 0 0, .bool false] : List Value).toArray 69)) = wX at *
 generalize hXe : wa.heap.size = X at *
 have E2 : Hid (Ext wa wX) := hxx
 have FbX := zH hbX
 clear hxx hbX hXe
 have HEX := zH (tr E1 E2).out
 have GP := zH (FP.out.ext (tr E1 E2).out)
 go_upto_region 2 with fail
 refine wp_region_lit ?_
 refine pV (w' := wX) ?_
 (try simp only [Act.put, zA, zB, zC])
 refine pP 0 8 (Fbx0.out.ext E2.out) Tryz.underlying27 (by rw [show (cp : Array Value).size = 24 from ZP]; omega) ?_
 (try simp only [Act.put, zA, zB, zC])
 refine mv_call (by rfl) (by go_simp) (oPutFirst' (L := L) FbX.out (FP.out.ext (tr E1 E2).out).p0 h1 (by omega)) ?_
 rintro e wp2 ⟨rfl, hb, ht⟩
 refine ⟨_, rfl, ?_⟩
 (try simp only [Act.put, zA, zB, zC])
 have kbx0 := zH (ht.blk (Fbx0.out.ext E2.out) nbx0_X)
 have kR0 := zH (ht.blk (FR0.out.ext E2.out) nR0_X)
 have kR1 := zH (ht.blk (FR1.out.ext E2.out) nR1_X)
 have kP := zH ((FP.out.ext (tr E1 E2).out).own0 FbX.out ht)
 have kb := zH hb
 have TT := zH ht
 clear hb ht
 have Fbx0 := zH kbx0.out
 have FR0 := zH kR0.out
 have FR1 := zH kR1.out
 have FP := zH kP.out
 clear kbx0
 clear kR0
 clear kR1
 clear kP
 go_upto_region 3 with fail
 refine wp_region_lit ?_
 refine pV (w' := wp2) ?_
 (try simp only [Act.put, zA, zB, zC])
 refine pP 16 8 Fbx0.out Tryz.underlying27 (by rw [show (cp : Array Value).size = 24 from ZP]; omega) ?_
 (try simp only [Act.put, zA, zB, zC])
 refine mv_call (by rfl) (by go_simp) (oPutMore' (L := L) kb.out FP.out.p2 ra0 ra1 ra0 ra1 h1 (by omega)) ?_
 rintro e wp3 ⟨rfl, hb, ht⟩
 refine ⟨_, rfl, ?_⟩
 (try simp only [Act.put, zA, zB, zC])
 have kbx0 := zH (ht.blk Fbx0.out nbx0_X)
 have kR0 := zH (ht.blk FR0.out nR0_X)
 have kR1 := zH (ht.blk FR1.out nR1_X)
 have kP := zH (FP.out.own kb.out ht)
 have kb2 := zH hb
 have TT2 := zH (TT.out.trans ht)
 clear hb ht TT kb
 have Fbx0 := zH kbx0.out
 have FR0 := zH kR0.out
 have FR1 := zH kR1.out
 have FP := zH kP.out
 clear kbx0
 clear kR0
 clear kR1
 clear kP
 go_upto_region 4 with fail
 refine wp_region_lit ?_
 refine mv_call (by rfl) (by go_simp) (pFrom 0 _ (by omega) (by omega)) ?_
 rintro e w1 ⟨cz, rfl, hc, hx⟩
 have E1 : Hid (Ext wp3 w1) := hx
 have FZ := zH hc
 have Z_cz := hc.size
 have O_cz := hc.one
 clear hc
 clear hx
 refine ⟨_, rfl, ?_⟩
 (try simp only [Act.put, zA, zB, zC])
 refine mv_call (by rfl) (by go_simp) (pFrom 1 _ (by omega) (by omega)) ?_
 rintro e w2 ⟨co, rfl, hc, hx⟩
 have E2 : Hid (Ext w1 w2) := hx
 have FO := zH hc
 have Z_co := hc.size
 have O_co := hc.one
 clear hc
 have hv5 : X < w2.heap.size := BoxAt.lt (kb2.out.ext (tr E1 E2).out)
 have hv6 : X < (w2.alloc (.cells z4 26)).heap.size := by simp only [World.size_alloc]; omega
 clear hx
 refine ⟨_, rfl, ?_⟩
 (try simp only [Act.put, zA, zB, zC])
 obtain ⟨xq1, xq2, xq3, xq4, xq5⟩ := new_var2 w2 26 z4 cz co (by rw [Z_cz]; rfl) (by rw [Z_co]; rfl)
 refine mv_val (v := .pointer (some ⟨w2.heap.size, 0, none⟩)) (w' := w2.alloc (.cells z4 26)) (by rfl) (by go_simp) ?_
 (try simp only [Act.put, zA, zB, zC])
 refine mv_val (v := .pointer (some ⟨(w2.alloc (.cells z4 26)).heap.size, 0, none⟩)) (w' := (w2.alloc (.cells z4 26)).alloc (.cells z4 26)) (by rfl) (by go_simp) ?_
 (try simp only [Act.put, zA, zB, zC])
 refine pO cz xq1 (by rw [Z_cz]; rfl) (by rw [Z_cz]; kernel_rfl) O_cz ?_
 (try simp only [Act.put])
 refine pO co xq2 (by rw [Z_co]; rfl) (by rw [Z_co]; kernel_rfl) O_co ?_
 (try simp only [Act.put])
 clear xq1 xq2
 generalize (((w2.alloc (.cells z4 26)).alloc (.cells z4 26)).setCells w2.heap.size 0 cz.toList).setCells (w2.alloc (.cells z4 26)).heap.size 0 co.toList = w3 at *
 generalize (w2.alloc (.cells z4 26)).heap.size = Y3 at *
 generalize w2.heap.size = X3 at *
 have E3 : Hid (Ext w2 w3) := xq3
 have FV5 := zH xq4
 have FV6 := zH xq5
 clear xq3 xq4 xq5
 have E4 := (tr E1 (tr E2 E3)).out
 have HST := zH (show QbSt L X w.heap.size X3 Y3 R0 R1 cp cz co A0 A1 B0 B1 C0 C1 wX w3 (lower C0 A0) (lower C1 A1) (upper C0 A0) (upper C1 A1) from ⟨kb2.out.ext E4, (FP.out.ext (tr E1 (tr E2 E3)).out), (FZ.out.ext (tr E2 E3).out), (FO.out.ext E3.out), (Fbx0.out.ext (tr E1 (tr E2 E3)).out), FV5.out, FV6.out, (FR0.out.ext (tr E1 (tr E2 E3)).out), (FR1.out.ext (tr E1 (tr E2 E3)).out), TT2.out.trans (Turn.of_ext E4), nbx0_X, Nat.ne_of_gt hv5, Nat.ne_of_gt hv6, nR0_X, nR1_X⟩)
 clear FP FZ FO Fbx0 FV5 FV6 FR0 FR1 kb2 TT2 E4 hv5 hv6
 generalize X3 = V5 at *
 generalize Y3 = V6 at *
 go_wp2_with fail
 go_loopg [19] 2 (fun g i wr => (g = 2 ∧ i = .int .i64 0 ∧ QbSt L X w.heap.size V5 V6 R0 R1 cp cz co A0 A1 B0 B1 C0 C1 wX wr (lower C0 A0) (lower C1 A1) (upper C0 A0) (upper C1 A1)) ∨ (g = 1 ∧ i = .int .i64 1 ∧ QbSt L X w.heap.size V5 V6 R0 R1 cp cz co A0 A1 B0 B1 C0 C1 wX wr (quadLo A0 B0 C0) (lower C1 A1) (quadHi A0 B0 C0) (upper C1 A1)) ∨ (g = 0 ∧ i = .int .i64 2 ∧ QbSt L X w.heap.size V5 V6 R0 R1 cp cz co A0 A1 B0 B1 C0 C1 wX wr (quadLo A0 B0 C0) (quadLo A1 B1 C1) (quadHi A0 B0 C0) (quadHi A1 B1 C1)))
 case atStart => exact Or.inl ⟨rfl, rfl, HST.out⟩
 case round =>
  clear HST
  rcases hrel with ⟨rfl, rfl, hst⟩ | ⟨rfl, rfl, hst⟩ | ⟨rfl, rfl, hst⟩
  ·have HST := zH hst
   clear hst
   have ZZ := HST.out.Z.size
   have ZO := HST.out.O.size
   have rz := rlI 0 (by decide)
   have ro := rlI 1 (by decide)
   have rfa := Nm.rl_sub A0 B0
   have rfc := Nm.rl_sub C0 B0
   have rde := Nm.rl_add (A0 - B0) (C0 - B0)
   have rto := Nm.rl_div (A0 - B0) ((A0 - B0) + (C0 - B0))
   have rlo := rl_lower (q := C0) (l := A0) (L := L) (by omega) (by omega)
   have rhi := rl_upper (q := C0) (l := A0) (L := L) (by omega) (by omega)
   have rev := rl_quadV3 (a := A0) (b := B0) (c := C0) (t := ((A0 - B0) / ((A0 - B0) + (C0 - B0)))) (L := 6 * L + 8) (by omega) (by omega) (by omega) (by omega)
   have FP := zH HST.out.P
   have FZ := zH HST.out.Z
   have FO := zH HST.out.O
   have Fbx0 := zH HST.out.kp
   have FV5 := zH HST.out.kz
   have FV6 := zH HST.out.ko
   go_upto_region 8 with fail
   go_cut [8] (fun s wx => ∃ (X8 : Nat) (c8 : Array Value), s = .pointer (some ⟨X8, 0, none⟩) ∧ NIs wx c8 (A0 - B0) ∧ Blk wx X8 26 c8 ∧ Ext wr wx)
   case first =>
    refine wp_region_held_drew (S := fun x => Ext wr x) (by kernel_rfl) (Ext.refl _).drew (fun _ => ?_)
    have E1 := zH (show Ext wr wr.drew from (Ext.refl _).drew)
    refine mV 0 (bs 11 1) E1.out ?_
    (try simp only [Act.put, zA, zB, zC])
    refine mV 1 (bs 11 3) E1.out ?_
    (try simp only [Act.put, zA, zB, zC])
    refine mV 2 (bs 11 7) E1.out ?_
    refine mP 3 (bs 11 15) 0 4 (fun x hx => (Fbx0.out).ext hx) Tryz.underlying26 (by rw [show (cp : Array Value).size = 24 from ZP]; omega) E1.out ?_
    (try simp only [Act.put, zA, zB, zC])
    refine mV 4 (bs 11 31) E1.out ?_
    (try simp only [Act.put, zA, zB, zC])
    refine mV 5 (bs 11 63) E1.out ?_
    (try simp only [Act.put, zA, zB, zC])
    refine mV 6 (bs 11 127) E1.out ?_
    refine mP 7 (bs 11 255) 8 4 (fun x hx => (Fbx0.out).ext hx) Tryz.underlying26 (by rw [show (cp : Array Value).size = 24 from ZP]; omega) E1.out ?_
    (try simp only [Act.put, zA, zB, zC])
    refine mB 8 9 (bs 11 511) (bs 11 767) (u := .pointer (some ⟨wr.drew.heap.size, 0, none⟩)) (wj := (wr.drew.alloc (.cells z4 26))) (pSub (L := L) (FP.out.ext E1.out).e0 (FP.out.ext E1.out).e2 (by omega)) (E1.out.alloc _) ?_ ?_
    ·rintro e w2 ⟨cf, rfl, hc, hx⟩
     have E2 : Hid (Ext wr.drew w2) := hx
     have FFA := zH hc
     have Z_cf := hc.size
     have O_cf := hc.one
     clear hc
     clear hx
     refine ⟨_, rfl, (tr E1 E2).out, ?_⟩
     (try simp only [Act.put, zA, zB, zC])
     refine mU 9 (bs 11 1023) (v := .pointer (some ⟨w2.heap.size, 0, none⟩)) (w' := (w2.alloc (.cells z4 26))) ((tr E1 E2).out.alloc _) ?_
     (try simp only [Act.put, zA, zB, zC])
     have E3 := zH (show Ext w2 (w2.alloc (.cells z4 26)) from (Ext.refl _).alloc _)
     have Fnb9 := zH (Blk.new w2 26 z4)
     have hbx := Fnb9.out
     have ob := Own.setCells (w2.alloc (.cells z4 26)) w2.heap.size cf
     have hgb : wr.heap.size ≤ w2.heap.size := (tr E1 E2).out.size
     have hS8 : Ext wr ((w2.alloc (.cells z4 26)).setCells w2.heap.size 0 (cf : Array Value).toList) := ob.ext (tr E1 (tr E2 E3)).out hgb
     refine mO 10 (bs 11 2047) cf hbx (Eq.trans Z_cf rfl) (by rw [show (cf : Array Value).size = 4 from Z_cf]; kernel_rfl) O_cf hS8 ?_
     (try simp only [Act.put])
     refine wpAnyH_done (by kernel_rfl) ?_ _
     go_wp2_with fail
     go_meet
     exact ⟨_, _, rfl, ((FFA.out.ext E3.out)).map (fun r q h => h.own hbx (noU_of _ (by simp)) ob), hbx.setCells cf (Eq.trans Z_cf rfl), hS8⟩
    ·(try simp only [Act.put, zA, zB, zC])
     have E2 := zH (show Ext wr.drew (wr.drew.alloc (.cells z4 26)) from (Ext.refl _).alloc _)
     have Fnb9 := zH (Blk.new wr.drew 26 z4)
     refine mC 8 (bs 11 1023) (pSub (L := L) (FP.out.ext (tr E1 E2).out).e0 (FP.out.ext (tr E1 E2).out).e2 (by omega)) ?_
     rintro e w3 ⟨cf, rfl, hc, hx⟩
     have E3 := zH (show Ext (wr.drew.alloc (.cells z4 26)) w3 from hx)
     have FFA := zH hc
     have Z_cf := hc.size
     have O_cf := hc.one
     clear hc
     clear hx
     refine ⟨_, rfl, (tr E1 (tr E2 E3)).out, ?_⟩
     (try simp only [Act.put, zA, zB, zC])
     have hbx := (Fnb9.out.ext E3.out)
     have ob := Own.setCells w3 wr.drew.heap.size cf
     have hgb : wr.heap.size ≤ wr.drew.heap.size := E1.out.size
     have hS8 : Ext wr (w3.setCells wr.drew.heap.size 0 (cf : Array Value).toList) := ob.ext (tr E1 (tr E2 E3)).out hgb
     refine mO 10 (bs 11 2047) cf hbx (Eq.trans Z_cf rfl) (by rw [show (cf : Array Value).size = 4 from Z_cf]; kernel_rfl) O_cf hS8 ?_
     (try simp only [Act.put])
     refine wpAnyH_done (by kernel_rfl) ?_ _
     go_wp2_with fail
     go_meet
     exact ⟨_, _, rfl, (FFA.out).map (fun r q h => h.own hbx (noU_of _ (by simp)) ob), hbx.setCells cf (Eq.trans Z_cf rfl), hS8⟩
   case rest =>
    obtain ⟨X8, c8, rfl, hfa, hb8, hx⟩ := hcut
    generalize wc = wv at *
    have E1 : Hid (Ext wr wv) := hx
    have Z8 := hfa.size
    have O8 := hfa.one
    have FFA := zH hfa
    have Fb8 := zH hb8
    clear hfa hb8 hx
    by_cases hden : ((A0 - B0) + (C0 - B0)) = 0
    ·go_upto_region 9 with fail
     go_cut [9, 10] (fun s e wx => ∃ X9 : Nat, s = .pointer (some ⟨X9, 0, none⟩) ∧ e = .int .i64 9 ∧ Ext wv wx)
     case first =>
      refine wp_region_held_drew (S := fun x => Ext wv x) (by kernel_rfl) (Ext.refl _).drew (fun _ => ?_)
      have E2 := zH (show Ext wv wv.drew from (Ext.refl _).drew)
      refine mL 0 (bs 19 1) (fun x hx => (Fb8.out).ext hx) Tryz.underlying26 (by rw [show (c8 : Array Value).size = 4 from Z8]; kernel_rfl) E2.out ?_
      refine mL 1 (bs 19 3) (fun x hx => (Fb8.out).ext hx) Tryz.underlying26 (by rw [show (c8 : Array Value).size = 4 from Z8]; kernel_rfl) E2.out ?_
      (try simp only [Act.put, zA, zB, zC])
      refine mV 2 (bs 19 7) E2.out ?_
      (try simp only [Act.put, zA, zB, zC])
      refine mV 3 (bs 19 15) E2.out ?_
      (try simp only [Act.put, zA, zB, zC])
      refine mV 4 (bs 19 31) E2.out ?_
      refine mP 5 (bs 19 63) 16 4 (fun x hx => ((Fbx0.out.ext E1.out)).ext hx) Tryz.underlying26 (by rw [show (cp : Array Value).size = 24 from ZP]; omega) E2.out ?_
      (try simp only [Act.put, zA, zB, zC])
      refine mV 6 (bs 19 127) E2.out ?_
      (try simp only [Act.put, zA, zB, zC])
      refine mV 7 (bs 19 255) E2.out ?_
      (try simp only [Act.put, zA, zB, zC])
      refine mV 8 (bs 19 511) E2.out ?_
      refine mP 9 (bs 19 1023) 8 4 (fun x hx => ((Fbx0.out.ext E1.out)).ext hx) Tryz.underlying26 (by rw [show (cp : Array Value).size = 24 from ZP]; omega) E2.out ?_
      (try simp only [Act.put, zA, zB, zC])
      refine mB 10 16 (bs 19 2047) (bs 19 66559) (u := .pointer (some ⟨wv.drew.heap.size, 0, none⟩)) (wj := (wv.drew.alloc (.cells z4 26))) (pSub (L := L) (FP.out.ext (tr E1 E2).out).e4 (FP.out.ext (tr E1 E2).out).e2 (by omega)) (E2.out.alloc _) ?_ ?_
      ·rintro e w3 ⟨cg, rfl, hc, hx⟩
       have E3 : Hid (Ext wv.drew w3) := hx
       have FFC := zH hc
       have Z_cg := hc.size
       have O_cg := hc.one
       clear hc
       clear hx
       refine ⟨_, rfl, (tr E2 E3).out, ?_⟩
       (try simp only [Act.put, zA, zB, zC])
       refine mB 11 16 (bs 19 4095) (bs 19 67583) (u := .pointer (some ⟨w3.heap.size, 0, none⟩)) (wj := (w3.alloc (.cells z4 26))) (pAdd (L := 2 * L + 1) ((FFA.out.ext (tr E2 E3).out).isIn (by omega)) (FFC.out.isIn (by omega)) (by omega)) ((tr E2 E3).out.alloc _) ?_ ?_
       ·rintro e w4 ⟨ch, rfl, hc, hx⟩
        have E4 : Hid (Ext w3 w4) := hx
        have FDE := zH hc
        have Z_ch := hc.size
        have O_ch := hc.one
        clear hc
        clear hx
        refine ⟨_, rfl, (tr E2 (tr E3 E4)).out, ?_⟩
        (try simp only [Act.put, zA, zB, zC])
        refine mB 12 16 (bs 19 8191) (bs 19 69631) (u := .pointer (some ⟨w4.heap.size, 0, none⟩)) (wj := (w4.alloc (.cells z4 26))) (pQuo0 (L := 6 * L + 8) ((FFA.out.ext (tr E2 (tr E3 E4)).out).isIn (by omega)) (FDE.out.isIn (by omega)) (by omega) hden) ((tr E2 (tr E3 E4)).out.alloc _) ?_ ?_
        ·rintro e w5 ⟨rfl, hx⟩
         have E5 : Hid (Ext w4 w5) := hx
         clear hx
         refine ⟨_, rfl, (tr E2 (tr E3 (tr E4 E5))).out, ?_⟩
         (try simp only [Act.put, zA, zB, zC])
         refine mV 13 (bs 19 16383) (tr E2 (tr E3 (tr E4 E5))).out ?_
         (try simp only [Act.put, zA, zB, zC])
         refine mV 14 (bs 19 32767) (tr E2 (tr E3 (tr E4 E5))).out ?_
         (try simp only [Act.put, zA, zB, zC])
         refine mV 15 (bs 19 65535) (tr E2 (tr E3 (tr E4 E5))).out ?_
         (try simp only [Act.put, zA, zB, zC])
         refine mU 16 (bs 19 131071) (v := .pointer (some ⟨w5.heap.size, 0, none⟩)) (w' := (w5.alloc (.cells z4 26))) ((tr E2 (tr E3 (tr E4 E5))).out.alloc _) ?_
         (try simp only [Act.put, zA, zB, zC])
         have E6 := zH (show Ext w5 (w5.alloc (.cells z4 26)) from (Ext.refl _).alloc _)
         have Fnb16 := zH (Blk.new w5 26 z4)
         have hbx := Fnb16.out
         have ob := Own.setCells (w5.alloc (.cells z4 26)) w5.heap.size z4
         have hgb : wv.heap.size ≤ w5.heap.size := (tr E2 (tr E3 (tr E4 E5))).out.size
         have hS8 : Ext wv ((w5.alloc (.cells z4 26)).setCells w5.heap.size 0 (z4 : Array Value).toList) := ob.ext (tr E2 (tr E3 (tr E4 (tr E5 E6)))).out hgb
         refine mO 17 (bs 19 262143) z4 hbx rfl (by kernel_rfl) (all_oneCell_toArray (by simp [Value.oneCell'])) hS8 ?_
         (try simp only [Act.put])
         refine mV 18 (bs 19 524287) hS8 ?_
         (try simp only [Act.put])
         refine wpAnyH_done (by kernel_rfl) ?_ _
         go_wp2_with fail
         go_meet
         exact ⟨_, rfl, rfl, hS8⟩
        ·(try simp only [Act.put, zA, zB, zC])
         have E5 := zH (show Ext w4 (w4.alloc (.cells z4 26)) from (Ext.refl _).alloc _)
         have Fnb16 := zH (Blk.new w4 26 z4)
         refine mC 12 (bs 19 73727) (pQuo0 (L := 6 * L + 8) ((FFA.out.ext (tr E2 (tr E3 (tr E4 E5))).out).isIn (by omega)) ((FDE.out.ext E5.out).isIn (by omega)) (by omega) hden) ?_
         rintro e w6 ⟨rfl, hx⟩
         have E6 := zH (show Ext (w4.alloc (.cells z4 26)) w6 from hx)
         clear hx
         refine ⟨_, rfl, (tr E2 (tr E3 (tr E4 (tr E5 E6)))).out, ?_⟩
         (try simp only [Act.put, zA, zB, zC])
         refine mV 13 (bs 19 81919) (tr E2 (tr E3 (tr E4 (tr E5 E6)))).out ?_
         (try simp only [Act.put, zA, zB, zC])
         refine mV 14 (bs 19 98303) (tr E2 (tr E3 (tr E4 (tr E5 E6)))).out ?_
         (try simp only [Act.put, zA, zB, zC])
         refine mV 15 (bs 19 131071) (tr E2 (tr E3 (tr E4 (tr E5 E6)))).out ?_
         (try simp only [Act.put, zA, zB, zC])
         have hbx := (Fnb16.out.ext E6.out)
         have ob := Own.setCells w6 w4.heap.size z4
         have hgb : wv.heap.size ≤ w4.heap.size := (tr E2 (tr E3 E4)).out.size
         have hS8 : Ext wv (w6.setCells w4.heap.size 0 (z4 : Array Value).toList) := ob.ext (tr E2 (tr E3 (tr E4 (tr E5 E6)))).out hgb
         refine mO 17 (bs 19 262143) z4 hbx rfl (by kernel_rfl) (all_oneCell_toArray (by simp [Value.oneCell'])) hS8 ?_
         (try simp only [Act.put])
         refine mV 18 (bs 19 524287) hS8 ?_
         (try simp only [Act.put])
         refine wpAnyH_done (by kernel_rfl) ?_ _
         go_wp2_with fail
         go_meet
         exact ⟨_, rfl, rfl, hS8⟩
       ·(try simp only [Act.put, zA, zB, zC])
        have E4 := zH (show Ext w3 (w3.alloc (.cells z4 26)) from (Ext.refl _).alloc _)
        have Fnb16 := zH (Blk.new w3 26 z4)
        refine mC 11 (bs 19 69631) (pAdd (L := 2 * L + 1) ((FFA.out.ext (tr E2 (tr E3 E4)).out).isIn (by omega)) ((FFC.out.ext E4.out).isIn (by omega)) (by omega)) ?_
        rintro e w5 ⟨ch, rfl, hc, hx⟩
        have E5 := zH (show Ext (w3.alloc (.cells z4 26)) w5 from hx)
        have FDE := zH hc
        have Z_ch := hc.size
        have O_ch := hc.one
        clear hc
        clear hx
        refine ⟨_, rfl, (tr E2 (tr E3 (tr E4 E5))).out, ?_⟩
        (try simp only [Act.put, zA, zB, zC])
        refine mC 12 (bs 19 73727) (pQuo0 (L := 6 * L + 8) ((FFA.out.ext (tr E2 (tr E3 (tr E4 E5))).out).isIn (by omega)) (FDE.out.isIn (by omega)) (by omega) hden) ?_
        rintro e w6 ⟨rfl, hx⟩
        have E6 : Hid (Ext w5 w6) := hx
        clear hx
        refine ⟨_, rfl, (tr E2 (tr E3 (tr E4 (tr E5 E6)))).out, ?_⟩
        (try simp only [Act.put, zA, zB, zC])
        refine mV 13 (bs 19 81919) (tr E2 (tr E3 (tr E4 (tr E5 E6)))).out ?_
        (try simp only [Act.put, zA, zB, zC])
        refine mV 14 (bs 19 98303) (tr E2 (tr E3 (tr E4 (tr E5 E6)))).out ?_
        (try simp only [Act.put, zA, zB, zC])
        refine mV 15 (bs 19 131071) (tr E2 (tr E3 (tr E4 (tr E5 E6)))).out ?_
        (try simp only [Act.put, zA, zB, zC])
        have hbx := (Fnb16.out.ext (tr E5 E6).out)
        have ob := Own.setCells w6 w3.heap.size z4
        have hgb : wv.heap.size ≤ w3.heap.size := (tr E2 E3).out.size
        have hS8 : Ext wv (w6.setCells w3.heap.size 0 (z4 : Array Value).toList) := ob.ext (tr E2 (tr E3 (tr E4 (tr E5 E6)))).out hgb
        refine mO 17 (bs 19 262143) z4 hbx rfl (by kernel_rfl) (all_oneCell_toArray (by simp [Value.oneCell'])) hS8 ?_
        (try simp only [Act.put])
        refine mV 18 (bs 19 524287) hS8 ?_
        (try simp only [Act.put])
        refine wpAnyH_done (by kernel_rfl) ?_ _
        go_wp2_with fail
        go_meet
        exact ⟨_, rfl, rfl, hS8⟩
      ·(try simp only [Act.put, zA, zB, zC])
       have E3 := zH (show Ext wv.drew (wv.drew.alloc (.cells z4 26)) from (Ext.refl _).alloc _)
       have Fnb16 := zH (Blk.new wv.drew 26 z4)
       refine mC 10 (bs 19 67583) (pSub (L := L) (FP.out.ext (tr E1 (tr E2 E3)).out).e4 (FP.out.ext (tr E1 (tr E2 E3)).out).e2 (by omega)) ?_
       rintro e w4 ⟨cg, rfl, hc, hx⟩
       have E4 := zH (show Ext (wv.drew.alloc (.cells z4 26)) w4 from hx)
       have FFC := zH hc
       have Z_cg := hc.size
       have O_cg := hc.one
       clear hc
       clear hx
       refine ⟨_, rfl, (tr E2 (tr E3 E4)).out, ?_⟩
       (try simp only [Act.put, zA, zB, zC])
       refine mC 11 (bs 19 69631) (pAdd (L := 2 * L + 1) ((FFA.out.ext (tr E2 (tr E3 E4)).out).isIn (by omega)) (FFC.out.isIn (by omega)) (by omega)) ?_
       rintro e w5 ⟨ch, rfl, hc, hx⟩
       have E5 : Hid (Ext w4 w5) := hx
       have FDE := zH hc
       have Z_ch := hc.size
       have O_ch := hc.one
       clear hc
       clear hx
       refine ⟨_, rfl, (tr E2 (tr E3 (tr E4 E5))).out, ?_⟩
       (try simp only [Act.put, zA, zB, zC])
       refine mC 12 (bs 19 73727) (pQuo0 (L := 6 * L + 8) ((FFA.out.ext (tr E2 (tr E3 (tr E4 E5))).out).isIn (by omega)) (FDE.out.isIn (by omega)) (by omega) hden) ?_
       rintro e w6 ⟨rfl, hx⟩
       have E6 : Hid (Ext w5 w6) := hx
       clear hx
       refine ⟨_, rfl, (tr E2 (tr E3 (tr E4 (tr E5 E6)))).out, ?_⟩
       (try simp only [Act.put, zA, zB, zC])
       refine mV 13 (bs 19 81919) (tr E2 (tr E3 (tr E4 (tr E5 E6)))).out ?_
       (try simp only [Act.put, zA, zB, zC])
       refine mV 14 (bs 19 98303) (tr E2 (tr E3 (tr E4 (tr E5 E6)))).out ?_
       (try simp only [Act.put, zA, zB, zC])
       refine mV 15 (bs 19 131071) (tr E2 (tr E3 (tr E4 (tr E5 E6)))).out ?_
       (try simp only [Act.put, zA, zB, zC])
       have hbx := (Fnb16.out.ext (tr E4 (tr E5 E6)).out)
       have ob := Own.setCells w6 wv.drew.heap.size z4
       have hgb : wv.heap.size ≤ wv.drew.heap.size := E2.out.size
       have hS8 : Ext wv (w6.setCells wv.drew.heap.size 0 (z4 : Array Value).toList) := ob.ext (tr E2 (tr E3 (tr E4 (tr E5 E6)))).out hgb
       refine mO 17 (bs 19 262143) z4 hbx rfl (by kernel_rfl) (all_oneCell_toArray (by simp [Value.oneCell'])) hS8 ?_
       (try simp only [Act.put])
       refine mV 18 (bs 19 524287) hS8 ?_
       (try simp only [Act.put])
       refine wpAnyH_done (by kernel_rfl) ?_ _
       go_wp2_with fail
       go_meet
       exact ⟨_, rfl, rfl, hS8⟩
     case rest =>
      obtain ⟨X9, rfl, rfl, hx⟩ := hcut
      have E2 : Hid (Ext wv wc) := hx
      clear hx
      go_upto_region 10 with fail
      refine wp_region_lit ?_
      refine pV (w' := wc) ?_
      (try simp only [Act.put, zA, zB, zC])
      refine pV (w' := wc) ?_
      (try simp only [Act.put, zA, zB, zC])
      refine pV (w' := wc) ?_
      (try simp only [Act.put, zA, zB, zC])
      refine mv_skip (by rfl) ?_
      (try simp only [Act.put, zA, zB, zC])
      refine mv_skip (by rfl) ?_
      (try simp only [Act.put, zA, zB, zC])
      refine mv_skip (by rfl) ?_
      (try simp only [Act.put, zA, zB, zC])
      refine mv_skip (by rfl) ?_
      (try simp only [Act.put, zA, zB, zC])
      refine pV (w' := wc) ?_
      (try simp only [Act.put, zA, zB, zC])
      refine pV (w' := wc) ?_
      (try simp only [Act.put, zA, zB, zC])
      refine mv_skip (by rfl) ?_
      (try simp only [Act.put, zA, zB, zC])
      refine mv_skip (by rfl) ?_
      (try simp only [Act.put, zA, zB, zC])
      refine mv_skip (by rfl) ?_
      (try simp only [Act.put, zA, zB, zC])
      refine mv_skip (by rfl) ?_
      (try simp only [Act.put, zA, zB, zC])
      refine pV (w' := wc) ?_
      (try simp only [Act.put, zA, zB, zC])
      go_wp2_with fail
      go_roundg 1
      case measure => omega
      case rel => exact Or.inr (Or.inl ⟨rfl, by go_num, (by rw [qLo_out (a := A0) (b := B0) (c := C0) (qTop_out0 hden), qHi_out (a := A0) (b := B0) (c := C0) (qTop_out0 hden)]; exact HST.out.turn (HST.out.box.ext (tr E1 E2).out) (Turn.of_ext (tr E1 E2).out))⟩)
    ·go_upto_region 9 with fail
     go_cut [9, 10] (fun s e wx => ∃ (X9 : Nat) (c9 : Array Value), NIs wx c9 ((A0 - B0) / ((A0 - B0) + (C0 - B0))) ∧ Blk wx X9 26 c9 ∧ s = .pointer (some ⟨X9, 0, none⟩) ∧ e = .int .i64 0 ∧ Ext wv wx)
     case first =>
      refine wp_region_held_drew (S := fun x => Ext wv x) (by kernel_rfl) (Ext.refl _).drew (fun _ => ?_)
      have E2 := zH (show Ext wv wv.drew from (Ext.refl _).drew)
      refine mL 0 (bs 19 1) (fun x hx => (Fb8.out).ext hx) Tryz.underlying26 (by rw [show (c8 : Array Value).size = 4 from Z8]; kernel_rfl) E2.out ?_
      refine mL 1 (bs 19 3) (fun x hx => (Fb8.out).ext hx) Tryz.underlying26 (by rw [show (c8 : Array Value).size = 4 from Z8]; kernel_rfl) E2.out ?_
      (try simp only [Act.put, zA, zB, zC])
      refine mV 2 (bs 19 7) E2.out ?_
      (try simp only [Act.put, zA, zB, zC])
      refine mV 3 (bs 19 15) E2.out ?_
      (try simp only [Act.put, zA, zB, zC])
      refine mV 4 (bs 19 31) E2.out ?_
      refine mP 5 (bs 19 63) 16 4 (fun x hx => ((Fbx0.out.ext E1.out)).ext hx) Tryz.underlying26 (by rw [show (cp : Array Value).size = 24 from ZP]; omega) E2.out ?_
      (try simp only [Act.put, zA, zB, zC])
      refine mV 6 (bs 19 127) E2.out ?_
      (try simp only [Act.put, zA, zB, zC])
      refine mV 7 (bs 19 255) E2.out ?_
      (try simp only [Act.put, zA, zB, zC])
      refine mV 8 (bs 19 511) E2.out ?_
      refine mP 9 (bs 19 1023) 8 4 (fun x hx => ((Fbx0.out.ext E1.out)).ext hx) Tryz.underlying26 (by rw [show (cp : Array Value).size = 24 from ZP]; omega) E2.out ?_
      (try simp only [Act.put, zA, zB, zC])
      refine mB 10 16 (bs 19 2047) (bs 19 66559) (u := .pointer (some ⟨wv.drew.heap.size, 0, none⟩)) (wj := (wv.drew.alloc (.cells z4 26))) (pSub (L := L) (FP.out.ext (tr E1 E2).out).e4 (FP.out.ext (tr E1 E2).out).e2 (by omega)) (E2.out.alloc _) ?_ ?_
      ·rintro e w3 ⟨cg, rfl, hc, hx⟩
       have E3 : Hid (Ext wv.drew w3) := hx
       have FFC := zH hc
       have Z_cg := hc.size
       have O_cg := hc.one
       clear hc
       clear hx
       refine ⟨_, rfl, (tr E2 E3).out, ?_⟩
       (try simp only [Act.put, zA, zB, zC])
       refine mB 11 16 (bs 19 4095) (bs 19 67583) (u := .pointer (some ⟨w3.heap.size, 0, none⟩)) (wj := (w3.alloc (.cells z4 26))) (pAdd (L := 2 * L + 1) ((FFA.out.ext (tr E2 E3).out).isIn (by omega)) (FFC.out.isIn (by omega)) (by omega)) ((tr E2 E3).out.alloc _) ?_ ?_
       ·rintro e w4 ⟨ch, rfl, hc, hx⟩
        have E4 : Hid (Ext w3 w4) := hx
        have FDE := zH hc
        have Z_ch := hc.size
        have O_ch := hc.one
        clear hc
        clear hx
        refine ⟨_, rfl, (tr E2 (tr E3 E4)).out, ?_⟩
        (try simp only [Act.put, zA, zB, zC])
        refine mB 12 16 (bs 19 8191) (bs 19 69631) (u := .pointer (some ⟨w4.heap.size, 0, none⟩)) (wj := (w4.alloc (.cells z4 26))) (pQuo (L := 6 * L + 8) ((FFA.out.ext (tr E2 (tr E3 E4)).out).isIn (by omega)) (FDE.out.isIn (by omega)) (by omega) hden) ((tr E2 (tr E3 E4)).out.alloc _) ?_ ?_
        ·rintro e w5 ⟨ct, rfl, hc, hx⟩
         have E5 : Hid (Ext w4 w5) := hx
         have FTO := zH hc
         have Z_ct := hc.size
         have O_ct := hc.one
         clear hc
         clear hx
         refine ⟨_, rfl, (tr E2 (tr E3 (tr E4 E5))).out, ?_⟩
         (try simp only [Act.put, zA, zB, zC])
         refine mV 13 (bs 19 16383) (tr E2 (tr E3 (tr E4 E5))).out ?_
         (try simp only [Act.put, zA, zB, zC])
         refine mV 14 (bs 19 32767) (tr E2 (tr E3 (tr E4 E5))).out ?_
         (try simp only [Act.put, zA, zB, zC])
         refine mV 15 (bs 19 65535) (tr E2 (tr E3 (tr E4 E5))).out ?_
         (try simp only [Act.put, zA, zB, zC])
         refine mU 16 (bs 19 131071) (v := .pointer (some ⟨w5.heap.size, 0, none⟩)) (w' := (w5.alloc (.cells z4 26))) ((tr E2 (tr E3 (tr E4 E5))).out.alloc _) ?_
         (try simp only [Act.put, zA, zB, zC])
         have E6 := zH (show Ext w5 (w5.alloc (.cells z4 26)) from (Ext.refl _).alloc _)
         have Fnb16 := zH (Blk.new w5 26 z4)
         have hbx := Fnb16.out
         have ob := Own.setCells (w5.alloc (.cells z4 26)) w5.heap.size ct
         have hgb : wv.heap.size ≤ w5.heap.size := (tr E2 (tr E3 (tr E4 E5))).out.size
         have hS8 : Ext wv ((w5.alloc (.cells z4 26)).setCells w5.heap.size 0 (ct : Array Value).toList) := ob.ext (tr E2 (tr E3 (tr E4 (tr E5 E6)))).out hgb
         refine mO 17 (bs 19 262143) ct hbx (Eq.trans Z_ct rfl) (by rw [show (ct : Array Value).size = 4 from Z_ct]; kernel_rfl) O_ct hS8 ?_
         (try simp only [Act.put])
         refine mV 18 (bs 19 524287) hS8 ?_
         (try simp only [Act.put])
         refine wpAnyH_done (by kernel_rfl) ?_ _
         go_wp2_with fail
         go_meet
         exact ⟨_, _, ((FTO.out.ext E6.out)).map (fun r q h => h.own hbx (noU_of _ (by simp)) ob), hbx.setCells ct (Eq.trans Z_ct rfl), rfl, rfl, hS8⟩
        ·(try simp only [Act.put, zA, zB, zC])
         have E5 := zH (show Ext w4 (w4.alloc (.cells z4 26)) from (Ext.refl _).alloc _)
         have Fnb16 := zH (Blk.new w4 26 z4)
         refine mC 12 (bs 19 73727) (pQuo (L := 6 * L + 8) ((FFA.out.ext (tr E2 (tr E3 (tr E4 E5))).out).isIn (by omega)) ((FDE.out.ext E5.out).isIn (by omega)) (by omega) hden) ?_
         rintro e w6 ⟨ct, rfl, hc, hx⟩
         have E6 := zH (show Ext (w4.alloc (.cells z4 26)) w6 from hx)
         have FTO := zH hc
         have Z_ct := hc.size
         have O_ct := hc.one
         clear hc
         clear hx
         refine ⟨_, rfl, (tr E2 (tr E3 (tr E4 (tr E5 E6)))).out, ?_⟩
         (try simp only [Act.put, zA, zB, zC])
         refine mV 13 (bs 19 81919) (tr E2 (tr E3 (tr E4 (tr E5 E6)))).out ?_
         (try simp only [Act.put, zA, zB, zC])
         refine mV 14 (bs 19 98303) (tr E2 (tr E3 (tr E4 (tr E5 E6)))).out ?_
         (try simp only [Act.put, zA, zB, zC])
         refine mV 15 (bs 19 131071) (tr E2 (tr E3 (tr E4 (tr E5 E6)))).out ?_
         (try simp only [Act.put, zA, zB, zC])
         have hbx := (Fnb16.out.ext E6.out)
         have ob := Own.setCells w6 w4.heap.size ct
         have hgb : wv.heap.size ≤ w4.heap.size := (tr E2 (tr E3 E4)).out.size
         have hS8 : Ext wv (w6.setCells w4.heap.size 0 (ct : Array Value).toList) := ob.ext (tr E2 (tr E3 (tr E4 (tr E5 E6)))).out hgb
         refine mO 17 (bs 19 262143) ct hbx (Eq.trans Z_ct rfl) (by rw [show (ct : Array Value).size = 4 from Z_ct]; kernel_rfl) O_ct hS8 ?_
         (try simp only [Act.put])
         refine mV 18 (bs 19 524287) hS8 ?_
         (try simp only [Act.put])
         refine wpAnyH_done (by kernel_rfl) ?_ _
         go_wp2_with fail
         go_meet
         exact ⟨_, _, (FTO.out).map (fun r q h => h.own hbx (noU_of _ (by simp)) ob), hbx.setCells ct (Eq.trans Z_ct rfl), rfl, rfl, hS8⟩
       ·(try simp only [Act.put, zA, zB, zC])
        have E4 := zH (show Ext w3 (w3.alloc (.cells z4 26)) from (Ext.refl _).alloc _)
        have Fnb16 := zH (Blk.new w3 26 z4)
        refine mC 11 (bs 19 69631) (pAdd (L := 2 * L + 1) ((FFA.out.ext (tr E2 (tr E3 E4)).out).isIn (by omega)) ((FFC.out.ext E4.out).isIn (by omega)) (by omega)) ?_
        rintro e w5 ⟨ch, rfl, hc, hx⟩
        have E5 := zH (show Ext (w3.alloc (.cells z4 26)) w5 from hx)
        have FDE := zH hc
        have Z_ch := hc.size
        have O_ch := hc.one
        clear hc
        clear hx
        refine ⟨_, rfl, (tr E2 (tr E3 (tr E4 E5))).out, ?_⟩
        (try simp only [Act.put, zA, zB, zC])
        refine mC 12 (bs 19 73727) (pQuo (L := 6 * L + 8) ((FFA.out.ext (tr E2 (tr E3 (tr E4 E5))).out).isIn (by omega)) (FDE.out.isIn (by omega)) (by omega) hden) ?_
        rintro e w6 ⟨ct, rfl, hc, hx⟩
        have E6 : Hid (Ext w5 w6) := hx
        have FTO := zH hc
        have Z_ct := hc.size
        have O_ct := hc.one
        clear hc
        clear hx
        refine ⟨_, rfl, (tr E2 (tr E3 (tr E4 (tr E5 E6)))).out, ?_⟩
        (try simp only [Act.put, zA, zB, zC])
        refine mV 13 (bs 19 81919) (tr E2 (tr E3 (tr E4 (tr E5 E6)))).out ?_
        (try simp only [Act.put, zA, zB, zC])
        refine mV 14 (bs 19 98303) (tr E2 (tr E3 (tr E4 (tr E5 E6)))).out ?_
        (try simp only [Act.put, zA, zB, zC])
        refine mV 15 (bs 19 131071) (tr E2 (tr E3 (tr E4 (tr E5 E6)))).out ?_
        (try simp only [Act.put, zA, zB, zC])
        have hbx := (Fnb16.out.ext (tr E5 E6).out)
        have ob := Own.setCells w6 w3.heap.size ct
        have hgb : wv.heap.size ≤ w3.heap.size := (tr E2 E3).out.size
        have hS8 : Ext wv (w6.setCells w3.heap.size 0 (ct : Array Value).toList) := ob.ext (tr E2 (tr E3 (tr E4 (tr E5 E6)))).out hgb
        refine mO 17 (bs 19 262143) ct hbx (Eq.trans Z_ct rfl) (by rw [show (ct : Array Value).size = 4 from Z_ct]; kernel_rfl) O_ct hS8 ?_
        (try simp only [Act.put])
        refine mV 18 (bs 19 524287) hS8 ?_
        (try simp only [Act.put])
        refine wpAnyH_done (by kernel_rfl) ?_ _
        go_wp2_with fail
        go_meet
        exact ⟨_, _, (FTO.out).map (fun r q h => h.own hbx (noU_of _ (by simp)) ob), hbx.setCells ct (Eq.trans Z_ct rfl), rfl, rfl, hS8⟩
      ·(try simp only [Act.put, zA, zB, zC])
       have E3 := zH (show Ext wv.drew (wv.drew.alloc (.cells z4 26)) from (Ext.refl _).alloc _)
       have Fnb16 := zH (Blk.new wv.drew 26 z4)
       refine mC 10 (bs 19 67583) (pSub (L := L) (FP.out.ext (tr E1 (tr E2 E3)).out).e4 (FP.out.ext (tr E1 (tr E2 E3)).out).e2 (by omega)) ?_
       rintro e w4 ⟨cg, rfl, hc, hx⟩
       have E4 := zH (show Ext (wv.drew.alloc (.cells z4 26)) w4 from hx)
       have FFC := zH hc
       have Z_cg := hc.size
       have O_cg := hc.one
       clear hc
       clear hx
       refine ⟨_, rfl, (tr E2 (tr E3 E4)).out, ?_⟩
       (try simp only [Act.put, zA, zB, zC])
       refine mC 11 (bs 19 69631) (pAdd (L := 2 * L + 1) ((FFA.out.ext (tr E2 (tr E3 E4)).out).isIn (by omega)) (FFC.out.isIn (by omega)) (by omega)) ?_
       rintro e w5 ⟨ch, rfl, hc, hx⟩
       have E5 : Hid (Ext w4 w5) := hx
       have FDE := zH hc
       have Z_ch := hc.size
       have O_ch := hc.one
       clear hc
       clear hx
       refine ⟨_, rfl, (tr E2 (tr E3 (tr E4 E5))).out, ?_⟩
       (try simp only [Act.put, zA, zB, zC])
       refine mC 12 (bs 19 73727) (pQuo (L := 6 * L + 8) ((FFA.out.ext (tr E2 (tr E3 (tr E4 E5))).out).isIn (by omega)) (FDE.out.isIn (by omega)) (by omega) hden) ?_
       rintro e w6 ⟨ct, rfl, hc, hx⟩
       have E6 : Hid (Ext w5 w6) := hx
       have FTO := zH hc
       have Z_ct := hc.size
       have O_ct := hc.one
       clear hc
       clear hx
       refine ⟨_, rfl, (tr E2 (tr E3 (tr E4 (tr E5 E6)))).out, ?_⟩
       (try simp only [Act.put, zA, zB, zC])
       refine mV 13 (bs 19 81919) (tr E2 (tr E3 (tr E4 (tr E5 E6)))).out ?_
       (try simp only [Act.put, zA, zB, zC])
       refine mV 14 (bs 19 98303) (tr E2 (tr E3 (tr E4 (tr E5 E6)))).out ?_
       (try simp only [Act.put, zA, zB, zC])
       refine mV 15 (bs 19 131071) (tr E2 (tr E3 (tr E4 (tr E5 E6)))).out ?_
       (try simp only [Act.put, zA, zB, zC])
       have hbx := (Fnb16.out.ext (tr E4 (tr E5 E6)).out)
       have ob := Own.setCells w6 wv.drew.heap.size ct
       have hgb : wv.heap.size ≤ wv.drew.heap.size := E2.out.size
       have hS8 : Ext wv (w6.setCells wv.drew.heap.size 0 (ct : Array Value).toList) := ob.ext (tr E2 (tr E3 (tr E4 (tr E5 E6)))).out hgb
       refine mO 17 (bs 19 262143) ct hbx (Eq.trans Z_ct rfl) (by rw [show (ct : Array Value).size = 4 from Z_ct]; kernel_rfl) O_ct hS8 ?_
       (try simp only [Act.put])
       refine mV 18 (bs 19 524287) hS8 ?_
       (try simp only [Act.put])
       refine wpAnyH_done (by kernel_rfl) ?_ _
       go_wp2_with fail
       go_meet
       exact ⟨_, _, (FTO.out).map (fun r q h => h.own hbx (noU_of _ (by simp)) ob), hbx.setCells ct (Eq.trans Z_ct rfl), rfl, rfl, hS8⟩
     case rest =>
      obtain ⟨X9, c9, hto, hb9, rfl, rfl, hx⟩ := hcut
      have E2 : Hid (Ext wv wc) := hx
      have Z9 := hto.size
      have O9 := hto.one
      have FTO := zH hto
      have Fb9 := zH hb9
      clear hto hb9 hx
      obtain ⟨s0, hs0⟩ : ∃ s, s = rcmp ((A0 - B0) / ((A0 - B0) + (C0 - B0))) ((0 : Int) : Rat) := ⟨_, rfl⟩
      obtain ⟨s1, hs1⟩ : ∃ s, s = rcmp ((A0 - B0) / ((A0 - B0) + (C0 - B0))) ((1 : Int) : Rat) := ⟨_, rfl⟩
      have HSZ := zH hs0
      have HSO := zH hs1
      clear hs0 hs1
      by_cases hgt : 0 < s0
      ·by_cases hlt : s1 < 0
       ·go_upto_region 10 with fail
        refine wp_region_lit ?_
        refine pV (w' := wc) ?_
        (try simp only [Act.put, zA, zB, zC])
        refine pV (w' := wc) ?_
        (try simp only [Act.put, zA, zB, zC])
        refine pV (w' := wc) ?_
        (try simp only [Act.put, zA, zB, zC])
        refine pL Fb9.out Tryz.underlying26 (by rw [show (c9 : Array Value).size = 4 from Z9]; kernel_rfl) ?_
        (try simp only [Act.put, zA, zB, zC])
        refine pL (FV5.out.ext (tr E1 E2).out) Tryz.underlying26 (by rw [show (cz : Array Value).size = 4 from ZZ]; kernel_rfl) ?_
        (try simp only [Act.put, zA, zB, zC])
        refine mv_call (by rfl) (by go_simp) (pCmpS HSZ.out (L := 6 * L + 8) (FTO.out.isIn (by omega)) ((FZ.out.ext (tr E1 E2).out).isIn (by omega)) (by omega)) ?_
        rintro e w3 ⟨rfl, hx⟩
        have E3 : Hid (Ext wc w3) := hx
        clear hx
        refine ⟨_, rfl, ?_⟩
        (try simp only [Act.put, zA, zB, zC])
        refine pV (w' := w3) ?_
        (try simp only [Act.put, zA, zB, zC])
        refine pV (w' := w3) ?_
        (try simp only [Act.put, zA, zB, zC])
        refine pV (w' := w3) ?_
        (try simp only [Act.put, zA, zB, zC])
        refine pL (Fb9.out.ext E3.out) Tryz.underlying26 (by rw [show (c9 : Array Value).size = 4 from Z9]; kernel_rfl) ?_
        (try simp only [Act.put, zA, zB, zC])
        refine pL (FV6.out.ext (tr E1 (tr E2 E3)).out) Tryz.underlying26 (by rw [show (co : Array Value).size = 4 from ZO]; kernel_rfl) ?_
        (try simp only [Act.put, zA, zB, zC])
        refine mv_call (by rfl) (by go_simp) (pCmpS HSO.out (L := 6 * L + 8) ((FTO.out.ext E3.out).isIn (by omega)) ((FO.out.ext (tr E1 (tr E2 E3)).out).isIn (by omega)) (by omega)) ?_
        rintro e w4 ⟨rfl, hx⟩
        have E4 : Hid (Ext w3 w4) := hx
        clear hx
        refine ⟨_, rfl, ?_⟩
        (try simp only [Act.put, zA, zB, zC])
        refine pV (w' := w4) ?_
        (try simp only [Act.put, zA, zB, zC])
        refine pV (w' := w4) ?_
        (try simp only [Act.put, zA, zB, zC])
        go_upto_region 11 with fail
        refine wp_region_lit ?_
        refine pV (w' := w4) ?_
        (try simp only [Act.put, zA, zB, zC])
        refine pL (Fbx0.out.ext (tr E1 (tr E2 (tr E3 E4))).out) Tryz.underlying32 (by rw [show (cp : Array Value).size = 24 from ZP]; kernel_rfl) ?_
        (try simp only [Act.put, zA, zB, zC])
        refine pL (Fb9.out.ext (tr E3 E4).out) Tryz.underlying26 (by rw [show (c9 : Array Value).size = 4 from Z9]; kernel_rfl) ?_
        (try simp only [Act.put, zA, zB, zC])
        refine mv_call (by rfl) (by go_simp) (oEvalQuad (L := 6 * L + 8) ((FP.out.ext (tr E1 (tr E2 (tr E3 E4))).out).mono (by omega)) ((FTO.out.ext (tr E3 E4).out).isIn (by omega)) (by omega) (by omega)) ?_
        rintro e w5 ⟨ce, rfl, hc, hx⟩
        have E5 : Hid (Ext w4 w5) := hx
        have FEV := zH hc
        have Z_ce := hc.size
        clear hc
        clear hx
        refine ⟨_, rfl, ?_⟩
        (try simp only [Act.put, zA, zB, zC])
        refine pV (w' := w5) ?_
        (try simp only [Act.put, zA, zB, zC])
        refine mv_val (v := .agg (ce.extract 0 (0 + 4))) (w' := w5) (by rfl) (by have hix := pIdx0 FEV.out; go_simp <;> with_reducible rfl) ?_
        (try simp only [Act.put, zA, zB, zC])
        refine mv_call (by rfl) (by go_simp) (pBox0 (L := 16 * (6 * L + 8) + 10) (HST.out.box.ext (tr E1 (tr E2 (tr E3 (tr E4 E5)))).out) (FEV.out.c0.isIn (by omega)) (by omega) (by omega) (by omega)) ?_
        rintro e w6 ⟨rfl, hbx, htx⟩
        refine ⟨_, rfl, ?_⟩
        (try simp only [Act.put, zA, zB, zC])
        go_wp2_with fail
        go_roundg 1
        case measure => omega
        case rel => exact Or.inr (Or.inl ⟨rfl, by go_num, (by rw [qLo_in (a := A0) (b := B0) (c := C0) (qTop_in (by have := HSZ.out; omega) (by have := HSO.out; omega)), qHi_in (a := A0) (b := B0) (c := C0) (qTop_in (by have := HSZ.out; omega) (by have := HSO.out; omega))]; exact HST.out.turn hbx ((Turn.of_ext (tr E1 (tr E2 (tr E3 (tr E4 E5)))).out).trans htx))⟩)
       ·go_upto_region 10 with fail
        refine wp_region_lit ?_
        refine pV (w' := wc) ?_
        (try simp only [Act.put, zA, zB, zC])
        refine pV (w' := wc) ?_
        (try simp only [Act.put, zA, zB, zC])
        refine pV (w' := wc) ?_
        (try simp only [Act.put, zA, zB, zC])
        refine pL Fb9.out Tryz.underlying26 (by rw [show (c9 : Array Value).size = 4 from Z9]; kernel_rfl) ?_
        (try simp only [Act.put, zA, zB, zC])
        refine pL (FV5.out.ext (tr E1 E2).out) Tryz.underlying26 (by rw [show (cz : Array Value).size = 4 from ZZ]; kernel_rfl) ?_
        (try simp only [Act.put, zA, zB, zC])
        refine mv_call (by rfl) (by go_simp) (pCmpS HSZ.out (L := 6 * L + 8) (FTO.out.isIn (by omega)) ((FZ.out.ext (tr E1 E2).out).isIn (by omega)) (by omega)) ?_
        rintro e w3 ⟨rfl, hx⟩
        have E3 : Hid (Ext wc w3) := hx
        clear hx
        refine ⟨_, rfl, ?_⟩
        (try simp only [Act.put, zA, zB, zC])
        refine pV (w' := w3) ?_
        (try simp only [Act.put, zA, zB, zC])
        refine pV (w' := w3) ?_
        (try simp only [Act.put, zA, zB, zC])
        refine pV (w' := w3) ?_
        (try simp only [Act.put, zA, zB, zC])
        refine pL (Fb9.out.ext E3.out) Tryz.underlying26 (by rw [show (c9 : Array Value).size = 4 from Z9]; kernel_rfl) ?_
        (try simp only [Act.put, zA, zB, zC])
        refine pL (FV6.out.ext (tr E1 (tr E2 E3)).out) Tryz.underlying26 (by rw [show (co : Array Value).size = 4 from ZO]; kernel_rfl) ?_
        (try simp only [Act.put, zA, zB, zC])
        refine mv_call (by rfl) (by go_simp) (pCmpS HSO.out (L := 6 * L + 8) ((FTO.out.ext E3.out).isIn (by omega)) ((FO.out.ext (tr E1 (tr E2 E3)).out).isIn (by omega)) (by omega)) ?_
        rintro e w4 ⟨rfl, hx⟩
        have E4 : Hid (Ext w3 w4) := hx
        clear hx
        refine ⟨_, rfl, ?_⟩
        (try simp only [Act.put, zA, zB, zC])
        refine pV (w' := w4) ?_
        (try simp only [Act.put, zA, zB, zC])
        refine pV (w' := w4) ?_
        (try simp only [Act.put, zA, zB, zC])
        go_wp2_with fail
        go_roundg 1
        case measure => omega
        case rel => exact Or.inr (Or.inl ⟨rfl, by go_num, (by rw [qLo_out (a := A0) (b := B0) (c := C0) (qTop_out2 (by have := HSO.out; omega)), qHi_out (a := A0) (b := B0) (c := C0) (qTop_out2 (by have := HSO.out; omega))]; exact HST.out.turn (HST.out.box.ext (tr E1 (tr E2 (tr E3 E4))).out) (Turn.of_ext (tr E1 (tr E2 (tr E3 E4))).out))⟩)
      ·go_upto_region 10 with fail
       refine wp_region_lit ?_
       refine pV (w' := wc) ?_
       (try simp only [Act.put, zA, zB, zC])
       refine pV (w' := wc) ?_
       (try simp only [Act.put, zA, zB, zC])
       refine pV (w' := wc) ?_
       (try simp only [Act.put, zA, zB, zC])
       refine pL Fb9.out Tryz.underlying26 (by rw [show (c9 : Array Value).size = 4 from Z9]; kernel_rfl) ?_
       (try simp only [Act.put, zA, zB, zC])
       refine pL (FV5.out.ext (tr E1 E2).out) Tryz.underlying26 (by rw [show (cz : Array Value).size = 4 from ZZ]; kernel_rfl) ?_
       (try simp only [Act.put, zA, zB, zC])
       refine mv_call (by rfl) (by go_simp) (pCmpS HSZ.out (L := 6 * L + 8) (FTO.out.isIn (by omega)) ((FZ.out.ext (tr E1 E2).out).isIn (by omega)) (by omega)) ?_
       rintro e w3 ⟨rfl, hx⟩
       have E3 : Hid (Ext wc w3) := hx
       clear hx
       refine ⟨_, rfl, ?_⟩
       (try simp only [Act.put, zA, zB, zC])
       refine pV (w' := w3) ?_
       (try simp only [Act.put, zA, zB, zC])
       refine pV (w' := w3) ?_
       (try simp only [Act.put, zA, zB, zC])
       refine pV (w' := w3) ?_
       (try simp only [Act.put, zA, zB, zC])
       refine mv_skip (by rfl) ?_
       (try simp only [Act.put, zA, zB, zC])
       refine mv_skip (by rfl) ?_
       (try simp only [Act.put, zA, zB, zC])
       refine mv_skip (by rfl) ?_
       (try simp only [Act.put, zA, zB, zC])
       refine mv_skip (by rfl) ?_
       (try simp only [Act.put, zA, zB, zC])
       refine pV (w' := w3) ?_
       (try simp only [Act.put, zA, zB, zC])
       go_wp2_with fail
       go_roundg 1
       case measure => omega
       case rel => exact Or.inr (Or.inl ⟨rfl, by go_num, (by rw [qLo_out (a := A0) (b := B0) (c := C0) (qTop_out1 (by have := HSZ.out; omega)), qHi_out (a := A0) (b := B0) (c := C0) (qTop_out1 (by have := HSZ.out; omega))]; exact HST.out.turn (HST.out.box.ext (tr E1 (tr E2 E3)).out) (Turn.of_ext (tr E1 (tr E2 E3)).out))⟩)
  ·have HST := zH hst
   clear hst
   have ZZ := HST.out.Z.size
   have ZO := HST.out.O.size
   have rz := rlI 0 (by decide)
   have ro := rlI 1 (by decide)
   have rfa := Nm.rl_sub A1 B1
   have rfc := Nm.rl_sub C1 B1
   have rde := Nm.rl_add (A1 - B1) (C1 - B1)
   have rto := Nm.rl_div (A1 - B1) ((A1 - B1) + (C1 - B1))
   have rlo := rl_lower (q := C1) (l := A1) (L := L) (by omega) (by omega)
   have rhi := rl_upper (q := C1) (l := A1) (L := L) (by omega) (by omega)
   have rev := rl_quadV3 (a := A1) (b := B1) (c := C1) (t := ((A1 - B1) / ((A1 - B1) + (C1 - B1)))) (L := 6 * L + 8) (by omega) (by omega) (by omega) (by omega)
   have FP := zH HST.out.P
   have FZ := zH HST.out.Z
   have FO := zH HST.out.O
   have Fbx0 := zH HST.out.kp
   have FV5 := zH HST.out.kz
   have FV6 := zH HST.out.ko
   go_upto_region 8 with fail
   go_cut [8] (fun s wx => ∃ (X8 : Nat) (c8 : Array Value), s = .pointer (some ⟨X8, 0, none⟩) ∧ NIs wx c8 (A1 - B1) ∧ Blk wx X8 26 c8 ∧ Ext wr wx)
   case first =>
    refine wp_region_held_drew (S := fun x => Ext wr x) (by kernel_rfl) (Ext.refl _).drew (fun _ => ?_)
    have E1 := zH (show Ext wr wr.drew from (Ext.refl _).drew)
    refine mV 0 (bs 11 1) E1.out ?_
    (try simp only [Act.put, zA, zB, zC])
    refine mV 1 (bs 11 3) E1.out ?_
    (try simp only [Act.put, zA, zB, zC])
    refine mV 2 (bs 11 7) E1.out ?_
    refine mP 3 (bs 11 15) 4 4 (fun x hx => (Fbx0.out).ext hx) Tryz.underlying26 (by rw [show (cp : Array Value).size = 24 from ZP]; omega) E1.out ?_
    (try simp only [Act.put, zA, zB, zC])
    refine mV 4 (bs 11 31) E1.out ?_
    (try simp only [Act.put, zA, zB, zC])
    refine mV 5 (bs 11 63) E1.out ?_
    (try simp only [Act.put, zA, zB, zC])
    refine mV 6 (bs 11 127) E1.out ?_
    refine mP 7 (bs 11 255) 12 4 (fun x hx => (Fbx0.out).ext hx) Tryz.underlying26 (by rw [show (cp : Array Value).size = 24 from ZP]; omega) E1.out ?_
    (try simp only [Act.put, zA, zB, zC])
    refine mB 8 9 (bs 11 511) (bs 11 767) (u := .pointer (some ⟨wr.drew.heap.size, 0, none⟩)) (wj := (wr.drew.alloc (.cells z4 26))) (pSub (L := L) (FP.out.ext E1.out).e1 (FP.out.ext E1.out).e3 (by omega)) (E1.out.alloc _) ?_ ?_
    ·rintro e w2 ⟨cf, rfl, hc, hx⟩
     have E2 : Hid (Ext wr.drew w2) := hx
     have FFA := zH hc
     have Z_cf := hc.size
     have O_cf := hc.one
     clear hc
     clear hx
     refine ⟨_, rfl, (tr E1 E2).out, ?_⟩
     (try simp only [Act.put, zA, zB, zC])
     refine mU 9 (bs 11 1023) (v := .pointer (some ⟨w2.heap.size, 0, none⟩)) (w' := (w2.alloc (.cells z4 26))) ((tr E1 E2).out.alloc _) ?_
     (try simp only [Act.put, zA, zB, zC])
     have E3 := zH (show Ext w2 (w2.alloc (.cells z4 26)) from (Ext.refl _).alloc _)
     have Fnb9 := zH (Blk.new w2 26 z4)
     have hbx := Fnb9.out
     have ob := Own.setCells (w2.alloc (.cells z4 26)) w2.heap.size cf
     have hgb : wr.heap.size ≤ w2.heap.size := (tr E1 E2).out.size
     have hS8 : Ext wr ((w2.alloc (.cells z4 26)).setCells w2.heap.size 0 (cf : Array Value).toList) := ob.ext (tr E1 (tr E2 E3)).out hgb
     refine mO 10 (bs 11 2047) cf hbx (Eq.trans Z_cf rfl) (by rw [show (cf : Array Value).size = 4 from Z_cf]; kernel_rfl) O_cf hS8 ?_
     (try simp only [Act.put])
     refine wpAnyH_done (by kernel_rfl) ?_ _
     go_wp2_with fail
     go_meet
     exact ⟨_, _, rfl, ((FFA.out.ext E3.out)).map (fun r q h => h.own hbx (noU_of _ (by simp)) ob), hbx.setCells cf (Eq.trans Z_cf rfl), hS8⟩
    ·(try simp only [Act.put, zA, zB, zC])
     have E2 := zH (show Ext wr.drew (wr.drew.alloc (.cells z4 26)) from (Ext.refl _).alloc _)
     have Fnb9 := zH (Blk.new wr.drew 26 z4)
     refine mC 8 (bs 11 1023) (pSub (L := L) (FP.out.ext (tr E1 E2).out).e1 (FP.out.ext (tr E1 E2).out).e3 (by omega)) ?_
     rintro e w3 ⟨cf, rfl, hc, hx⟩
     have E3 := zH (show Ext (wr.drew.alloc (.cells z4 26)) w3 from hx)
     have FFA := zH hc
     have Z_cf := hc.size
     have O_cf := hc.one
     clear hc
     clear hx
     refine ⟨_, rfl, (tr E1 (tr E2 E3)).out, ?_⟩
     (try simp only [Act.put, zA, zB, zC])
     have hbx := (Fnb9.out.ext E3.out)
     have ob := Own.setCells w3 wr.drew.heap.size cf
     have hgb : wr.heap.size ≤ wr.drew.heap.size := E1.out.size
     have hS8 : Ext wr (w3.setCells wr.drew.heap.size 0 (cf : Array Value).toList) := ob.ext (tr E1 (tr E2 E3)).out hgb
     refine mO 10 (bs 11 2047) cf hbx (Eq.trans Z_cf rfl) (by rw [show (cf : Array Value).size = 4 from Z_cf]; kernel_rfl) O_cf hS8 ?_
     (try simp only [Act.put])
     refine wpAnyH_done (by kernel_rfl) ?_ _
     go_wp2_with fail
     go_meet
     exact ⟨_, _, rfl, (FFA.out).map (fun r q h => h.own hbx (noU_of _ (by simp)) ob), hbx.setCells cf (Eq.trans Z_cf rfl), hS8⟩
   case rest =>
    obtain ⟨X8, c8, rfl, hfa, hb8, hx⟩ := hcut
    generalize wc = wv at *
    have E1 : Hid (Ext wr wv) := hx
    have Z8 := hfa.size
    have O8 := hfa.one
    have FFA := zH hfa
    have Fb8 := zH hb8
    clear hfa hb8 hx
    by_cases hden : ((A1 - B1) + (C1 - B1)) = 0
    ·go_upto_region 9 with fail
     go_cut [9, 10] (fun s e wx => ∃ X9 : Nat, s = .pointer (some ⟨X9, 0, none⟩) ∧ e = .int .i64 9 ∧ Ext wv wx)
     case first =>
      refine wp_region_held_drew (S := fun x => Ext wv x) (by kernel_rfl) (Ext.refl _).drew (fun _ => ?_)
      have E2 := zH (show Ext wv wv.drew from (Ext.refl _).drew)
      refine mL 0 (bs 19 1) (fun x hx => (Fb8.out).ext hx) Tryz.underlying26 (by rw [show (c8 : Array Value).size = 4 from Z8]; kernel_rfl) E2.out ?_
      refine mL 1 (bs 19 3) (fun x hx => (Fb8.out).ext hx) Tryz.underlying26 (by rw [show (c8 : Array Value).size = 4 from Z8]; kernel_rfl) E2.out ?_
      (try simp only [Act.put, zA, zB, zC])
      refine mV 2 (bs 19 7) E2.out ?_
      (try simp only [Act.put, zA, zB, zC])
      refine mV 3 (bs 19 15) E2.out ?_
      (try simp only [Act.put, zA, zB, zC])
      refine mV 4 (bs 19 31) E2.out ?_
      refine mP 5 (bs 19 63) 20 4 (fun x hx => ((Fbx0.out.ext E1.out)).ext hx) Tryz.underlying26 (by rw [show (cp : Array Value).size = 24 from ZP]; omega) E2.out ?_
      (try simp only [Act.put, zA, zB, zC])
      refine mV 6 (bs 19 127) E2.out ?_
      (try simp only [Act.put, zA, zB, zC])
      refine mV 7 (bs 19 255) E2.out ?_
      (try simp only [Act.put, zA, zB, zC])
      refine mV 8 (bs 19 511) E2.out ?_
      refine mP 9 (bs 19 1023) 12 4 (fun x hx => ((Fbx0.out.ext E1.out)).ext hx) Tryz.underlying26 (by rw [show (cp : Array Value).size = 24 from ZP]; omega) E2.out ?_
      (try simp only [Act.put, zA, zB, zC])
      refine mB 10 16 (bs 19 2047) (bs 19 66559) (u := .pointer (some ⟨wv.drew.heap.size, 0, none⟩)) (wj := (wv.drew.alloc (.cells z4 26))) (pSub (L := L) (FP.out.ext (tr E1 E2).out).e5 (FP.out.ext (tr E1 E2).out).e3 (by omega)) (E2.out.alloc _) ?_ ?_
      ·rintro e w3 ⟨cg, rfl, hc, hx⟩
       have E3 : Hid (Ext wv.drew w3) := hx
       have FFC := zH hc
       have Z_cg := hc.size
       have O_cg := hc.one
       clear hc
       clear hx
       refine ⟨_, rfl, (tr E2 E3).out, ?_⟩
       (try simp only [Act.put, zA, zB, zC])
       refine mB 11 16 (bs 19 4095) (bs 19 67583) (u := .pointer (some ⟨w3.heap.size, 0, none⟩)) (wj := (w3.alloc (.cells z4 26))) (pAdd (L := 2 * L + 1) ((FFA.out.ext (tr E2 E3).out).isIn (by omega)) (FFC.out.isIn (by omega)) (by omega)) ((tr E2 E3).out.alloc _) ?_ ?_
       ·rintro e w4 ⟨ch, rfl, hc, hx⟩
        have E4 : Hid (Ext w3 w4) := hx
        have FDE := zH hc
        have Z_ch := hc.size
        have O_ch := hc.one
        clear hc
        clear hx
        refine ⟨_, rfl, (tr E2 (tr E3 E4)).out, ?_⟩
        (try simp only [Act.put, zA, zB, zC])
        refine mB 12 16 (bs 19 8191) (bs 19 69631) (u := .pointer (some ⟨w4.heap.size, 0, none⟩)) (wj := (w4.alloc (.cells z4 26))) (pQuo0 (L := 6 * L + 8) ((FFA.out.ext (tr E2 (tr E3 E4)).out).isIn (by omega)) (FDE.out.isIn (by omega)) (by omega) hden) ((tr E2 (tr E3 E4)).out.alloc _) ?_ ?_
        ·rintro e w5 ⟨rfl, hx⟩
         have E5 : Hid (Ext w4 w5) := hx
         clear hx
         refine ⟨_, rfl, (tr E2 (tr E3 (tr E4 E5))).out, ?_⟩
         (try simp only [Act.put, zA, zB, zC])
         refine mV 13 (bs 19 16383) (tr E2 (tr E3 (tr E4 E5))).out ?_
         (try simp only [Act.put, zA, zB, zC])
         refine mV 14 (bs 19 32767) (tr E2 (tr E3 (tr E4 E5))).out ?_
         (try simp only [Act.put, zA, zB, zC])
         refine mV 15 (bs 19 65535) (tr E2 (tr E3 (tr E4 E5))).out ?_
         (try simp only [Act.put, zA, zB, zC])
         refine mU 16 (bs 19 131071) (v := .pointer (some ⟨w5.heap.size, 0, none⟩)) (w' := (w5.alloc (.cells z4 26))) ((tr E2 (tr E3 (tr E4 E5))).out.alloc _) ?_
         (try simp only [Act.put, zA, zB, zC])
         have E6 := zH (show Ext w5 (w5.alloc (.cells z4 26)) from (Ext.refl _).alloc _)
         have Fnb16 := zH (Blk.new w5 26 z4)
         have hbx := Fnb16.out
         have ob := Own.setCells (w5.alloc (.cells z4 26)) w5.heap.size z4
         have hgb : wv.heap.size ≤ w5.heap.size := (tr E2 (tr E3 (tr E4 E5))).out.size
         have hS8 : Ext wv ((w5.alloc (.cells z4 26)).setCells w5.heap.size 0 (z4 : Array Value).toList) := ob.ext (tr E2 (tr E3 (tr E4 (tr E5 E6)))).out hgb
         refine mO 17 (bs 19 262143) z4 hbx rfl (by kernel_rfl) (all_oneCell_toArray (by simp [Value.oneCell'])) hS8 ?_
         (try simp only [Act.put])
         refine mV 18 (bs 19 524287) hS8 ?_
         (try simp only [Act.put])
         refine wpAnyH_done (by kernel_rfl) ?_ _
         go_wp2_with fail
         go_meet
         exact ⟨_, rfl, rfl, hS8⟩
        ·(try simp only [Act.put, zA, zB, zC])
         have E5 := zH (show Ext w4 (w4.alloc (.cells z4 26)) from (Ext.refl _).alloc _)
         have Fnb16 := zH (Blk.new w4 26 z4)
         refine mC 12 (bs 19 73727) (pQuo0 (L := 6 * L + 8) ((FFA.out.ext (tr E2 (tr E3 (tr E4 E5))).out).isIn (by omega)) ((FDE.out.ext E5.out).isIn (by omega)) (by omega) hden) ?_
         rintro e w6 ⟨rfl, hx⟩
         have E6 := zH (show Ext (w4.alloc (.cells z4 26)) w6 from hx)
         clear hx
         refine ⟨_, rfl, (tr E2 (tr E3 (tr E4 (tr E5 E6)))).out, ?_⟩
         (try simp only [Act.put, zA, zB, zC])
         refine mV 13 (bs 19 81919) (tr E2 (tr E3 (tr E4 (tr E5 E6)))).out ?_
         (try simp only [Act.put, zA, zB, zC])
         refine mV 14 (bs 19 98303) (tr E2 (tr E3 (tr E4 (tr E5 E6)))).out ?_
         (try simp only [Act.put, zA, zB, zC])
         refine mV 15 (bs 19 131071) (tr E2 (tr E3 (tr E4 (tr E5 E6)))).out ?_
         (try simp only [Act.put, zA, zB, zC])
         have hbx := (Fnb16.out.ext E6.out)
         have ob := Own.setCells w6 w4.heap.size z4
         have hgb : wv.heap.size ≤ w4.heap.size := (tr E2 (tr E3 E4)).out.size
         have hS8 : Ext wv (w6.setCells w4.heap.size 0 (z4 : Array Value).toList) := ob.ext (tr E2 (tr E3 (tr E4 (tr E5 E6)))).out hgb
         refine mO 17 (bs 19 262143) z4 hbx rfl (by kernel_rfl) (all_oneCell_toArray (by simp [Value.oneCell'])) hS8 ?_
         (try simp only [Act.put])
         refine mV 18 (bs 19 524287) hS8 ?_
         (try simp only [Act.put])
         refine wpAnyH_done (by kernel_rfl) ?_ _
         go_wp2_with fail
         go_meet
         exact ⟨_, rfl, rfl, hS8⟩
       ·(try simp only [Act.put, zA, zB, zC])
        have E4 := zH (show Ext w3 (w3.alloc (.cells z4 26)) from (Ext.refl _).alloc _)
        have Fnb16 := zH (Blk.new w3 26 z4)
        refine mC 11 (bs 19 69631) (pAdd (L := 2 * L + 1) ((FFA.out.ext (tr E2 (tr E3 E4)).out).isIn (by omega)) ((FFC.out.ext E4.out).isIn (by omega)) (by omega)) ?_
        rintro e w5 ⟨ch, rfl, hc, hx⟩
        have E5 := zH (show Ext (w3.alloc (.cells z4 26)) w5 from hx)
        have FDE := zH hc
        have Z_ch := hc.size
        have O_ch := hc.one
        clear hc
        clear hx
        refine ⟨_, rfl, (tr E2 (tr E3 (tr E4 E5))).out, ?_⟩
        (try simp only [Act.put, zA, zB, zC])
        refine mC 12 (bs 19 73727) (pQuo0 (L := 6 * L + 8) ((FFA.out.ext (tr E2 (tr E3 (tr E4 E5))).out).isIn (by omega)) (FDE.out.isIn (by omega)) (by omega) hden) ?_
        rintro e w6 ⟨rfl, hx⟩
        have E6 : Hid (Ext w5 w6) := hx
        clear hx
        refine ⟨_, rfl, (tr E2 (tr E3 (tr E4 (tr E5 E6)))).out, ?_⟩
        (try simp only [Act.put, zA, zB, zC])
        refine mV 13 (bs 19 81919) (tr E2 (tr E3 (tr E4 (tr E5 E6)))).out ?_
        (try simp only [Act.put, zA, zB, zC])
        refine mV 14 (bs 19 98303) (tr E2 (tr E3 (tr E4 (tr E5 E6)))).out ?_
        (try simp only [Act.put, zA, zB, zC])
        refine mV 15 (bs 19 131071) (tr E2 (tr E3 (tr E4 (tr E5 E6)))).out ?_
        (try simp only [Act.put, zA, zB, zC])
        have hbx := (Fnb16.out.ext (tr E5 E6).out)
        have ob := Own.setCells w6 w3.heap.size z4
        have hgb : wv.heap.size ≤ w3.heap.size := (tr E2 E3).out.size
        have hS8 : Ext wv (w6.setCells w3.heap.size 0 (z4 : Array Value).toList) := ob.ext (tr E2 (tr E3 (tr E4 (tr E5 E6)))).out hgb
        refine mO 17 (bs 19 262143) z4 hbx rfl (by kernel_rfl) (all_oneCell_toArray (by simp [Value.oneCell'])) hS8 ?_
        (try simp only [Act.put])
        refine mV 18 (bs 19 524287) hS8 ?_
        (try simp only [Act.put])
        refine wpAnyH_done (by kernel_rfl) ?_ _
        go_wp2_with fail
        go_meet
        exact ⟨_, rfl, rfl, hS8⟩
      ·(try simp only [Act.put, zA, zB, zC])
       have E3 := zH (show Ext wv.drew (wv.drew.alloc (.cells z4 26)) from (Ext.refl _).alloc _)
       have Fnb16 := zH (Blk.new wv.drew 26 z4)
       refine mC 10 (bs 19 67583) (pSub (L := L) (FP.out.ext (tr E1 (tr E2 E3)).out).e5 (FP.out.ext (tr E1 (tr E2 E3)).out).e3 (by omega)) ?_
       rintro e w4 ⟨cg, rfl, hc, hx⟩
       have E4 := zH (show Ext (wv.drew.alloc (.cells z4 26)) w4 from hx)
       have FFC := zH hc
       have Z_cg := hc.size
       have O_cg := hc.one
       clear hc
       clear hx
       refine ⟨_, rfl, (tr E2 (tr E3 E4)).out, ?_⟩
       (try simp only [Act.put, zA, zB, zC])
       refine mC 11 (bs 19 69631) (pAdd (L := 2 * L + 1) ((FFA.out.ext (tr E2 (tr E3 E4)).out).isIn (by omega)) (FFC.out.isIn (by omega)) (by omega)) ?_
       rintro e w5 ⟨ch, rfl, hc, hx⟩
       have E5 : Hid (Ext w4 w5) := hx
       have FDE := zH hc
       have Z_ch := hc.size
       have O_ch := hc.one
       clear hc
       clear hx
       refine ⟨_, rfl, (tr E2 (tr E3 (tr E4 E5))).out, ?_⟩
       (try simp only [Act.put, zA, zB, zC])
       refine mC 12 (bs 19 73727) (pQuo0 (L := 6 * L + 8) ((FFA.out.ext (tr E2 (tr E3 (tr E4 E5))).out).isIn (by omega)) (FDE.out.isIn (by omega)) (by omega) hden) ?_
       rintro e w6 ⟨rfl, hx⟩
       have E6 : Hid (Ext w5 w6) := hx
       clear hx
       refine ⟨_, rfl, (tr E2 (tr E3 (tr E4 (tr E5 E6)))).out, ?_⟩
       (try simp only [Act.put, zA, zB, zC])
       refine mV 13 (bs 19 81919) (tr E2 (tr E3 (tr E4 (tr E5 E6)))).out ?_
       (try simp only [Act.put, zA, zB, zC])
       refine mV 14 (bs 19 98303) (tr E2 (tr E3 (tr E4 (tr E5 E6)))).out ?_
       (try simp only [Act.put, zA, zB, zC])
       refine mV 15 (bs 19 131071) (tr E2 (tr E3 (tr E4 (tr E5 E6)))).out ?_
       (try simp only [Act.put, zA, zB, zC])
       have hbx := (Fnb16.out.ext (tr E4 (tr E5 E6)).out)
       have ob := Own.setCells w6 wv.drew.heap.size z4
       have hgb : wv.heap.size ≤ wv.drew.heap.size := E2.out.size
       have hS8 : Ext wv (w6.setCells wv.drew.heap.size 0 (z4 : Array Value).toList) := ob.ext (tr E2 (tr E3 (tr E4 (tr E5 E6)))).out hgb
       refine mO 17 (bs 19 262143) z4 hbx rfl (by kernel_rfl) (all_oneCell_toArray (by simp [Value.oneCell'])) hS8 ?_
       (try simp only [Act.put])
       refine mV 18 (bs 19 524287) hS8 ?_
       (try simp only [Act.put])
       refine wpAnyH_done (by kernel_rfl) ?_ _
       go_wp2_with fail
       go_meet
       exact ⟨_, rfl, rfl, hS8⟩
     case rest =>
      obtain ⟨X9, rfl, rfl, hx⟩ := hcut
      have E2 : Hid (Ext wv wc) := hx
      clear hx
      go_upto_region 10 with fail
      refine wp_region_lit ?_
      refine pV (w' := wc) ?_
      (try simp only [Act.put, zA, zB, zC])
      refine pV (w' := wc) ?_
      (try simp only [Act.put, zA, zB, zC])
      refine pV (w' := wc) ?_
      (try simp only [Act.put, zA, zB, zC])
      refine mv_skip (by rfl) ?_
      (try simp only [Act.put, zA, zB, zC])
      refine mv_skip (by rfl) ?_
      (try simp only [Act.put, zA, zB, zC])
      refine mv_skip (by rfl) ?_
      (try simp only [Act.put, zA, zB, zC])
      refine mv_skip (by rfl) ?_
      (try simp only [Act.put, zA, zB, zC])
      refine pV (w' := wc) ?_
      (try simp only [Act.put, zA, zB, zC])
      refine pV (w' := wc) ?_
      (try simp only [Act.put, zA, zB, zC])
      refine mv_skip (by rfl) ?_
      (try simp only [Act.put, zA, zB, zC])
      refine mv_skip (by rfl) ?_
      (try simp only [Act.put, zA, zB, zC])
      refine mv_skip (by rfl) ?_
      (try simp only [Act.put, zA, zB, zC])
      refine mv_skip (by rfl) ?_
      (try simp only [Act.put, zA, zB, zC])
      refine pV (w' := wc) ?_
      (try simp only [Act.put, zA, zB, zC])
      go_wp2_with fail
      go_roundg 0
      case measure => omega
      case rel => exact Or.inr (Or.inr ⟨rfl, by go_num, (by rw [qLo_out (a := A1) (b := B1) (c := C1) (qTop_out0 hden), qHi_out (a := A1) (b := B1) (c := C1) (qTop_out0 hden)]; exact HST.out.turn (HST.out.box.ext (tr E1 E2).out) (Turn.of_ext (tr E1 E2).out))⟩)
    ·go_upto_region 9 with fail
     go_cut [9, 10] (fun s e wx => ∃ (X9 : Nat) (c9 : Array Value), NIs wx c9 ((A1 - B1) / ((A1 - B1) + (C1 - B1))) ∧ Blk wx X9 26 c9 ∧ s = .pointer (some ⟨X9, 0, none⟩) ∧ e = .int .i64 0 ∧ Ext wv wx)
     case first =>
      refine wp_region_held_drew (S := fun x => Ext wv x) (by kernel_rfl) (Ext.refl _).drew (fun _ => ?_)
      have E2 := zH (show Ext wv wv.drew from (Ext.refl _).drew)
      refine mL 0 (bs 19 1) (fun x hx => (Fb8.out).ext hx) Tryz.underlying26 (by rw [show (c8 : Array Value).size = 4 from Z8]; kernel_rfl) E2.out ?_
      refine mL 1 (bs 19 3) (fun x hx => (Fb8.out).ext hx) Tryz.underlying26 (by rw [show (c8 : Array Value).size = 4 from Z8]; kernel_rfl) E2.out ?_
      (try simp only [Act.put, zA, zB, zC])
      refine mV 2 (bs 19 7) E2.out ?_
      (try simp only [Act.put, zA, zB, zC])
      refine mV 3 (bs 19 15) E2.out ?_
      (try simp only [Act.put, zA, zB, zC])
      refine mV 4 (bs 19 31) E2.out ?_
      refine mP 5 (bs 19 63) 20 4 (fun x hx => ((Fbx0.out.ext E1.out)).ext hx) Tryz.underlying26 (by rw [show (cp : Array Value).size = 24 from ZP]; omega) E2.out ?_
      (try simp only [Act.put, zA, zB, zC])
      refine mV 6 (bs 19 127) E2.out ?_
      (try simp only [Act.put, zA, zB, zC])
      refine mV 7 (bs 19 255) E2.out ?_
      (try simp only [Act.put, zA, zB, zC])
      refine mV 8 (bs 19 511) E2.out ?_
      refine mP 9 (bs 19 1023) 12 4 (fun x hx => ((Fbx0.out.ext E1.out)).ext hx) Tryz.underlying26 (by rw [show (cp : Array Value).size = 24 from ZP]; omega) E2.out ?_
      (try simp only [Act.put, zA, zB, zC])
      refine mB 10 16 (bs 19 2047) (bs 19 66559) (u := .pointer (some ⟨wv.drew.heap.size, 0, none⟩)) (wj := (wv.drew.alloc (.cells z4 26))) (pSub (L := L) (FP.out.ext (tr E1 E2).out).e5 (FP.out.ext (tr E1 E2).out).e3 (by omega)) (E2.out.alloc _) ?_ ?_
      ·rintro e w3 ⟨cg, rfl, hc, hx⟩
       have E3 : Hid (Ext wv.drew w3) := hx
       have FFC := zH hc
       have Z_cg := hc.size
       have O_cg := hc.one
       clear hc
       clear hx
       refine ⟨_, rfl, (tr E2 E3).out, ?_⟩
       (try simp only [Act.put, zA, zB, zC])
       refine mB 11 16 (bs 19 4095) (bs 19 67583) (u := .pointer (some ⟨w3.heap.size, 0, none⟩)) (wj := (w3.alloc (.cells z4 26))) (pAdd (L := 2 * L + 1) ((FFA.out.ext (tr E2 E3).out).isIn (by omega)) (FFC.out.isIn (by omega)) (by omega)) ((tr E2 E3).out.alloc _) ?_ ?_
       ·rintro e w4 ⟨ch, rfl, hc, hx⟩
        have E4 : Hid (Ext w3 w4) := hx
        have FDE := zH hc
        have Z_ch := hc.size
        have O_ch := hc.one
        clear hc
        clear hx
        refine ⟨_, rfl, (tr E2 (tr E3 E4)).out, ?_⟩
        (try simp only [Act.put, zA, zB, zC])
        refine mB 12 16 (bs 19 8191) (bs 19 69631) (u := .pointer (some ⟨w4.heap.size, 0, none⟩)) (wj := (w4.alloc (.cells z4 26))) (pQuo (L := 6 * L + 8) ((FFA.out.ext (tr E2 (tr E3 E4)).out).isIn (by omega)) (FDE.out.isIn (by omega)) (by omega) hden) ((tr E2 (tr E3 E4)).out.alloc _) ?_ ?_
        ·rintro e w5 ⟨ct, rfl, hc, hx⟩
         have E5 : Hid (Ext w4 w5) := hx
         have FTO := zH hc
         have Z_ct := hc.size
         have O_ct := hc.one
         clear hc
         clear hx
         refine ⟨_, rfl, (tr E2 (tr E3 (tr E4 E5))).out, ?_⟩
         (try simp only [Act.put, zA, zB, zC])
         refine mV 13 (bs 19 16383) (tr E2 (tr E3 (tr E4 E5))).out ?_
         (try simp only [Act.put, zA, zB, zC])
         refine mV 14 (bs 19 32767) (tr E2 (tr E3 (tr E4 E5))).out ?_
         (try simp only [Act.put, zA, zB, zC])
         refine mV 15 (bs 19 65535) (tr E2 (tr E3 (tr E4 E5))).out ?_
         (try simp only [Act.put, zA, zB, zC])
         refine mU 16 (bs 19 131071) (v := .pointer (some ⟨w5.heap.size, 0, none⟩)) (w' := (w5.alloc (.cells z4 26))) ((tr E2 (tr E3 (tr E4 E5))).out.alloc _) ?_
         (try simp only [Act.put, zA, zB, zC])
         have E6 := zH (show Ext w5 (w5.alloc (.cells z4 26)) from (Ext.refl _).alloc _)
         have Fnb16 := zH (Blk.new w5 26 z4)
         have hbx := Fnb16.out
         have ob := Own.setCells (w5.alloc (.cells z4 26)) w5.heap.size ct
         have hgb : wv.heap.size ≤ w5.heap.size := (tr E2 (tr E3 (tr E4 E5))).out.size
         have hS8 : Ext wv ((w5.alloc (.cells z4 26)).setCells w5.heap.size 0 (ct : Array Value).toList) := ob.ext (tr E2 (tr E3 (tr E4 (tr E5 E6)))).out hgb
         refine mO 17 (bs 19 262143) ct hbx (Eq.trans Z_ct rfl) (by rw [show (ct : Array Value).size = 4 from Z_ct]; kernel_rfl) O_ct hS8 ?_
         (try simp only [Act.put])
         refine mV 18 (bs 19 524287) hS8 ?_
         (try simp only [Act.put])
         refine wpAnyH_done (by kernel_rfl) ?_ _
         go_wp2_with fail
         go_meet
         exact ⟨_, _, ((FTO.out.ext E6.out)).map (fun r q h => h.own hbx (noU_of _ (by simp)) ob), hbx.setCells ct (Eq.trans Z_ct rfl), rfl, rfl, hS8⟩
        ·(try simp only [Act.put, zA, zB, zC])
         have E5 := zH (show Ext w4 (w4.alloc (.cells z4 26)) from (Ext.refl _).alloc _)
         have Fnb16 := zH (Blk.new w4 26 z4)
         refine mC 12 (bs 19 73727) (pQuo (L := 6 * L + 8) ((FFA.out.ext (tr E2 (tr E3 (tr E4 E5))).out).isIn (by omega)) ((FDE.out.ext E5.out).isIn (by omega)) (by omega) hden) ?_
         rintro e w6 ⟨ct, rfl, hc, hx⟩
         have E6 := zH (show Ext (w4.alloc (.cells z4 26)) w6 from hx)
         have FTO := zH hc
         have Z_ct := hc.size
         have O_ct := hc.one
         clear hc
         clear hx
         refine ⟨_, rfl, (tr E2 (tr E3 (tr E4 (tr E5 E6)))).out, ?_⟩
         (try simp only [Act.put, zA, zB, zC])
         refine mV 13 (bs 19 81919) (tr E2 (tr E3 (tr E4 (tr E5 E6)))).out ?_
         (try simp only [Act.put, zA, zB, zC])
         refine mV 14 (bs 19 98303) (tr E2 (tr E3 (tr E4 (tr E5 E6)))).out ?_
         (try simp only [Act.put, zA, zB, zC])
         refine mV 15 (bs 19 131071) (tr E2 (tr E3 (tr E4 (tr E5 E6)))).out ?_
         (try simp only [Act.put, zA, zB, zC])
         have hbx := (Fnb16.out.ext E6.out)
         have ob := Own.setCells w6 w4.heap.size ct
         have hgb : wv.heap.size ≤ w4.heap.size := (tr E2 (tr E3 E4)).out.size
         have hS8 : Ext wv (w6.setCells w4.heap.size 0 (ct : Array Value).toList) := ob.ext (tr E2 (tr E3 (tr E4 (tr E5 E6)))).out hgb
         refine mO 17 (bs 19 262143) ct hbx (Eq.trans Z_ct rfl) (by rw [show (ct : Array Value).size = 4 from Z_ct]; kernel_rfl) O_ct hS8 ?_
         (try simp only [Act.put])
         refine mV 18 (bs 19 524287) hS8 ?_
         (try simp only [Act.put])
         refine wpAnyH_done (by kernel_rfl) ?_ _
         go_wp2_with fail
         go_meet
         exact ⟨_, _, (FTO.out).map (fun r q h => h.own hbx (noU_of _ (by simp)) ob), hbx.setCells ct (Eq.trans Z_ct rfl), rfl, rfl, hS8⟩
       ·(try simp only [Act.put, zA, zB, zC])
        have E4 := zH (show Ext w3 (w3.alloc (.cells z4 26)) from (Ext.refl _).alloc _)
        have Fnb16 := zH (Blk.new w3 26 z4)
        refine mC 11 (bs 19 69631) (pAdd (L := 2 * L + 1) ((FFA.out.ext (tr E2 (tr E3 E4)).out).isIn (by omega)) ((FFC.out.ext E4.out).isIn (by omega)) (by omega)) ?_
        rintro e w5 ⟨ch, rfl, hc, hx⟩
        have E5 := zH (show Ext (w3.alloc (.cells z4 26)) w5 from hx)
        have FDE := zH hc
        have Z_ch := hc.size
        have O_ch := hc.one
        clear hc
        clear hx
        refine ⟨_, rfl, (tr E2 (tr E3 (tr E4 E5))).out, ?_⟩
        (try simp only [Act.put, zA, zB, zC])
        refine mC 12 (bs 19 73727) (pQuo (L := 6 * L + 8) ((FFA.out.ext (tr E2 (tr E3 (tr E4 E5))).out).isIn (by omega)) (FDE.out.isIn (by omega)) (by omega) hden) ?_
        rintro e w6 ⟨ct, rfl, hc, hx⟩
        have E6 : Hid (Ext w5 w6) := hx
        have FTO := zH hc
        have Z_ct := hc.size
        have O_ct := hc.one
        clear hc
        clear hx
        refine ⟨_, rfl, (tr E2 (tr E3 (tr E4 (tr E5 E6)))).out, ?_⟩
        (try simp only [Act.put, zA, zB, zC])
        refine mV 13 (bs 19 81919) (tr E2 (tr E3 (tr E4 (tr E5 E6)))).out ?_
        (try simp only [Act.put, zA, zB, zC])
        refine mV 14 (bs 19 98303) (tr E2 (tr E3 (tr E4 (tr E5 E6)))).out ?_
        (try simp only [Act.put, zA, zB, zC])
        refine mV 15 (bs 19 131071) (tr E2 (tr E3 (tr E4 (tr E5 E6)))).out ?_
        (try simp only [Act.put, zA, zB, zC])
        have hbx := (Fnb16.out.ext (tr E5 E6).out)
        have ob := Own.setCells w6 w3.heap.size ct
        have hgb : wv.heap.size ≤ w3.heap.size := (tr E2 E3).out.size
        have hS8 : Ext wv (w6.setCells w3.heap.size 0 (ct : Array Value).toList) := ob.ext (tr E2 (tr E3 (tr E4 (tr E5 E6)))).out hgb
        refine mO 17 (bs 19 262143) ct hbx (Eq.trans Z_ct rfl) (by rw [show (ct : Array Value).size = 4 from Z_ct]; kernel_rfl) O_ct hS8 ?_
        (try simp only [Act.put])
        refine mV 18 (bs 19 524287) hS8 ?_
        (try simp only [Act.put])
        refine wpAnyH_done (by kernel_rfl) ?_ _
        go_wp2_with fail
        go_meet
        exact ⟨_, _, (FTO.out).map (fun r q h => h.own hbx (noU_of _ (by simp)) ob), hbx.setCells ct (Eq.trans Z_ct rfl), rfl, rfl, hS8⟩
      ·(try simp only [Act.put, zA, zB, zC])
       have E3 := zH (show Ext wv.drew (wv.drew.alloc (.cells z4 26)) from (Ext.refl _).alloc _)
       have Fnb16 := zH (Blk.new wv.drew 26 z4)
       refine mC 10 (bs 19 67583) (pSub (L := L) (FP.out.ext (tr E1 (tr E2 E3)).out).e5 (FP.out.ext (tr E1 (tr E2 E3)).out).e3 (by omega)) ?_
       rintro e w4 ⟨cg, rfl, hc, hx⟩
       have E4 := zH (show Ext (wv.drew.alloc (.cells z4 26)) w4 from hx)
       have FFC := zH hc
       have Z_cg := hc.size
       have O_cg := hc.one
       clear hc
       clear hx
       refine ⟨_, rfl, (tr E2 (tr E3 E4)).out, ?_⟩
       (try simp only [Act.put, zA, zB, zC])
       refine mC 11 (bs 19 69631) (pAdd (L := 2 * L + 1) ((FFA.out.ext (tr E2 (tr E3 E4)).out).isIn (by omega)) (FFC.out.isIn (by omega)) (by omega)) ?_
       rintro e w5 ⟨ch, rfl, hc, hx⟩
       have E5 : Hid (Ext w4 w5) := hx
       have FDE := zH hc
       have Z_ch := hc.size
       have O_ch := hc.one
       clear hc
       clear hx
       refine ⟨_, rfl, (tr E2 (tr E3 (tr E4 E5))).out, ?_⟩
       (try simp only [Act.put, zA, zB, zC])
       refine mC 12 (bs 19 73727) (pQuo (L := 6 * L + 8) ((FFA.out.ext (tr E2 (tr E3 (tr E4 E5))).out).isIn (by omega)) (FDE.out.isIn (by omega)) (by omega) hden) ?_
       rintro e w6 ⟨ct, rfl, hc, hx⟩
       have E6 : Hid (Ext w5 w6) := hx
       have FTO := zH hc
       have Z_ct := hc.size
       have O_ct := hc.one
       clear hc
       clear hx
       refine ⟨_, rfl, (tr E2 (tr E3 (tr E4 (tr E5 E6)))).out, ?_⟩
       (try simp only [Act.put, zA, zB, zC])
       refine mV 13 (bs 19 81919) (tr E2 (tr E3 (tr E4 (tr E5 E6)))).out ?_
       (try simp only [Act.put, zA, zB, zC])
       refine mV 14 (bs 19 98303) (tr E2 (tr E3 (tr E4 (tr E5 E6)))).out ?_
       (try simp only [Act.put, zA, zB, zC])
       refine mV 15 (bs 19 131071) (tr E2 (tr E3 (tr E4 (tr E5 E6)))).out ?_
       (try simp only [Act.put, zA, zB, zC])
       have hbx := (Fnb16.out.ext (tr E4 (tr E5 E6)).out)
       have ob := Own.setCells w6 wv.drew.heap.size ct
       have hgb : wv.heap.size ≤ wv.drew.heap.size := E2.out.size
       have hS8 : Ext wv (w6.setCells wv.drew.heap.size 0 (ct : Array Value).toList) := ob.ext (tr E2 (tr E3 (tr E4 (tr E5 E6)))).out hgb
       refine mO 17 (bs 19 262143) ct hbx (Eq.trans Z_ct rfl) (by rw [show (ct : Array Value).size = 4 from Z_ct]; kernel_rfl) O_ct hS8 ?_
       (try simp only [Act.put])
       refine mV 18 (bs 19 524287) hS8 ?_
       (try simp only [Act.put])
       refine wpAnyH_done (by kernel_rfl) ?_ _
       go_wp2_with fail
       go_meet
       exact ⟨_, _, (FTO.out).map (fun r q h => h.own hbx (noU_of _ (by simp)) ob), hbx.setCells ct (Eq.trans Z_ct rfl), rfl, rfl, hS8⟩
     case rest =>
      obtain ⟨X9, c9, hto, hb9, rfl, rfl, hx⟩ := hcut
      have E2 : Hid (Ext wv wc) := hx
      have Z9 := hto.size
      have O9 := hto.one
      have FTO := zH hto
      have Fb9 := zH hb9
      clear hto hb9 hx
      obtain ⟨s0, hs0⟩ : ∃ s, s = rcmp ((A1 - B1) / ((A1 - B1) + (C1 - B1))) ((0 : Int) : Rat) := ⟨_, rfl⟩
      obtain ⟨s1, hs1⟩ : ∃ s, s = rcmp ((A1 - B1) / ((A1 - B1) + (C1 - B1))) ((1 : Int) : Rat) := ⟨_, rfl⟩
      have HSZ := zH hs0
      have HSO := zH hs1
      clear hs0 hs1
      by_cases hgt : 0 < s0
      ·by_cases hlt : s1 < 0
       ·go_upto_region 10 with fail
        refine wp_region_lit ?_
        refine pV (w' := wc) ?_
        (try simp only [Act.put, zA, zB, zC])
        refine pV (w' := wc) ?_
        (try simp only [Act.put, zA, zB, zC])
        refine pV (w' := wc) ?_
        (try simp only [Act.put, zA, zB, zC])
        refine pL Fb9.out Tryz.underlying26 (by rw [show (c9 : Array Value).size = 4 from Z9]; kernel_rfl) ?_
        (try simp only [Act.put, zA, zB, zC])
        refine pL (FV5.out.ext (tr E1 E2).out) Tryz.underlying26 (by rw [show (cz : Array Value).size = 4 from ZZ]; kernel_rfl) ?_
        (try simp only [Act.put, zA, zB, zC])
        refine mv_call (by rfl) (by go_simp) (pCmpS HSZ.out (L := 6 * L + 8) (FTO.out.isIn (by omega)) ((FZ.out.ext (tr E1 E2).out).isIn (by omega)) (by omega)) ?_
        rintro e w3 ⟨rfl, hx⟩
        have E3 : Hid (Ext wc w3) := hx
        clear hx
        refine ⟨_, rfl, ?_⟩
        (try simp only [Act.put, zA, zB, zC])
        refine pV (w' := w3) ?_
        (try simp only [Act.put, zA, zB, zC])
        refine pV (w' := w3) ?_
        (try simp only [Act.put, zA, zB, zC])
        refine pV (w' := w3) ?_
        (try simp only [Act.put, zA, zB, zC])
        refine pL (Fb9.out.ext E3.out) Tryz.underlying26 (by rw [show (c9 : Array Value).size = 4 from Z9]; kernel_rfl) ?_
        (try simp only [Act.put, zA, zB, zC])
        refine pL (FV6.out.ext (tr E1 (tr E2 E3)).out) Tryz.underlying26 (by rw [show (co : Array Value).size = 4 from ZO]; kernel_rfl) ?_
        (try simp only [Act.put, zA, zB, zC])
        refine mv_call (by rfl) (by go_simp) (pCmpS HSO.out (L := 6 * L + 8) ((FTO.out.ext E3.out).isIn (by omega)) ((FO.out.ext (tr E1 (tr E2 E3)).out).isIn (by omega)) (by omega)) ?_
        rintro e w4 ⟨rfl, hx⟩
        have E4 : Hid (Ext w3 w4) := hx
        clear hx
        refine ⟨_, rfl, ?_⟩
        (try simp only [Act.put, zA, zB, zC])
        refine pV (w' := w4) ?_
        (try simp only [Act.put, zA, zB, zC])
        refine pV (w' := w4) ?_
        (try simp only [Act.put, zA, zB, zC])
        go_upto_region 11 with fail
        refine wp_region_lit ?_
        refine pV (w' := w4) ?_
        (try simp only [Act.put, zA, zB, zC])
        refine pL (Fbx0.out.ext (tr E1 (tr E2 (tr E3 E4))).out) Tryz.underlying32 (by rw [show (cp : Array Value).size = 24 from ZP]; kernel_rfl) ?_
        (try simp only [Act.put, zA, zB, zC])
        refine pL (Fb9.out.ext (tr E3 E4).out) Tryz.underlying26 (by rw [show (c9 : Array Value).size = 4 from Z9]; kernel_rfl) ?_
        (try simp only [Act.put, zA, zB, zC])
        refine mv_call (by rfl) (by go_simp) (oEvalQuad (L := 6 * L + 8) ((FP.out.ext (tr E1 (tr E2 (tr E3 E4))).out).mono (by omega)) ((FTO.out.ext (tr E3 E4).out).isIn (by omega)) (by omega) (by omega)) ?_
        rintro e w5 ⟨ce, rfl, hc, hx⟩
        have E5 : Hid (Ext w4 w5) := hx
        have FEV := zH hc
        have Z_ce := hc.size
        clear hc
        clear hx
        refine ⟨_, rfl, ?_⟩
        (try simp only [Act.put, zA, zB, zC])
        refine pV (w' := w5) ?_
        (try simp only [Act.put, zA, zB, zC])
        refine mv_val (v := .agg (ce.extract 4 (4 + 4))) (w' := w5) (by rfl) (by have hix := pIdx1 FEV.out; go_simp <;> with_reducible rfl) ?_
        (try simp only [Act.put, zA, zB, zC])
        refine mv_call (by rfl) (by go_simp) (pBox1 (L := 16 * (6 * L + 8) + 10) (HST.out.box.ext (tr E1 (tr E2 (tr E3 (tr E4 E5)))).out) (FEV.out.c1.isIn (by omega)) (by omega) (by omega) (by omega)) ?_
        rintro e w6 ⟨rfl, hbx, htx⟩
        refine ⟨_, rfl, ?_⟩
        (try simp only [Act.put, zA, zB, zC])
        go_wp2_with fail
        go_roundg 0
        case measure => omega
        case rel => exact Or.inr (Or.inr ⟨rfl, by go_num, (by rw [qLo_in (a := A1) (b := B1) (c := C1) (qTop_in (by have := HSZ.out; omega) (by have := HSO.out; omega)), qHi_in (a := A1) (b := B1) (c := C1) (qTop_in (by have := HSZ.out; omega) (by have := HSO.out; omega))]; exact HST.out.turn hbx ((Turn.of_ext (tr E1 (tr E2 (tr E3 (tr E4 E5)))).out).trans htx))⟩)
       ·go_upto_region 10 with fail
        refine wp_region_lit ?_
        refine pV (w' := wc) ?_
        (try simp only [Act.put, zA, zB, zC])
        refine pV (w' := wc) ?_
        (try simp only [Act.put, zA, zB, zC])
        refine pV (w' := wc) ?_
        (try simp only [Act.put, zA, zB, zC])
        refine pL Fb9.out Tryz.underlying26 (by rw [show (c9 : Array Value).size = 4 from Z9]; kernel_rfl) ?_
        (try simp only [Act.put, zA, zB, zC])
        refine pL (FV5.out.ext (tr E1 E2).out) Tryz.underlying26 (by rw [show (cz : Array Value).size = 4 from ZZ]; kernel_rfl) ?_
        (try simp only [Act.put, zA, zB, zC])
        refine mv_call (by rfl) (by go_simp) (pCmpS HSZ.out (L := 6 * L + 8) (FTO.out.isIn (by omega)) ((FZ.out.ext (tr E1 E2).out).isIn (by omega)) (by omega)) ?_
        rintro e w3 ⟨rfl, hx⟩
        have E3 : Hid (Ext wc w3) := hx
        clear hx
        refine ⟨_, rfl, ?_⟩
        (try simp only [Act.put, zA, zB, zC])
        refine pV (w' := w3) ?_
        (try simp only [Act.put, zA, zB, zC])
        refine pV (w' := w3) ?_
        (try simp only [Act.put, zA, zB, zC])
        refine pV (w' := w3) ?_
        (try simp only [Act.put, zA, zB, zC])
        refine pL (Fb9.out.ext E3.out) Tryz.underlying26 (by rw [show (c9 : Array Value).size = 4 from Z9]; kernel_rfl) ?_
        (try simp only [Act.put, zA, zB, zC])
        refine pL (FV6.out.ext (tr E1 (tr E2 E3)).out) Tryz.underlying26 (by rw [show (co : Array Value).size = 4 from ZO]; kernel_rfl) ?_
        (try simp only [Act.put, zA, zB, zC])
        refine mv_call (by rfl) (by go_simp) (pCmpS HSO.out (L := 6 * L + 8) ((FTO.out.ext E3.out).isIn (by omega)) ((FO.out.ext (tr E1 (tr E2 E3)).out).isIn (by omega)) (by omega)) ?_
        rintro e w4 ⟨rfl, hx⟩
        have E4 : Hid (Ext w3 w4) := hx
        clear hx
        refine ⟨_, rfl, ?_⟩
        (try simp only [Act.put, zA, zB, zC])
        refine pV (w' := w4) ?_
        (try simp only [Act.put, zA, zB, zC])
        refine pV (w' := w4) ?_
        (try simp only [Act.put, zA, zB, zC])
        go_wp2_with fail
        go_roundg 0
        case measure => omega
        case rel => exact Or.inr (Or.inr ⟨rfl, by go_num, (by rw [qLo_out (a := A1) (b := B1) (c := C1) (qTop_out2 (by have := HSO.out; omega)), qHi_out (a := A1) (b := B1) (c := C1) (qTop_out2 (by have := HSO.out; omega))]; exact HST.out.turn (HST.out.box.ext (tr E1 (tr E2 (tr E3 E4))).out) (Turn.of_ext (tr E1 (tr E2 (tr E3 E4))).out))⟩)
      ·go_upto_region 10 with fail
       refine wp_region_lit ?_
       refine pV (w' := wc) ?_
       (try simp only [Act.put, zA, zB, zC])
       refine pV (w' := wc) ?_
       (try simp only [Act.put, zA, zB, zC])
       refine pV (w' := wc) ?_
       (try simp only [Act.put, zA, zB, zC])
       refine pL Fb9.out Tryz.underlying26 (by rw [show (c9 : Array Value).size = 4 from Z9]; kernel_rfl) ?_
       (try simp only [Act.put, zA, zB, zC])
       refine pL (FV5.out.ext (tr E1 E2).out) Tryz.underlying26 (by rw [show (cz : Array Value).size = 4 from ZZ]; kernel_rfl) ?_
       (try simp only [Act.put, zA, zB, zC])
       refine mv_call (by rfl) (by go_simp) (pCmpS HSZ.out (L := 6 * L + 8) (FTO.out.isIn (by omega)) ((FZ.out.ext (tr E1 E2).out).isIn (by omega)) (by omega)) ?_
       rintro e w3 ⟨rfl, hx⟩
       have E3 : Hid (Ext wc w3) := hx
       clear hx
       refine ⟨_, rfl, ?_⟩
       (try simp only [Act.put, zA, zB, zC])
       refine pV (w' := w3) ?_
       (try simp only [Act.put, zA, zB, zC])
       refine pV (w' := w3) ?_
       (try simp only [Act.put, zA, zB, zC])
       refine pV (w' := w3) ?_
       (try simp only [Act.put, zA, zB, zC])
       refine mv_skip (by rfl) ?_
       (try simp only [Act.put, zA, zB, zC])
       refine mv_skip (by rfl) ?_
       (try simp only [Act.put, zA, zB, zC])
       refine mv_skip (by rfl) ?_
       (try simp only [Act.put, zA, zB, zC])
       refine mv_skip (by rfl) ?_
       (try simp only [Act.put, zA, zB, zC])
       refine pV (w' := w3) ?_
       (try simp only [Act.put, zA, zB, zC])
       go_wp2_with fail
       go_roundg 0
       case measure => omega
       case rel => exact Or.inr (Or.inr ⟨rfl, by go_num, (by rw [qLo_out (a := A1) (b := B1) (c := C1) (qTop_out1 (by have := HSZ.out; omega)), qHi_out (a := A1) (b := B1) (c := C1) (qTop_out1 (by have := HSZ.out; omega))]; exact HST.out.turn (HST.out.box.ext (tr E1 (tr E2 E3)).out) (Turn.of_ext (tr E1 (tr E2 E3)).out))⟩)
  ·obtain ⟨za, zb, zc, zd, kX, ia, ib, ic, id_⟩ := hst.box
   have hEE : Ext w wr := hst.t.1.ext HEX.out gX
   have GR0 := zH hst.k0
   have GR1 := zH hst.k1
   have nbX_R0 := hst.n0.symm
   have nbX_R1 := hst.n1.symm
   clear hst
   go_upto_region 13 with fail
   have E1 : Hid (Ext w wr) := hEE
   clear hEE
   have FR0 := zH GR0.out
   have FR1 := zH GR1.out
   have FbX := zH kX
   have Fza := zH ia
   have Fzb := zH ib
   have Fzc := zH ic
   have Fzd := zH id_
   clear kX ia ib ic id_
   refine wp_region_held_drew (S := fun x => Own2 R0 R1 wr x) (by kernel_rfl) (Own2.of_ext (Ext.refl _).drew) (fun _ => ?_)
   have E2 := zH (show Ext wr wr.drew from (Ext.refl _).drew)
   refine mV 0 (bs 6 1) (Own2.of_ext E2.out) ?_
   refine mR 1 (bs 6 3) X 0 [.bool za.n, .slice za.p za.l za.c, .bool za.m, .slice za.p2 za.l2 za.c2, .bool zb.n, .slice zb.p zb.l zb.c, .bool zb.m, .slice zb.p2 zb.l2 zb.c2] (fun x hx => ((FbX.out).own2 hx nbX_R0 nbX_R1).part 0 8) Tryz.underlying27 (Own2.of_ext E2.out) ?_
   (try simp only [Act.put, zA, zB, zC])
   refine mV 2 (bs 6 7) (Own2.of_ext E2.out) ?_
   refine mR 3 (bs 6 15) X 8 [.bool zc.n, .slice zc.p zc.l zc.c, .bool zc.m, .slice zc.p2 zc.l2 zc.c2, .bool zd.n, .slice zd.p zd.l zd.c, .bool zd.m, .slice zd.p2 zd.l2 zd.c2] (fun x hx => ((FbX.out).own2 hx nbX_R0 nbX_R1).part 8 8) Tryz.underlying27 (Own2.of_ext E2.out) ?_
   (try simp only [Act.put, zA, zB, zC])
   have o1 := Own.setCells wr.drew R0 #[.bool za.n, .slice za.p za.l za.c, .bool za.m, .slice za.p2 za.l2 za.c2, .bool zb.n, .slice zb.p zb.l zb.c, .bool zb.m, .slice zb.p2 zb.l2 zb.c2]
   have kb1 := (FR0.out.ext E2.out)
   have hs1 : Own2 R0 R1 wr (wr.drew.setCells R0 0 (#[.bool za.n, .slice za.p za.l za.c, .bool za.m, .slice za.p2 za.l2 za.c2, .bool zb.n, .slice zb.p zb.l zb.c, .bool zb.m, .slice zb.p2 zb.l2 zb.c2] : Array Value).toList) := (Own2.one (Own.then_ext' E2.out o1))
   refine mO 4 (bs 6 31) #[.bool za.n, .slice za.p za.l za.c, .bool za.m, .slice za.p2 za.l2 za.c2, .bool zb.n, .slice zb.p zb.l zb.c, .bool zb.m, .slice zb.p2 zb.l2 zb.c2] kb1 (by rw [show (#[.bool za.n, .slice za.p za.l za.c, .bool za.m, .slice za.p2 za.l2 za.c2, .bool zb.n, .slice zb.p zb.l zb.c, .bool zb.m, .slice zb.p2 zb.l2 zb.c2] : Array Value).size = 8 from rfl]; rfl) (by rw [show (#[.bool za.n, .slice za.p za.l za.c, .bool za.m, .slice za.p2 za.l2 za.c2, .bool zb.n, .slice zb.p zb.l zb.c, .bool zb.m, .slice zb.p2 zb.l2 zb.c2] : Array Value).size = 8 from rfl]; kernel_rfl) (all_oneCell_toArray (by simp [Value.oneCell'])) hs1 ?_
   (try simp only [Act.put])
   have kc1 := kb1.setCells #[.bool za.n, .slice za.p za.l za.c, .bool za.m, .slice za.p2 za.l2 za.c2, .bool zb.n, .slice zb.p zb.l zb.c, .bool zb.m, .slice zb.p2 zb.l2 zb.c2] (by rw [show (#[.bool za.n, .slice za.p za.l za.c, .bool za.m, .slice za.p2 za.l2 za.c2, .bool zb.n, .slice zb.p zb.l zb.c, .bool zb.m, .slice zb.p2 zb.l2 zb.c2] : Array Value).size = 8 from rfl]; rfl)
   have o2 := Own.setCells (wr.drew.setCells R0 0 (#[.bool za.n, .slice za.p za.l za.c, .bool za.m, .slice za.p2 za.l2 za.c2, .bool zb.n, .slice zb.p zb.l zb.c, .bool zb.m, .slice zb.p2 zb.l2 zb.c2] : Array Value).toList) R1 #[.bool zc.n, .slice zc.p zc.l zc.c, .bool zc.m, .slice zc.p2 zc.l2 zc.c2, .bool zd.n, .slice zd.p zd.l zd.c, .bool zd.m, .slice zd.p2 zd.l2 zd.c2]
   have kb2 := ((FR1.out.ext E2.out)).own o1 nR1_R0
   have hs2 : Own2 R0 R1 wr ((wr.drew.setCells R0 0 (#[.bool za.n, .slice za.p za.l za.c, .bool za.m, .slice za.p2 za.l2 za.c2, .bool zb.n, .slice zb.p zb.l zb.c, .bool zb.m, .slice zb.p2 zb.l2 zb.c2] : Array Value).toList).setCells R1 0 (#[.bool zc.n, .slice zc.p zc.l zc.c, .bool zc.m, .slice zc.p2 zc.l2 zc.c2, .bool zd.n, .slice zd.p zd.l zd.c, .bool zd.m, .slice zd.p2 zd.l2 zd.c2] : Array Value).toList) := ⟨_, Own.then_ext' E2.out o1, o2⟩
   refine mO 5 (bs 6 63) #[.bool zc.n, .slice zc.p zc.l zc.c, .bool zc.m, .slice zc.p2 zc.l2 zc.c2, .bool zd.n, .slice zd.p zd.l zd.c, .bool zd.m, .slice zd.p2 zd.l2 zd.c2] kb2 (by rw [show (#[.bool zc.n, .slice zc.p zc.l zc.c, .bool zc.m, .slice zc.p2 zc.l2 zc.c2, .bool zd.n, .slice zd.p zd.l zd.c, .bool zd.m, .slice zd.p2 zd.l2 zd.c2] : Array Value).size = 8 from rfl]; rfl) (by rw [show (#[.bool zc.n, .slice zc.p zc.l zc.c, .bool zc.m, .slice zc.p2 zc.l2 zc.c2, .bool zd.n, .slice zd.p zd.l zd.c, .bool zd.m, .slice zd.p2 zd.l2 zd.c2] : Array Value).size = 8 from rfl]; kernel_rfl) (all_oneCell_toArray (by simp [Value.oneCell'])) hs2 ?_
   (try simp only [Act.put])
   have kc2 := kb2.setCells #[.bool zc.n, .slice zc.p zc.l zc.c, .bool zc.m, .slice zc.p2 zc.l2 zc.c2, .bool zd.n, .slice zd.p zd.l zd.c, .bool zd.m, .slice zd.p2 zd.l2 zd.c2] (by rw [show (#[.bool zc.n, .slice zc.p zc.l zc.c, .bool zc.m, .slice zc.p2 zc.l2 zc.c2, .bool zd.n, .slice zd.p zd.l zd.c, .bool zd.m, .slice zd.p2 zd.l2 zd.c2] : Array Value).size = 8 from rfl]; rfl)
   refine wpAnyH_done (by kernel_rfl) ?_ _
   go_wp2_with fail
   have kd1 := kc1.own o2 nR0_R1
   refine bodyPost_ret (v := .tuple #[.agg #[.bool za.n, .slice za.p za.l za.c, .bool za.m, .slice za.p2 za.l2 za.c2, .bool zb.n, .slice zb.p zb.l zb.c, .bool zb.m, .slice zb.p2 zb.l2 zb.c2], .agg #[.bool zc.n, .slice zc.p zc.l zc.c, .bool zc.m, .slice zc.p2 zc.l2 zc.c2, .bool zd.n, .slice zd.p zd.l zd.c, .bool zd.m, .slice zd.p2 zd.l2 zd.c2]]) ?_ rfl ⟨_, _, rfl, ⟨za, zb, rfl, (((Fza.out.ext E2.out).own kb1 (noU_of _ (by simp)) o1).own kb2 (noU_of _ (by simp)) o2), (((Fzb.out.ext E2.out).own kb1 (noU_of _ (by simp)) o1).own kb2 (noU_of _ (by simp)) o2)⟩, ⟨zc, zd, rfl, (((Fzc.out.ext E2.out).own kb1 (noU_of _ (by simp)) o1).own kb2 (noU_of _ (by simp)) o2), (((Fzd.out.ext E2.out).own kb1 (noU_of _ (by simp)) o1).own kb2 (noU_of _ (by simp)) o2)⟩, (o2.ext (o1.ext (tr E1 E2).out gR0) gR1)⟩
   exact results_cell2 rfl rfl rfl (kd1.loadVar rfl rfl rfl) (kc2.loadVar rfl rfl rfl)

end Go.Proofs.YtllpkoinjompcaaGreat

namespace Go.Proofs.YtllpkoinjompcaaGreat
open Go.RowKit
attribute [local go_sem ↓] Go.wp_at_zero Go.wp_at_succ run_max_ii run_min_ii

def rvCells (rs : List RV) : List Value := rs.flatMap fun a => [.bool a.n, .slice a.p a.l a.c, .bool a.m, .slice a.p2 a.l2 a.c2]
theorem rvCells_snoc (rs : List RV) (a : RV) : rvCells (rs ++ [a]) = rvCells rs ++ [.bool a.n, .slice a.p a.l a.c, .bool a.m, .slice a.p2 a.l2 a.c2] := by simp [rvCells]
theorem rvCells_length (rs : List RV) : (rvCells rs).length = rs.length * 4 := by
  induction rs with
  | nil => rfl
  | cons x xs ih => simp only [rvCells, List.flatMap_cons, List.length_append, List.length_cons, List.length_nil] at ih ⊢; omega
theorem rvCells_get (rs : List RV) : ∀ (i j : Nat), i < rs.length → j < 4 → (rvCells rs)[i * 4 + j]? = [.bool (rs.getD i RV.zero).n, .slice (rs.getD i RV.zero).p (rs.getD i RV.zero).l (rs.getD i RV.zero).c, .bool (rs.getD i RV.zero).m, .slice (rs.getD i RV.zero).p2 (rs.getD i RV.zero).l2 (rs.getD i RV.zero).c2][j]? := by
  induction rs with
  | nil => intro i j hi; simp at hi
  | cons x xs ih =>
    intro i j hi hj
    have e : rvCells (x :: xs) = [.bool x.n, .slice x.p x.l x.c, .bool x.m, .slice x.p2 x.l2 x.c2] ++ rvCells xs := by simp [rvCells]
    rw [e]
    cases i with
    | zero => rw [List.getElem?_append_left (by simp; omega), Nat.zero_mul, Nat.zero_add]; rfl
    | succ i =>
      rw [List.getElem?_append_right (by simp; omega)]
      have := ih i j (by simpa using hi) hj
      simp only [List.length_cons, List.length_nil]
      rw [show (i + 1) * 4 + j - (0 + 1 + 1 + 1 + 1) = i * 4 + j by omega, this]
      rfl
theorem noUL_rv (rs : List RV) : NoUL (rvCells rs) := by
  intro x hx k
  unfold rvCells at hx
  obtain ⟨a, _, ha⟩ := List.mem_flatMap.1 hx
  simp at ha
  rcases ha with rfl | rfl | rfl | rfl <;> simp
theorem one_rv (a : RV) : ∀ u ∈ ([.bool a.n, .slice a.p a.l a.c, .bool a.m, .slice a.p2 a.l2 a.c2] : List Value), u.oneCell' = true := by simp [Value.oneCell']
theorem noUL_one (a : RV) : NoUL [.bool a.n, .slice a.p a.l a.c, .bool a.m, .slice a.p2 a.l2 a.c2] := by intro x hx k; simp at hx; rcases hx with rfl | rfl | rfl | rfl <;> simp

def RatsV (L : Nat) (w : World) (v : Value) (qs : List Rat) : Prop :=
  ∃ (A : Option Addr) (cap : Nat) (rs : List RV), v = .slice A qs.length cap ∧ rs.length = qs.length ∧ (∀ i, i < qs.length → (rs.getD i RV.zero).In L w (qs.getD i 0)) ∧
    (0 < qs.length → ∃ g off, A = some ⟨g, off, none⟩ ∧ ∀ i, i < qs.length → w.rangeAt g (off + i * 4) [.bool (rs.getD i RV.zero).n, .slice (rs.getD i RV.zero).p (rs.getD i RV.zero).l (rs.getD i RV.zero).c, .bool (rs.getD i RV.zero).m, .slice (rs.getD i RV.zero).p2 (rs.getD i RV.zero).l2 (rs.getD i RV.zero).c2])
theorem range_ext {w w' : World} {g o : Nat} {cs : List Value} (h : w.rangeAt g o cs) (x : Ext w w') : w'.rangeAt g o cs := fun j v hv => x.get (h j v hv)
theorem RatsV.ext {L : Nat} {w w' : World} {v : Value} {qs : List Rat} (h : RatsV L w v qs) (x : Ext w w') : RatsV L w' v qs := by
  obtain ⟨A, cap, rs, h1, h2, h3, h4⟩ := h
  refine ⟨A, cap, rs, h1, h2, fun i hi => (h3 i hi).ext x, fun h0 => ?_⟩
  obtain ⟨g, off, h5, h6⟩ := h4 h0
  exact ⟨g, off, h5, fun i hi => range_ext (h6 i hi) x⟩
theorem RatsV.of_row {L : Nat} {w : World} {base : Nat} {e : TypeId} {v : Value} {rs : List RV} {qs : List Rat} (h : RowN w base e 4 v rs.length (rvCells rs)) (hl : rs.length = qs.length) (hq : ∀ i, i < qs.length → (rs.getD i RV.zero).In L w (qs.getD i 0)) : RatsV L w v qs := by
  obtain ⟨h1, ⟨rfl, h2⟩ | ⟨g, cap, rest, rfl, _, hg, _⟩⟩ := h
  · exact ⟨none, 0, rs, by rw [← hl, h2], hl, hq, fun h0 => by omega⟩
  · refine ⟨_, cap, rs, by rw [hl], hl, hq, fun h0 => ⟨g, 0, rfl, fun i hi j u hu => ?_⟩⟩
    have hj : j < 4 := (List.getElem?_eq_some_iff.1 hu).1
    rw [Nat.zero_add, hg.cell, List.getElem?_toArray, List.getElem?_append_left (by rw [rvCells_length]; omega), rvCells_get rs i j (by omega) hj]
    exact hu

theorem RatsV.of_blk {L : Nat} {w : World} {X : Nat} {e : TypeId} {rs : List RV} {qs : List Rat} (h : Blk w X e (rvCells rs).toArray) (hl : rs.length = qs.length) (hq : ∀ i, i < qs.length → (rs.getD i RV.zero).In L w (qs.getD i 0)) : RatsV L w (.slice (some ⟨X, 0, none⟩) qs.length qs.length) qs := by
  refine ⟨_, _, rs, rfl, hl, hq, fun h0 => ⟨X, 0, rfl, fun i hi j u hu => ?_⟩⟩
  have hj : j < 4 := (List.getElem?_eq_some_iff.1 hu).1
  rw [Nat.zero_add, h.cell, List.getElem?_toArray, rvCells_get rs i j (by omega) hj]
  exact hu
theorem in3 {L : Nat} {w : World} {a b c : RV} {p q r : Rat} (h0 : a.In L w p) (h1 : b.In L w q) (h2 : c.In L w r) : ∀ i, i < [p, q, r].length → ([a, b, c].getD i RV.zero).In L w ([p, q, r].getD i 0) := by
  intro i hi
  match i, hi with
  | 0, _ => exact h0
  | 1, _ => exact h1
  | 2, _ => exact h2
def sumTo (qs : List Rat) : Nat → Rat
  | 0 => ((0 : Int) : Rat)
  | k + 1 => sumTo qs k + qs.getD k 0
theorem rl0 : Nm.rl ((0 : Int) : Rat) ≤ 1 := by
  have e1 : (((0 : Int) : Rat)).num = 0 := by decide +kernel
  have e2 : (((0 : Int) : Rat)).den = 1 := by decide +kernel
  unfold Nm.rl
  rw [e1, e2]
  have h1 : Nm.nl (Int.natAbs 0) ≤ 1 := Nm.nl_le (by decide)
  have h2 : Nm.nl 1 ≤ 1 := Nm.nl_le (by decide)
  omega
theorem rl_sumTo {qs : List Rat} {L : Nat} (h : ∀ i, i < qs.length → Nm.rl (qs.getD i 0) ≤ L) : ∀ k, k ≤ qs.length → Nm.rl (sumTo qs k) ≤ 1 + k * (L + 1)
  | 0, _ => by rw [Nat.zero_mul]; exact rl0
  | k + 1, hk => by
    have h1 := rl_sumTo h k (by omega)
    have h2 := Nm.rl_add (sumTo qs k) (qs.getD k 0)
    have h3 := h k (by omega)
    rw [Nat.add_mul]
    show Nm.rl (sumTo qs k + qs.getD k 0) ≤ _
    omega

theorem x3add {L : Nat} {w : World} {a b : RV} {q r : Rat} (h : a.In L w q) (h' : b.In L w r) (hL : L ≤ 70000) : Calls Tryz.prog 63 #[.agg #[.bool a.n, .slice a.p a.l a.c, .bool a.m, .slice a.p2 a.l2 a.c2], .agg #[.bool b.n, .slice b.p b.l b.c, .bool b.m, .slice b.p2 b.l2 b.c2]] w (RetV (q + r) w) := (r3add_any _ _ _ _ _ _ _ _ L q r w h h' hL).mono fun _ _ h => RetR.v h
theorem x3mul {L : Nat} {w : World} {a b : RV} {q r : Rat} (h : a.In L w q) (h' : b.In L w r) (hL : L ≤ 70000) : Calls Tryz.prog 37 #[.agg #[.bool a.n, .slice a.p a.l a.c, .bool a.m, .slice a.p2 a.l2 a.c2], .agg #[.bool b.n, .slice b.p b.l b.c, .bool b.m, .slice b.p2 b.l2 b.c2]] w (RetV (q * r) w) := (r3mul_any _ _ _ _ _ _ _ _ L q r w h h' hL).mono fun _ _ h => RetR.v h

set_option maxRecDepth 20000 in
set_option maxHeartbeats 2000000 in
theorem rsum_any (L : Nat) (v : Value) (qs : List Rat) (w : World) (h : RatsV L w v qs) (hn : qs.length ≤ 50) (h1 : 1 ≤ L) (hL : L ≤ 1000) :
    Calls Tryz.prog 68 #[v] w (RetV (sumTo qs qs.length) w) := by
  obtain ⟨A, cap, rs, rfl, hrl, hin, hcell⟩ := h
  have hbd := rl_sumTo (qs := qs) (L := L) (fun i hi => by have := (hin i hi).rl; omega)
  have HB := zH hbd
  have HIN := zH hin
  have HC := zH hcell
  clear hbd hin hcell
  have HF := zH (fun W => r3fromInt_any 0 W (by omega) (by omega))
  go_enter Tryz.func68, Tryz.ntmps68
  go_wp2_with fail
  refine (HF.out _).mono ?_
  intro e w1 hret
  obtain ⟨c, rfl, hc, he⟩ := RetR.v hret
  have bR := (Blk.new w 26 z4).ext he
  have hEw : Ext w w1 := ((Ext.refl _).alloc _).trans he
  have hsz := he.size
  simp only [World.size_alloc] at hsz
  clear hret he
  go_wp2_with fail
  have bX : Blk (w1.alloc (.cells #[.bool c.n, .slice c.p c.l c.c, .bool c.m, .slice c.p2 c.l2 c.c2] 26)) w1.heap.size 26 #[.bool c.n, .slice c.p c.l c.c, .bool c.m, .slice c.p2 c.l2 c.c2] := Blk.new _ _ _
  have bR1 := bR.alloc (.cells #[.bool c.n, .slice c.p c.l c.c, .bool c.m, .slice c.p2 c.l2 c.c2] 26)
  have hc1 : c.Is (w1.alloc (.cells #[.bool c.n, .slice c.p c.l c.c, .bool c.m, .slice c.p2 c.l2 c.c2] 26)) (sumTo qs 0) := hc.ext ((Ext.refl _).alloc _)
  have hE1 : Ext w (w1.alloc (.cells #[.bool c.n, .slice c.p c.l c.c, .bool c.m, .slice c.p2 c.l2 c.c2] 26)) := hEw.alloc _
  generalize (w1.alloc (.cells #[.bool c.n, .slice c.p c.l c.c, .bool c.m, .slice c.p2 c.l2 c.c2] 26)) = wa at *
  generalize w1.heap.size = X at *
  have hRX : w.heap.size ≠ X := by omega
  have hXw : w.heap.size ≤ X := by omega
  clear hsz hEw hc bR
  go_loopw [4] (fun i wr => ∃ k : Nat, k ≤ qs.length ∧ i = .int .i64 k ∧ ∃ c : RV, c.Is wr (sumTo qs k) ∧ Blk wr X 26 #[.bool c.n, .slice c.p c.l c.c, .bool c.m, .slice c.p2 c.l2 c.c2] ∧ Blk wr w.heap.size 26 z4 ∧ Ext w wr) (fun i _ => qs.length - (intOf i).toNat)
  case atStart => exact ⟨0, Nat.zero_le _, rfl, c, hc1, bX, bR1, hE1⟩
  case round =>
    obtain ⟨k, hk, rfl, c, hc, bX, bR, hE⟩ := hrel
    clear hc1 hE1 bR1
    have HCS := zH hc
    have HBX := zH bX
    have HBR := zH bR
    have HE := zH hE
    clear hc bX bR hE
    by_cases hlt : k < qs.length
    · obtain ⟨g, off, rfl, hr⟩ := HC.out (by omega)
      have hrk := range_ext (hr k hlt) HE.out
      have HA := zH (fun W (x : Ext _ W) => x3add (L := 60 * (L + 1)) ((HCS.out.ext x).isIn (Nat.le_trans (HB.out k hk) (by have : k * (L + 1) ≤ 50 * (L + 1) := Nat.mul_le_mul_right _ (by omega); omega))) (((HIN.out k hlt).ext (HE.out.trans x)).mono (by omega)) (by omega))
      generalize hg : rs.getD k RV.zero = b at *
      generalize hq : qs.getD k 0 = qk at *
      have HS := zH (show sumTo qs k + qk = sumTo qs (k + 1) by rw [← hq]; rfl)
      rw [HS.out] at HA
      clear hr hq hg
      have r0 := hrk 0 _ rfl
      have r1 := hrk 1 _ rfl
      have r2 := hrk 2 _ rfl
      have r3 := hrk 3 _ rfl
      have x0 := HBX.out.cell 0
      have x1 := HBX.out.cell 1
      have x2 := HBX.out.cell 2
      have x3 := HBX.out.cell 3
      simp at x0 x1 x2 x3
      simp only [Nat.add_zero] at r0
      clear hrk
      go_upto_region 5 with fail
      go_region_with (go_at_call 63; ((with_reducible refine (HA.out _ (Ext.drew (Ext.refl _))).mono ?_)); rintro e w2 ⟨c', rfl, hc', he⟩; have he2 := (Ext.drew (Ext.refl _)).trans he; have bX := HBX.out.ext he2; have y0 := bX.cell 0; have y1 := bX.cell 1; have y2 := bX.cell 2; have y3 := bX.cell 3; simp at y0 y1 y2 y3; have z0 := bX.frozen 0; have z1 := bX.frozen 1; have z2 := bX.frozen 2; have z3 := bX.frozen 3; have o := ((((Own.refl X w2).set_at 0 none (.bool c'.n)).set_at 1 none (.slice c'.p c'.l c'.c)).set_at 2 none (.bool c'.m)).set_at 3 none (.slice c'.p2 c'.l2 c'.c2); have bb := (((Blk.set_ bX 0 (.bool c'.n)).set_ 1 (.slice c'.p c'.l c'.c)).set_ 2 (.bool c'.m)).set_ 3 (.slice c'.p2 c'.l2 c'.c2); have HM := zH (And.intro (hc'.own bX (noU4 _ _ _ _ _ _ _ _) o) (And.intro bb (And.intro ((HBR.out.ext he2).own o hRX) (o.ext (HE.out.trans he2) hXw)))); clear o bb bX he hc' he2)
      all_goals
        go_wp2_with fail
        go_roundw
        case rel => exact ⟨k + 1, hlt, by go_num, c', HM.out.1, HM.out.2.1, HM.out.2.2.1, HM.out.2.2.2⟩
        case measure => simp [intOf]; omega
    · obtain rfl : k = qs.length := by omega
      have x0 := HBX.out.cell 0
      have x1 := HBX.out.cell 1
      have x2 := HBX.out.cell 2
      have x3 := HBX.out.cell 3
      have y0 := HBR.out.cell 0
      have y1 := HBR.out.cell 1
      have y2 := HBR.out.cell 2
      have y3 := HBR.out.cell 3
      simp at x0 x1 x2 x3 y0 y1 y2 y3
      have z0 := HBR.out.frozen 0
      have z1 := HBR.out.frozen 1
      have z2 := HBR.out.frozen 2
      have z3 := HBR.out.frozen 3
      have o := ((((Own.refl w.heap.size wr).set_at 0 none (.bool c.n)).set_at 1 none (.slice c.p c.l c.c)).set_at 2 none (.bool c.m)).set_at 3 none (.slice c.p2 c.l2 c.c2)
      have HM := zH (And.intro (HCS.out.own HBR.out (noU4 _ _ _ _ _ _ _ _) o) (o.ext HE.out (Nat.le_refl _)))
      clear o
      go_wp2_with fail
      refine bodyPost_ret (v := .agg #[.bool c.n, .slice c.p c.l c.c, .bool c.m, .slice c.p2 c.l2 c.c2]) ?_ rfl ⟨c, rfl, HM.out.1, HM.out.2⟩
      simp [results, Tryz.results68, go_sem, *]
end Go.Proofs.YtllpkoinjompcaaGreat

namespace Go.Proofs.YtllpkoinjompcaaGreat
open Go.RowKit
attribute [local go_sem ↓] Go.wp_at_zero Go.wp_at_succ run_max_ii run_min_ii

set_option maxHeartbeats 1000000 in
theorem r3new_any (n m : Bool) (u v : Value) (L : Nat) (y z : Int) (w : World) (hu : IntIn L w n u y) (hv : IntIn L w m v z) (hL : L ≤ 150000) (hz : z ≠ 0) :
    Calls Tryz.prog 71 #[.agg #[.bool n, u], .agg #[.bool m, v]] w (RetRE (Rat.divInt y z) 0 w) := by
  obtain ⟨p, l, cp, rfl⟩ := hu.form
  obtain ⟨q, k, cq, rfl⟩ := hv.form
  have hE1 : Ext w ((((w.alloc (.cells #[.bool n, .slice p l cp] 24)).alloc (.cells #[.bool m, .slice q k cq] 24)).alloc (.cells #[.bool false, .slice none 0 0, .bool false, .slice none 0 0] 26))) := (((Ext.refl _).alloc _).alloc _).alloc _
  have HS := zH (r2sign_any m (.slice q k cq) L z _ (hv.ext hE1) (by omega))
  have hsz : z.sign ≠ 0 := by rw [Ne, Int.sign_eq_zero_iff_zero]; exact hz
  generalize z.sign = s at HS hsz
  have g0 : (s == 0) = false := beq_eq_false_iff_ne.2 hsz
  have HLW := zH (fun W (h : Ext w W) => r3reduce_any n m (.slice p l cp) (.slice q k cq) L y z W (hu.ext h) (hv.ext h) hL hz)
  have HG := zH (newRat ((w.alloc (.cells #[.bool n, .slice p l cp] 24)).alloc (.cells #[.bool m, .slice q k cq] 24)))
  have HST := zH (fun w1 n1 t1 n2 t2 u0 u1 u2 u3 => stored_rat (w := ((w.alloc (.cells #[.bool n, .slice p l cp] 24)).alloc (.cells #[.bool m, .slice q k cq] 24))) (w1 := w1) (n := n1) (u := t1) (m := n2) (v := t2) (q := Rat.divInt y z) (u0 := u0) (u1 := u1) (u2 := u2) (u3 := u3))
  have HE1 := zH hE1
  clear hE1 hu hv hz hsz
  have gb : ∀ w', Ext ((w.alloc (.cells #[.bool n, .slice p l cp] 24)).alloc (.cells #[.bool m, .slice q k cq] 24)) w' →
      w'.cell? ⟨w.heap.size, 0, none⟩ = some (.bool n) ∧ w'.cell? ⟨w.heap.size, 1, none⟩ = some (.slice p l cp) ∧ w'.cell? ⟨w.heap.size + 1, 0, none⟩ = some (.bool m) ∧ w'.cell? ⟨w.heap.size + 1, 1, none⟩ = some (.slice q k cq) := fun w' h =>
    ⟨h.get (by simp), h.get (by simp), h.get (by simp), h.get (by simp)⟩
  have HGB := zH gb
  clear gb
  go_enter Tryz.func71, Tryz.ntmps71
  go_wp2_with fail
  refine HS.out.mono ?_
  rintro e w1 ⟨rfl, he⟩
  have g1 := HGB.out _ (((Ext.refl _).alloc _).trans he)
  go_wp2_with fail
  refine (HLW.out _ (HE1.out.trans he)).mono ?_
  rintro e w2 ⟨b1, t1, b2, t2, rfl, hc, he2⟩
  have HC := zH hc
  obtain ⟨p1, l1, k1, p2, l2, k2, rfl, rfl⟩ := hc.form
  have gk := HG.out _ (he.trans he2)
  simp only [World.size_alloc] at gk
  clear hc g1
  go_wp2_with fail
  have st := HST.out _ _ _ _ _ (.bool b1) (.slice p1 l1 k1) (.bool b2) (.slice p2 l2 k2) (he.trans he2) HC.out
  simp only [World.size_alloc] at st
  refine bodyPost_ret (v := .tuple #[.agg #[.bool b1, .slice p1 l1 k1, .bool b2, .slice p2 l2 k2], .int .i64 0]) ?_ rfl ⟨_, _, _, _, rfl, st.1, (((Ext.refl _).alloc _).alloc _).trans st.2⟩
  simp [results, Tryz.results71, go_sem, *]

set_option maxHeartbeats 1000000 in
theorem r3fromInts_any (a b : Int) (w : World) (h1 : -9223372036854775808 ≤ a) (h2 : a ≤ 9223372036854775807) (h3 : -9223372036854775808 ≤ b) (h4 : b ≤ 9223372036854775807) (hb : b ≠ 0) :
    Calls Tryz.prog 40 #[.int .i64 a, .int .i64 b] w (RetRE (Rat.divInt a b) 0 w) := by
  have HF := zH (fun W => r2fromInt_any a W h1 h2)
  have HF1 := zH (fun W => r2fromInt_any b W h3 h4)
  have hla := nl_i64 a h1 h2
  have hlb := nl_i64 b h3 h4
  have HN := zH (fun W n u m v (x : IntC W n u a) (z : IntC W m v b) => r3new_any n m u v 2 a b W (x.isIn hla) (z.isIn hlb) (by omega) hb)
  have HG := zH (newRat w)
  have HST := zH (fun w1 n1 t1 n2 t2 u0 u1 u2 u3 => stored_rat (w := w) (w1 := w1) (n := n1) (u := t1) (m := n2) (v := t2) (q := Rat.divInt a b) (u0 := u0) (u1 := u1) (u2 := u2) (u3 := u3))
  clear h1 h2 h3 h4 hla hlb hb
  go_enter Tryz.func40, Tryz.ntmps40
  go_wp2_with fail
  refine (HF.out _).mono ?_
  rintro e w1 ⟨b1, t1, rfl, hc1, he1⟩
  have HC1 := zH hc1
  clear hc1
  go_wp2_with fail
  refine (HF1.out _).mono ?_
  rintro e w2 ⟨b2, t2, rfl, hc2, he2⟩
  have HC2 := zH hc2
  clear hc2
  go_wp2_with fail
  refine (HN.out _ _ _ _ _ (HC1.out.ext he2) HC2.out).mono ?_
  rintro e w3 ⟨n1, u1, n2, u2, rfl, hc, he3⟩
  have HC := zH hc
  obtain ⟨p1, l1, k1, p2, l2, k2, rfl, rfl⟩ := hc.form
  have gk := HG.out _ ((he1.trans he2).trans he3)
  clear hc
  go_wp2_with fail
  have st := HST.out _ _ _ _ _ (.bool n1) (.slice p1 l1 k1) (.bool n2) (.slice p2 l2 k2) ((he1.trans he2).trans he3) HC.out
  refine bodyPost_ret (v := .tuple #[.agg #[.bool n1, .slice p1 l1 k1, .bool n2, .slice p2 l2 k2], .int .i64 0]) ?_ rfl ⟨_, _, _, _, rfl, st.1, st.2⟩
  simp [results, Tryz.results40, go_sem, *]

end Go.Proofs.YtllpkoinjompcaaGreat

namespace Go.Proofs.YtllpkoinjompcaaGreat
open Go.RowKit
attribute [local go_sem ↓] Go.wp_at_zero Go.wp_at_succ run_max_ii run_min_ii

set_option maxHeartbeats 1000000 in
theorem r3new_zero (n m : Bool) (u v : Value) (L : Nat) (y : Int) (w : World) (hu : IntIn L w n u y) (hv : IntIn L w m v 0) (hL : L ≤ 300000) :
    Calls Tryz.prog 71 #[.agg #[.bool n, u], .agg #[.bool m, v]] w fun e w' => e = .returned (.tuple #[.agg z4, .int .i64 9]) ∧ Ext w w' := by
  obtain ⟨p, l, cp, rfl⟩ := hu.form
  obtain ⟨q, k, cq, rfl⟩ := hv.form
  have hE1 : Ext w ((((w.alloc (.cells #[.bool n, .slice p l cp] 24)).alloc (.cells #[.bool m, .slice q k cq] 24)).alloc (.cells z4 26))) := (((Ext.refl _).alloc _).alloc _).alloc _
  have HS := zH (r2sign_any m (.slice q k cq) L 0 _ (hv.ext hE1) (by omega))
  rw [show (0 : Int).sign = 0 from rfl] at HS
  have HG := zH (newRat ((w.alloc (.cells #[.bool n, .slice p l cp] 24)).alloc (.cells #[.bool m, .slice q k cq] 24)))
  clear hE1 hu hv
  go_enter Tryz.func71, Tryz.ntmps71
  go_wp2_with fail
  refine HS.out.mono ?_
  rintro e w1 ⟨rfl, he⟩
  have gk := HG.out _ he
  simp only [World.size_alloc] at gk
  go_wp2_with fail
  refine bodyPost_ret (v := .tuple #[.agg z4, .int .i64 9]) ?_ rfl ⟨rfl, ?_⟩
  · simp [results, Tryz.results71, go_sem, *]
  · have he2 : Ext ((w.alloc (.cells #[.bool n, .slice p l cp] 24)).alloc (.cells #[.bool m, .slice q k cq] 24)) w1 := ((Ext.refl _).alloc _).trans he
    exact (((Ext.refl _).alloc _).alloc _).trans (Ext.setCell (Ext.setCell (Ext.setCell (Ext.setCell he2 (by simp) _) (by simp) _) (by simp) _) (by simp) _)


theorem pNorm3 {L : Nat} {w : World} {cs : Array Value} {q : Rat} (hp : NIn L w cs q) (hL : L ≤ 150000) :
    Calls Tryz.prog 61 #[.agg cs] w fun e w' => ∃ c, e = .returned (.agg c) ∧ NIs w' c q ∧ Ext w w' := by
  obtain ⟨a, rfl, h1⟩ := hp
  refine (r3norm_any _ _ _ _ L q w h1 hL).mono fun e w' h => ?_
  obtain ⟨c, rfl, h3, h4⟩ := RetR.v h
  exact ⟨_, rfl, ⟨c, rfl, h3⟩, h4⟩
theorem q2mul {L : Nat} {w : World} {n m : Bool} {u v : Value} {y z : Int} (hu : IntIn L w n u y) (hv : IntIn L w m v z) (hL : L ≤ 150000) :
    Calls Tryz.prog 67 #[.agg #[.bool n, u], .agg #[.bool m, v]] w fun e w' => ∃ (k : Bool) (p : Option Addr) (l c : Nat), e = .returned (.agg #[.bool k, .slice p l c]) ∧ IntC w' k (.slice p l c) (y * z) ∧ Ext w w' := by
  refine (r2mul_any n m u v L y z w hu hv hL).mono fun e w' h => ?_
  obtain ⟨k, t, rfl, hc, he⟩ := h
  obtain ⟨p, l, c, rfl⟩ := hc.form
  exact ⟨k, p, l, c, rfl, hc, he⟩
theorem qNew {L : Nat} {w : World} {n m : Bool} {u v : Value} {q r : Rat} (hr : r ≠ 0) (hu : IntIn L w n u (q.num * r.den)) (hv : IntIn L w m v ((q.den : Int) * r.num)) (hL : L ≤ 150000) :
    Calls Tryz.prog 71 #[.agg #[.bool n, u], .agg #[.bool m, v]] w fun e w' => ∃ a : RV, e = .returned (.tuple #[.agg #[.bool a.n, .slice a.p a.l a.c, .bool a.m, .slice a.p2 a.l2 a.c2], .int .i64 0]) ∧ a.Is w' (q / r) ∧ Ext w w' := by
  have hd0 : (q.den : Int) * r.num ≠ 0 := Int.mul_ne_zero (by have := q.den_nz; omega) (fun h => hr (Rat.num_eq_zero.1 h))
  rw [Nm.div_eq]
  refine (r3new_any n m u v L _ _ w hu hv hL hd0).mono fun e w' h => ?_
  obtain ⟨a, rfl, h1, h2⟩ := RetRE.v h
  exact ⟨a, rfl, h1, h2⟩
set_option maxRecDepth 20000 in
set_option maxHeartbeats 8000000 in
theorem r3quo_any (L : Nat) (cp cq : Array Value) (q r : Rat) (w : World) (hp : NIn L w cp q) (hq : NIn L w cq r) (hL : L ≤ 70000) (hr : r ≠ 0) :
    Calls Tryz.prog 79 #[.agg cp, .agg cq] w fun e w' => ∃ c, e = .returned (.tuple #[.agg c, .int .i64 0]) ∧ NIs w' c (q / r) ∧ Ext w w' := by
  have ZP := hp.size
  have ZQ := hq.size
  have hnl : Nm.nl q.num.natAbs ≤ L + 1 ∧ Nm.nl (q.den : Int).natAbs ≤ L + 1 ∧ Nm.nl r.num.natAbs ≤ L + 1 ∧ Nm.nl (r.den : Int).natAbs ≤ L + 1 := by
    obtain ⟨_, _, h1⟩ := hp
    obtain ⟨_, _, h2⟩ := hq
    have h1 := h1.rl
    have h2 := h2.rl
    unfold Nm.rl at h1 h2
    simp only [Int.natAbs_natCast]
    omega
  have HNL := zH hnl
  have HR := zH hr
  clear hnl hr
  have Fp := zH hp
  have Fq := zH hq
  clear hp hq
  go_enter Tryz.func79, Tryz.ntmps79
  go_upto_region 1 with fail
  have hbx0 : Blk (((w.alloc (.cells cp 26)).alloc (.cells cq 26)).alloc (.cells z4 26)) (w.heap.size) 26 cp := Blk.ext (Blk.new_at w _ (by simp) _ _) (((Ext.refl _).alloc _).alloc _)
  have hbx1 : Blk (((w.alloc (.cells cp 26)).alloc (.cells cq 26)).alloc (.cells z4 26)) (w.heap.size + 1) 26 cq := Blk.ext (Blk.new_at (w.alloc (.cells cp 26)) _ (by simp) _ _) ((Ext.refl _).alloc _)
  have hR0 : Blk (((w.alloc (.cells cp 26)).alloc (.cells cq 26)).alloc (.cells z4 26)) (w.heap.size + 1 + 1) 26 z4 := Blk.ext (Blk.new_at ((w.alloc (.cells cp 26)).alloc (.cells cq 26)) _ (by simp) _ _) (Ext.refl _)
  have hE : Ext w (((w.alloc (.cells cp 26)).alloc (.cells cq 26)).alloc (.cells z4 26)) := ((((Ext.refl _).alloc _).alloc _).alloc _)
  have gR0 : w.heap.size ≤ w.heap.size + 1 + 1 := by omega
  have nbx0_R0 : w.heap.size ≠ w.heap.size + 1 + 1 := by omega
  have nbx1_R0 : w.heap.size + 1 ≠ w.heap.size + 1 + 1 := by omega
  generalize (((w.alloc (.cells cp 26)).alloc (.cells cq 26)).alloc (.cells z4 26)) = wa at *
  generalize w.heap.size + 1 + 1 = R0 at *
  generalize w.heap.size + 1 = bx1 at *
  have E1 : Hid (Ext w wa) := hE
  have Fbx0 := zH hbx0
  have Fbx1 := zH hbx1
  have FR0 := zH hR0
  clear hE hbx0 hbx1 hR0
  refine wp_region_held_drew (S := fun x => Ext wa x) (by kernel_rfl) (Ext.refl _).drew (fun _ => ?_)
  have E2 := zH (show Ext wa wa.drew from (Ext.refl _).drew)
  refine mL 0 (bs 8 1) (fun x hx => (Fbx0.out).ext hx) Tryz.underlying26 (by rw [show (cp : Array Value).size = 4 from ZP]; kernel_rfl) E2.out ?_
  refine mL 2 (bs 8 5) (fun x hx => (Fbx1.out).ext hx) Tryz.underlying26 (by rw [show (cq : Array Value).size = 4 from ZQ]; kernel_rfl) E2.out ?_
  (try simp only [Act.put, zA, zB, zC])
  refine tuple2 (f := 2) 1 3 4 5 9 11 6 7 26 z4 (fun v w => ∃ c, v = .agg c ∧ NIs w c q) (fun v w => ∃ c, v = .agg c ∧ NIs w c r) rfl rfl rfl rfl (by decide) (by decide) (by kernel_rfl) (fun _ hx => E2.out.trans hx) (fun _ _ _ h e => by obtain ⟨c, h1, h2⟩ := h; exact ⟨c, h1, h2.ext e⟩) (fun _ _ _ h e => by obtain ⟨c, h1, h2⟩ := h; exact ⟨c, h1, h2.ext e⟩) ?hm1c1 ?hm1c2 ?hm1c3 ?hm1c4 ?hm1e undef undef undef undef (by kernel_rfl) rfl
  case hm1c1 =>
    intro v1 v2 v3 v4 w1 K hx hSw hK
    (try simp only [Act.put, zA, zB, zC])
    rw [if_pos (by rfl)]
    refine wp_call_op (by go_simp) (pNorm3 ((Fp.out.ext E1.out).ext hSw) (by omega)) ?_
    rintro e w' ⟨c, rfl, hc, he⟩
    refine ⟨_, rfl, ?_⟩
    have hk := hK.out _ _ ⟨_, rfl, hc⟩ he
    (try simp only [Act.put, zA, zB, zC])
    simp only [Act.put, zA, zB, zC] at hk
    exact hk
  case hm1c2 =>
    intro v1 v2 v3 v4 w1 K hx hSw hK
    (try simp only [Act.put, zA, zB, zC])
    rw [if_pos (by rfl)]
    refine wp_call_op (by go_simp) (pNorm3 ((Fq.out.ext E1.out).ext hSw) (by omega)) ?_
    rintro e w' ⟨c, rfl, hc, he⟩
    refine ⟨_, rfl, ?_⟩
    have hk := hK.out _ _ ⟨_, rfl, hc⟩ he
    (try simp only [Act.put, zA, zB, zC])
    simp only [Act.put, zA, zB, zC] at hk
    exact hk
  case hm1c3 =>
    intro v1 v2 v3 v4 w1 K hx hSw hK
    (try simp only [Act.put, zA, zB, zC])
    go_simp
    have hk := hK.out
    simp only [Act.put, zA, zB, zC] at hk
    exact hk
  case hm1c4 =>
    intro v1 v2 v3 v4 w1 K hx hSw hK
    (try simp only [Act.put, zA, zB, zC])
    go_simp
    have hk := hK.out
    simp only [Act.put, zA, zB, zC] at hk
    exact hk
  case hm1e =>
    intro v1 v2 Xm11 Xm12 wqm1 hx hSw xp1 xp2 xb1 xb2 xz1 xz2 n12
    obtain ⟨_, rfl, x, rfl, ix⟩ := xp1
    obtain ⟨_, rfl, y, rfl, iy⟩ := xp2
    (try simp only [Act.put, zA, zB, zC])
    have hy : Ext wa wqm1 := hSw
    obtain ⟨xk2, xex, xr1, xr2, xe1, xfm⟩ := stored_two (zs := z4) (c1 := #[.bool x.n, .slice x.p x.l x.c, .bool x.m, .slice x.p2 x.l2 x.c2]) (c2 := #[.bool y.n, .slice y.p y.l y.c, .bool y.m, .slice y.p2 y.l2 y.c2]) (noU_of _ (by simp)) hy xb1 xb2 xz1 xz2 n12 rfl rfl
    refine mO 6 (bs 8 127) #[.bool x.n, .slice x.p x.l x.c, .bool x.m, .slice x.p2 x.l2 x.c2] xb1 rfl (by kernel_rfl) (all_oneCell_toArray (by simp [Value.oneCell'])) xe1 ?_
    (try simp only [Act.put])
    refine mO 7 (bs 8 255) #[.bool y.n, .slice y.p y.l y.c, .bool y.m, .slice y.p2 y.l2 y.c2] xk2 rfl (by kernel_rfl) (all_oneCell_toArray (by simp [Value.oneCell'])) xex ?_
    (try simp only [Act.put])
    refine wpAnyH_done (by kernel_rfl) ?_ _
    have jx := xfm _ _ ix
    have nVA_R0 : Xm11 ≠ R0 := by have h9 := Blk.lt FR0.out; have h8 : wa.heap.size ≤ Xm11 := xz1; omega
    have jy := xfm _ _ iy
    have nVB_R0 : Xm12 ≠ R0 := by have h9 := Blk.lt FR0.out; have h8 : wa.heap.size ≤ Xm12 := xz2; omega
    clear xb1 xb2 xfm hx hy hSw xk2 xe1 ix iy
    generalize ((wqm1.setCells Xm11 0 (#[.bool x.n, .slice x.p x.l x.c, .bool x.m, .slice x.p2 x.l2 x.c2] : Array Value).toList).setCells Xm12 0 (#[.bool y.n, .slice y.p y.l y.c, .bool y.m, .slice y.p2 y.l2 y.c2] : Array Value).toList) = wsm1 at *
    have E2 : Hid (Ext wa wsm1) := xex
    have FVA := zH xr1
    have Fx := zH jx
    have FVB := zH xr2
    have Fy := zH jy
    clear xex xr1 jx xr2 jy
    go_upto_region 2 with fail
    refine wp_region_held_drew (S := fun x => Own R0 wsm1 x) (by kernel_rfl) (Own.of_ext (Ext.refl _).drew) (fun _ => ?_)
    have E3 := zH (show Ext wsm1 wsm1.drew from (Ext.refl _).drew)
    refine mV 0 (bs 15 1) (Own.of_ext E3.out) ?_
    refine mR 1 (bs 15 3) Xm11 0 [.bool x.n, .slice x.p x.l x.c] (fun x hx => ((FVA.out).own hx nVA_R0).part 0 2) Tryz.underlying24 (Own.of_ext E3.out) ?_
    (try simp only [Act.put, zA, zB, zC])
    refine mV 2 (bs 15 7) (Own.of_ext E3.out) ?_
    refine mR 3 (bs 15 15) Xm12 2 [.bool y.m, .slice y.p2 y.l2 y.c2] (fun x hx => ((FVB.out).own hx nVB_R0).part 2 2) Tryz.underlying24 (Own.of_ext E3.out) ?_
    (try simp only [Act.put, zA, zB, zC])
    refine mV 5 (bs 15 47) (Own.of_ext E3.out) ?_
    refine mR 6 (bs 15 111) Xm11 2 [.bool x.m, .slice x.p2 x.l2 x.c2] (fun x hx => ((FVA.out).own hx nVA_R0).part 2 2) Tryz.underlying24 (Own.of_ext E3.out) ?_
    (try simp only [Act.put, zA, zB, zC])
    refine mV 7 (bs 15 239) (Own.of_ext E3.out) ?_
    refine mR 8 (bs 15 495) Xm12 0 [.bool y.n, .slice y.p y.l y.c] (fun x hx => ((FVB.out).own hx nVB_R0).part 0 2) Tryz.underlying24 (Own.of_ext E3.out) ?_
    (try simp only [Act.put, zA, zB, zC])
    refine mC 4 (bs 15 511) (q2mul (L := L + 1) ((Fx.out.ext E3.out).1.isIn HNL.out.1) ((Fy.out.ext E3.out).2.isIn HNL.out.2.2.2) (by omega)) ?_
    rintro e w4 ⟨k1, p1, l1, c1, rfl, hc, hx⟩
    have E4 : Hid (Ext wsm1.drew w4) := hx
    have Fu1 := zH hc
    clear hc
    clear hx
    refine ⟨_, rfl, (Own.of_ext (tr E3 E4).out), ?_⟩
    (try simp only [Act.put, zA, zB, zC])
    refine mC 9 (bs 15 1023) (q2mul (L := L + 1) ((Fx.out.ext (tr E3 E4).out).2.isIn HNL.out.2.1) ((Fy.out.ext (tr E3 E4).out).1.isIn HNL.out.2.2.1) (by omega)) ?_
    rintro e w5 ⟨k2, p2, l2, c2, rfl, hc, hx⟩
    have E5 : Hid (Ext w4 w5) := hx
    have Fu2 := zH hc
    clear hc
    clear hx
    refine ⟨_, rfl, (Own.of_ext (tr E3 (tr E4 E5)).out), ?_⟩
    (try simp only [Act.put, zA, zB, zC])
    refine mC 10 (bs 15 2047) (qNew HR.out ((Fu1.out.ext E5.out).isIn (nl_mul_int _ _ _ _ HNL.out.1 HNL.out.2.2.2)) (Fu2.out.isIn (nl_mul_int _ _ _ _ HNL.out.2.1 HNL.out.2.2.1)) (by omega)) ?_
    rintro e w6 ⟨z, rfl, hc, hx⟩
    have E6 : Hid (Ext w5 w6) := hx
    have Fz := zH hc
    clear hc
    clear hx
    refine ⟨_, rfl, (Own.of_ext (tr E3 (tr E4 (tr E5 E6))).out), ?_⟩
    (try simp only [Act.put, zA, zB, zC])
    refine mV 11 (bs 15 4095) (Own.of_ext (tr E3 (tr E4 (tr E5 E6))).out) ?_
    (try simp only [Act.put, zA, zB, zC])
    refine mV 12 (bs 15 8191) (Own.of_ext (tr E3 (tr E4 (tr E5 E6))).out) ?_
    (try simp only [Act.put, zA, zB, zC])
    have o1 := Own.setCells w6 R0 #[.bool z.n, .slice z.p z.l z.c, .bool z.m, .slice z.p2 z.l2 z.c2]
    have kb1 := (FR0.out.ext (tr E2 (tr E3 (tr E4 (tr E5 E6)))).out)
    have hs1 : Own R0 wsm1 (w6.setCells R0 0 (#[.bool z.n, .slice z.p z.l z.c, .bool z.m, .slice z.p2 z.l2 z.c2] : Array Value).toList) := (Own.then_ext' (tr E3 (tr E4 (tr E5 E6))).out o1)
    refine mO 13 (bs 15 16383) #[.bool z.n, .slice z.p z.l z.c, .bool z.m, .slice z.p2 z.l2 z.c2] kb1 (by rw [show (#[.bool z.n, .slice z.p z.l z.c, .bool z.m, .slice z.p2 z.l2 z.c2] : Array Value).size = 4 from rfl]; rfl) (by rw [show (#[.bool z.n, .slice z.p z.l z.c, .bool z.m, .slice z.p2 z.l2 z.c2] : Array Value).size = 4 from rfl]; kernel_rfl) (all_oneCell_toArray (by simp [Value.oneCell'])) hs1 ?_
    (try simp only [Act.put])
    have kc1 := kb1.setCells #[.bool z.n, .slice z.p z.l z.c, .bool z.m, .slice z.p2 z.l2 z.c2] (by rw [show (#[.bool z.n, .slice z.p z.l z.c, .bool z.m, .slice z.p2 z.l2 z.c2] : Array Value).size = 4 from rfl]; rfl)
    refine mV 14 (bs 15 32767) hs1 ?_
    (try simp only [Act.put, zA, zB, zC])
    refine wpAnyH_done (by kernel_rfl) ?_ _
    have y0 := kc1.cell 0
    have y1 := kc1.cell 1
    have y2 := kc1.cell 2
    have y3 := kc1.cell 3
    simp at y0 y1 y2 y3
    go_wp2_with fail
    refine bodyPost_ret (v := .tuple #[.agg #[.bool z.n, .slice z.p z.l z.c, .bool z.m, .slice z.p2 z.l2 z.c2], .int .i64 0]) ?_ rfl ⟨_, rfl, ⟨z, rfl, Fz.out.own kb1 (noU_of _ (by simp)) o1⟩, (o1.ext (tr E1 (tr E2 (tr E3 (tr E4 (tr E5 E6))))).out gR0)⟩
    simp [results, Tryz.results79, go_sem, *]
set_option maxRecDepth 20000 in
set_option maxHeartbeats 8000000 in
theorem r3quo_zero (L : Nat) (cp cq : Array Value) (q r : Rat) (w : World) (hp : NIn L w cp q) (hq : NIn L w cq r) (hL : L ≤ 70000) (hr : r = 0) :
    Calls Tryz.prog 79 #[.agg cp, .agg cq] w fun e w' => e = .returned (.tuple #[.agg z4, .int .i64 9]) ∧ Ext w w' := by
  have ZP := hp.size
  have ZQ := hq.size
  have hnl : Nm.nl q.num.natAbs ≤ L + 1 ∧ Nm.nl (q.den : Int).natAbs ≤ L + 1 ∧ Nm.nl r.num.natAbs ≤ L + 1 ∧ Nm.nl (r.den : Int).natAbs ≤ L + 1 := by
    obtain ⟨_, _, h1⟩ := hp
    obtain ⟨_, _, h2⟩ := hq
    have h1 := h1.rl
    have h2 := h2.rl
    unfold Nm.rl at h1 h2
    simp only [Int.natAbs_natCast]
    omega
  have HNL := zH hnl
  have HR := zH hr
  clear hnl hr
  have Fp := zH hp
  have Fq := zH hq
  clear hp hq
  go_enter Tryz.func79, Tryz.ntmps79
  go_upto_region 1 with fail
  have hbx0 : Blk (((w.alloc (.cells cp 26)).alloc (.cells cq 26)).alloc (.cells z4 26)) (w.heap.size) 26 cp := Blk.ext (Blk.new_at w _ (by simp) _ _) (((Ext.refl _).alloc _).alloc _)
  have hbx1 : Blk (((w.alloc (.cells cp 26)).alloc (.cells cq 26)).alloc (.cells z4 26)) (w.heap.size + 1) 26 cq := Blk.ext (Blk.new_at (w.alloc (.cells cp 26)) _ (by simp) _ _) ((Ext.refl _).alloc _)
  have hR0 : Blk (((w.alloc (.cells cp 26)).alloc (.cells cq 26)).alloc (.cells z4 26)) (w.heap.size + 1 + 1) 26 z4 := Blk.ext (Blk.new_at ((w.alloc (.cells cp 26)).alloc (.cells cq 26)) _ (by simp) _ _) (Ext.refl _)
  have hE : Ext w (((w.alloc (.cells cp 26)).alloc (.cells cq 26)).alloc (.cells z4 26)) := ((((Ext.refl _).alloc _).alloc _).alloc _)
  have gR0 : w.heap.size ≤ w.heap.size + 1 + 1 := by omega
  have nbx0_R0 : w.heap.size ≠ w.heap.size + 1 + 1 := by omega
  have nbx1_R0 : w.heap.size + 1 ≠ w.heap.size + 1 + 1 := by omega
  generalize (((w.alloc (.cells cp 26)).alloc (.cells cq 26)).alloc (.cells z4 26)) = wa at *
  generalize w.heap.size + 1 + 1 = R0 at *
  generalize w.heap.size + 1 = bx1 at *
  have E1 : Hid (Ext w wa) := hE
  have Fbx0 := zH hbx0
  have Fbx1 := zH hbx1
  have FR0 := zH hR0
  clear hE hbx0 hbx1 hR0
  refine wp_region_held_drew (S := fun x => Ext wa x) (by kernel_rfl) (Ext.refl _).drew (fun _ => ?_)
  have E2 := zH (show Ext wa wa.drew from (Ext.refl _).drew)
  refine mL 0 (bs 8 1) (fun x hx => (Fbx0.out).ext hx) Tryz.underlying26 (by rw [show (cp : Array Value).size = 4 from ZP]; kernel_rfl) E2.out ?_
  refine mL 2 (bs 8 5) (fun x hx => (Fbx1.out).ext hx) Tryz.underlying26 (by rw [show (cq : Array Value).size = 4 from ZQ]; kernel_rfl) E2.out ?_
  (try simp only [Act.put, zA, zB, zC])
  refine tuple2 (f := 2) 1 3 4 5 9 11 6 7 26 z4 (fun v w => ∃ c, v = .agg c ∧ NIs w c q) (fun v w => ∃ c, v = .agg c ∧ NIs w c r) rfl rfl rfl rfl (by decide) (by decide) (by kernel_rfl) (fun _ hx => E2.out.trans hx) (fun _ _ _ h e => by obtain ⟨c, h1, h2⟩ := h; exact ⟨c, h1, h2.ext e⟩) (fun _ _ _ h e => by obtain ⟨c, h1, h2⟩ := h; exact ⟨c, h1, h2.ext e⟩) ?hm9c1 ?hm9c2 ?hm9c3 ?hm9c4 ?hm9e undef undef undef undef (by kernel_rfl) rfl
  case hm9c1 =>
    intro v1 v2 v3 v4 w1 K hx hSw hK
    (try simp only [Act.put, zA, zB, zC])
    rw [if_pos (by rfl)]
    refine wp_call_op (by go_simp) (pNorm3 ((Fp.out.ext E1.out).ext hSw) (by omega)) ?_
    rintro e w' ⟨c, rfl, hc, he⟩
    refine ⟨_, rfl, ?_⟩
    have hk := hK.out _ _ ⟨_, rfl, hc⟩ he
    (try simp only [Act.put, zA, zB, zC])
    simp only [Act.put, zA, zB, zC] at hk
    exact hk
  case hm9c2 =>
    intro v1 v2 v3 v4 w1 K hx hSw hK
    (try simp only [Act.put, zA, zB, zC])
    rw [if_pos (by rfl)]
    refine wp_call_op (by go_simp) (pNorm3 ((Fq.out.ext E1.out).ext hSw) (by omega)) ?_
    rintro e w' ⟨c, rfl, hc, he⟩
    refine ⟨_, rfl, ?_⟩
    have hk := hK.out _ _ ⟨_, rfl, hc⟩ he
    (try simp only [Act.put, zA, zB, zC])
    simp only [Act.put, zA, zB, zC] at hk
    exact hk
  case hm9c3 =>
    intro v1 v2 v3 v4 w1 K hx hSw hK
    (try simp only [Act.put, zA, zB, zC])
    go_simp
    have hk := hK.out
    simp only [Act.put, zA, zB, zC] at hk
    exact hk
  case hm9c4 =>
    intro v1 v2 v3 v4 w1 K hx hSw hK
    (try simp only [Act.put, zA, zB, zC])
    go_simp
    have hk := hK.out
    simp only [Act.put, zA, zB, zC] at hk
    exact hk
  case hm9e =>
    intro v1 v2 Xm91 Xm92 wqm9 hx hSw xp1 xp2 xb1 xb2 xz1 xz2 n12
    obtain ⟨_, rfl, x, rfl, ix⟩ := xp1
    obtain ⟨_, rfl, y, rfl, iy⟩ := xp2
    (try simp only [Act.put, zA, zB, zC])
    have hy : Ext wa wqm9 := hSw
    obtain ⟨xk2, xex, xr1, xr2, xe1, xfm⟩ := stored_two (zs := z4) (c1 := #[.bool x.n, .slice x.p x.l x.c, .bool x.m, .slice x.p2 x.l2 x.c2]) (c2 := #[.bool y.n, .slice y.p y.l y.c, .bool y.m, .slice y.p2 y.l2 y.c2]) (noU_of _ (by simp)) hy xb1 xb2 xz1 xz2 n12 rfl rfl
    refine mO 6 (bs 8 127) #[.bool x.n, .slice x.p x.l x.c, .bool x.m, .slice x.p2 x.l2 x.c2] xb1 rfl (by kernel_rfl) (all_oneCell_toArray (by simp [Value.oneCell'])) xe1 ?_
    (try simp only [Act.put])
    refine mO 7 (bs 8 255) #[.bool y.n, .slice y.p y.l y.c, .bool y.m, .slice y.p2 y.l2 y.c2] xk2 rfl (by kernel_rfl) (all_oneCell_toArray (by simp [Value.oneCell'])) xex ?_
    (try simp only [Act.put])
    refine wpAnyH_done (by kernel_rfl) ?_ _
    have jx := xfm _ _ ix
    have nVA_R0 : Xm91 ≠ R0 := by have h9 := Blk.lt FR0.out; have h8 : wa.heap.size ≤ Xm91 := xz1; omega
    have jy := xfm _ _ iy
    have nVB_R0 : Xm92 ≠ R0 := by have h9 := Blk.lt FR0.out; have h8 : wa.heap.size ≤ Xm92 := xz2; omega
    clear xb1 xb2 xfm hx hy hSw xk2 xe1 ix iy
    generalize ((wqm9.setCells Xm91 0 (#[.bool x.n, .slice x.p x.l x.c, .bool x.m, .slice x.p2 x.l2 x.c2] : Array Value).toList).setCells Xm92 0 (#[.bool y.n, .slice y.p y.l y.c, .bool y.m, .slice y.p2 y.l2 y.c2] : Array Value).toList) = wsm9 at *
    have E2 : Hid (Ext wa wsm9) := xex
    have FVA := zH xr1
    have Fx := zH jx
    have FVB := zH xr2
    have Fy := zH jy
    clear xex xr1 jx xr2 jy
    go_upto_region 2 with fail
    refine wp_region_held_drew (S := fun x => Own R0 wsm9 x) (by kernel_rfl) (Own.of_ext (Ext.refl _).drew) (fun _ => ?_)
    have E3 := zH (show Ext wsm9 wsm9.drew from (Ext.refl _).drew)
    refine mV 0 (bs 15 1) (Own.of_ext E3.out) ?_
    refine mR 1 (bs 15 3) Xm91 0 [.bool x.n, .slice x.p x.l x.c] (fun x hx => ((FVA.out).own hx nVA_R0).part 0 2) Tryz.underlying24 (Own.of_ext E3.out) ?_
    (try simp only [Act.put, zA, zB, zC])
    refine mV 2 (bs 15 7) (Own.of_ext E3.out) ?_
    refine mR 3 (bs 15 15) Xm92 2 [.bool y.m, .slice y.p2 y.l2 y.c2] (fun x hx => ((FVB.out).own hx nVB_R0).part 2 2) Tryz.underlying24 (Own.of_ext E3.out) ?_
    (try simp only [Act.put, zA, zB, zC])
    refine mV 5 (bs 15 47) (Own.of_ext E3.out) ?_
    refine mR 6 (bs 15 111) Xm91 2 [.bool x.m, .slice x.p2 x.l2 x.c2] (fun x hx => ((FVA.out).own hx nVA_R0).part 2 2) Tryz.underlying24 (Own.of_ext E3.out) ?_
    (try simp only [Act.put, zA, zB, zC])
    refine mV 7 (bs 15 239) (Own.of_ext E3.out) ?_
    refine mR 8 (bs 15 495) Xm92 0 [.bool y.n, .slice y.p y.l y.c] (fun x hx => ((FVB.out).own hx nVB_R0).part 0 2) Tryz.underlying24 (Own.of_ext E3.out) ?_
    (try simp only [Act.put, zA, zB, zC])
    refine mC 4 (bs 15 511) (q2mul (L := L + 1) ((Fx.out.ext E3.out).1.isIn HNL.out.1) ((Fy.out.ext E3.out).2.isIn HNL.out.2.2.2) (by omega)) ?_
    rintro e w4 ⟨k1, p1, l1, c1, rfl, hc, hx⟩
    have E4 : Hid (Ext wsm9.drew w4) := hx
    have Fu1 := zH hc
    clear hc
    clear hx
    refine ⟨_, rfl, (Own.of_ext (tr E3 E4).out), ?_⟩
    (try simp only [Act.put, zA, zB, zC])
    refine mC 9 (bs 15 1023) (q2mul (L := L + 1) ((Fx.out.ext (tr E3 E4).out).2.isIn HNL.out.2.1) ((Fy.out.ext (tr E3 E4).out).1.isIn HNL.out.2.2.1) (by omega)) ?_
    rintro e w5 ⟨k2, p2, l2, c2, rfl, hc, hx⟩
    have E5 : Hid (Ext w4 w5) := hx
    have Fu2 := zH hc
    clear hc
    clear hx
    refine ⟨_, rfl, (Own.of_ext (tr E3 (tr E4 E5)).out), ?_⟩
    (try simp only [Act.put, zA, zB, zC])
    refine mC 10 (bs 15 2047) (r3new_zero k1 k2 (.slice p1 l1 c1) (.slice p2 l2 c2) (L + 1 + (L + 1)) _ _ ((Fu1.out.ext E5.out).isIn (nl_mul_int _ _ _ _ HNL.out.1 HNL.out.2.2.2)) (show IntIn _ _ _ _ 0 by have h := Fu2.out.isIn (nl_mul_int _ _ _ _ HNL.out.2.1 HNL.out.2.2.1); rwa [show (q.den : Int) * r.num = 0 by rw [HR.out]; exact Int.mul_zero _] at h) (by omega)) ?_
    rintro e w6 ⟨rfl, hx⟩
    have E6 : Hid (Ext w5 w6) := hx
    clear hx
    refine ⟨_, rfl, (Own.of_ext (tr E3 (tr E4 (tr E5 E6))).out), ?_⟩
    (try simp only [Act.put, zA, zB, zC])
    refine mV 11 (bs 15 4095) (Own.of_ext (tr E3 (tr E4 (tr E5 E6))).out) ?_
    (try simp only [Act.put, zA, zB, zC])
    refine mV 12 (bs 15 8191) (Own.of_ext (tr E3 (tr E4 (tr E5 E6))).out) ?_
    (try simp only [Act.put, zA, zB, zC])
    have o1 := Own.setCells w6 R0 z4
    have kb1 := (FR0.out.ext (tr E2 (tr E3 (tr E4 (tr E5 E6)))).out)
    have hs1 : Own R0 wsm9 (w6.setCells R0 0 (z4 : Array Value).toList) := (Own.then_ext' (tr E3 (tr E4 (tr E5 E6))).out o1)
    refine mO 13 (bs 15 16383) z4 kb1 rfl (by kernel_rfl) (all_oneCell_toArray (by simp [Value.oneCell'])) hs1 ?_
    (try simp only [Act.put])
    have kc1 := kb1.setCells z4 rfl
    refine mV 14 (bs 15 32767) hs1 ?_
    (try simp only [Act.put, zA, zB, zC])
    refine wpAnyH_done (by kernel_rfl) ?_ _
    have y0 := kc1.cell 0
    have y1 := kc1.cell 1
    have y2 := kc1.cell 2
    have y3 := kc1.cell 3
    simp at y0 y1 y2 y3
    go_wp2_with fail
    refine bodyPost_ret (v := .tuple #[.agg z4, .int .i64 9]) ?_ rfl ⟨rfl, (o1.ext (tr E1 (tr E2 (tr E3 (tr E4 (tr E5 E6))))).out gR0)⟩
    simp [results, Tryz.results79, go_sem, *]

end Go.Proofs.YtllpkoinjompcaaGreat

namespace Go.Proofs.YtllpkoinjompcaaGreat
open Go.RowKit
attribute [local go_sem ↓] Go.wp_at_zero Go.wp_at_succ run_max_ii run_min_ii

theorem mv_range {P : Program} {ops : Array Oper} {rest : List Oper} {op : Oper} {a : Act} {w : World} {Q : Exit → Act → World → Prop} (hw : Region.wanted op (yielded ops a.tmps) = true) (ty : TypeId) (x : Operand) (ho : op.op = .load ty x) (g o : Nat) (cs : List Value) (d : TypeDesc) (hx : a.eval x = .pointer (some ⟨g, o, none⟩)) (hb : w.rangeAt g o cs)
    (hu : P.underlying ty = some d) (hd : d.isRow = true) (hi : (P.info? ty).map (·.size) = some cs.length) (h : wpList P ops Q rest (a.put op.dst (.agg cs.toArray)) w) : wpList P ops Q (op :: rest) a w :=
  wpList_if hw (wp_load_mid ty x ho g o hx cs d hb hu hd hi h)
theorem r03CmpS {L : Nat} {w : World} {a b : RV} {q r : Rat} {s : Int} (hs : s = rcmp q r) (hp : a.In L w q) (hq : b.In L w r) (hL : L ≤ 60000) :
    Calls Tryz.prog 78 #[.agg #[.bool a.n, .slice a.p a.l a.c, .bool a.m, .slice a.p2 a.l2 a.c2], .agg #[.bool b.n, .slice b.p b.l b.c, .bool b.m, .slice b.p2 b.l2 b.c2]] w fun e w' => e = .returned (.int .i64 s) ∧ Ext w w' := by
  subst hs
  exact r3cmp_any _ _ _ _ _ _ _ _ L q r w hp hq (by omega)
theorem x3norm {L : Nat} {w : World} {a : RV} {q : Rat} (hp : a.In L w q) (hL : L ≤ 150000) :
    Calls Tryz.prog 61 #[.agg #[.bool a.n, .slice a.p a.l a.c, .bool a.m, .slice a.p2 a.l2 a.c2]] w fun e w' => ∃ c : RV, e = .returned (.agg #[.bool c.n, .slice c.p c.l c.c, .bool c.m, .slice c.p2 c.l2 c.c2]) ∧ c.Is w' q ∧ Ext w w' := by
  refine (r3norm_any _ _ _ _ L q w hp hL).mono fun e w' h => ?_
  obtain ⟨c, rfl, h3, h4⟩ := RetR.v h
  exact ⟨c, rfl, h3, h4⟩
theorem boxLo_take {xs : List Rat} {k : Nat} (h1 : 1 ≤ k) (h2 : k < xs.length) : boxLo (xs.take (k + 1)) = lower (xs.getD k 0) (boxLo (xs.take k)) := by
  obtain ⟨x, ys, rfl⟩ : ∃ x ys, xs = x :: ys := by
    cases xs with
    | nil => simp at h2
    | cons x ys => exact ⟨x, ys, rfl⟩
  obtain ⟨j, rfl⟩ : ∃ j, k = j + 1 := ⟨k - 1, by omega⟩
  simp only [List.length_cons] at h2
  have hj : j < ys.length := by omega
  have e : ys.take (j + 1) = ys.take j ++ [ys.getD j 0] := by rw [List.take_succ_eq_append_getElem hj]; simp [List.getD, hj]
  simp only [boxLo, List.take_succ_cons, List.tail_cons, List.headD_cons, e, List.foldl_append, List.foldl_cons, List.foldl_nil]
  rfl
theorem boxHi_take {xs : List Rat} {k : Nat} (h1 : 1 ≤ k) (h2 : k < xs.length) : boxHi (xs.take (k + 1)) = upper (xs.getD k 0) (boxHi (xs.take k)) := by
  obtain ⟨x, ys, rfl⟩ : ∃ x ys, xs = x :: ys := by
    cases xs with
    | nil => simp at h2
    | cons x ys => exact ⟨x, ys, rfl⟩
  obtain ⟨j, rfl⟩ : ∃ j, k = j + 1 := ⟨k - 1, by omega⟩
  simp only [List.length_cons] at h2
  have hj : j < ys.length := by omega
  have e : ys.take (j + 1) = ys.take j ++ [ys.getD j 0] := by rw [List.take_succ_eq_append_getElem hj]; simp [List.getD, hj]
  simp only [boxHi, List.take_succ_cons, List.tail_cons, List.headD_cons, e, List.foldl_append, List.foldl_cons, List.foldl_nil]
  rfl
theorem box_one {xs : List Rat} (h : 0 < xs.length) : boxLo (xs.take 1) = xs.getD 0 0 ∧ boxHi (xs.take 1) = xs.getD 0 0 := by
  cases xs with
  | nil => simp at h
  | cons x ys => exact ⟨rfl, rfl⟩
theorem rl_low {q l : Rat} {L : Nat} (h : Nm.rl q ≤ L) (h2 : Nm.rl l ≤ L) : Nm.rl (lower q l) ≤ L := by unfold lower; split <;> assumption
theorem rl_upp {q l : Rat} {L : Nat} (h : Nm.rl q ≤ L) (h2 : Nm.rl l ≤ L) : Nm.rl (upper q l) ≤ L := by unfold upper; split <;> assumption
theorem rl_take {xs : List Rat} {L : Nat} (h : ∀ i, i < xs.length → Nm.rl (xs.getD i 0) ≤ L) : ∀ k, k < xs.length → Nm.rl (boxLo (xs.take (k + 1))) ≤ L ∧ Nm.rl (boxHi (xs.take (k + 1))) ≤ L
  | 0, hk => by rw [(box_one hk).1, (box_one hk).2]; exact ⟨h 0 hk, h 0 hk⟩
  | k + 1, hk => by
    obtain ⟨h1, h2⟩ := rl_take h k (by omega)
    rw [boxLo_take (by omega) hk, boxHi_take (by omega) hk]
    exact ⟨rl_low (h _ hk) h1, rl_upp (h _ hk) h2⟩
structure ExSt (w wr : World) (X Y r0 r1 : Nat) (a b : RV) (lo hi : Rat) : Prop where
  ba : Blk wr X 26 #[.bool a.n, .slice a.p a.l a.c, .bool a.m, .slice a.p2 a.l2 a.c2]
  bb : Blk wr Y 26 #[.bool b.n, .slice b.p b.l b.c, .bool b.m, .slice b.p2 b.l2 b.c2]
  ia : a.Is wr lo
  ib : b.Is wr hi
  k0 : Blk wr r0 26 z4
  k1 : Blk wr r1 26 z4
  x : Ext w wr
  xy : X ≠ Y
  x0 : X ≠ r0
  x1 : X ≠ r1
  y0 : Y ≠ r0
  y1 : Y ≠ r1
  gx : w.heap.size ≤ X
  gy : w.heap.size ≤ Y
theorem ExSt.ext {w wr w' : World} {X Y r0 r1 : Nat} {a b : RV} {lo hi : Rat} (h : ExSt w wr X Y r0 r1 a b lo hi) (e : Ext wr w') : ExSt w w' X Y r0 r1 a b lo hi :=
  ⟨h.ba.ext e, h.bb.ext e, h.ia.ext e, h.ib.ext e, h.k0.ext e, h.k1.ext e, h.x.trans e, h.xy, h.x0, h.x1, h.y0, h.y1, h.gx, h.gy⟩
theorem ExSt.setX {w wr : World} {X Y r0 r1 : Nat} {a b c : RV} {lo hi q : Rat} (h : ExSt w wr X Y r0 r1 a b lo hi) (hc : c.Is wr q) : ExSt w (wr.setCells X 0 (#[.bool c.n, .slice c.p c.l c.c, .bool c.m, .slice c.p2 c.l2 c.c2] : Array Value).toList) X Y r0 r1 c b q hi := by
  have o := Own.setCells wr X #[.bool c.n, .slice c.p c.l c.c, .bool c.m, .slice c.p2 c.l2 c.c2]
  exact ⟨h.ba.setCells #[.bool c.n, .slice c.p c.l c.c, .bool c.m, .slice c.p2 c.l2 c.c2] rfl, h.bb.own o h.xy.symm, hc.own h.ba (noU_of _ (by simp)) o, h.ib.own h.ba (noU_of _ (by simp)) o, h.k0.own o h.x0.symm, h.k1.own o h.x1.symm, o.ext h.x h.gx, h.xy, h.x0, h.x1, h.y0, h.y1, h.gx, h.gy⟩
theorem ExSt.setY {w wr : World} {X Y r0 r1 : Nat} {a b c : RV} {lo hi q : Rat} (h : ExSt w wr X Y r0 r1 a b lo hi) (hc : c.Is wr q) : ExSt w (wr.setCells Y 0 (#[.bool c.n, .slice c.p c.l c.c, .bool c.m, .slice c.p2 c.l2 c.c2] : Array Value).toList) X Y r0 r1 a c lo q := by
  have o := Own.setCells wr Y #[.bool c.n, .slice c.p c.l c.c, .bool c.m, .slice c.p2 c.l2 c.c2]
  exact ⟨h.ba.own o h.xy, h.bb.setCells #[.bool c.n, .slice c.p c.l c.c, .bool c.m, .slice c.p2 c.l2 c.c2] rfl, h.ia.own h.bb (noU_of _ (by simp)) o, hc.own h.bb (noU_of _ (by simp)) o, h.k0.own o h.y0.symm, h.k1.own o h.y1.symm, o.ext h.x h.gy, h.xy, h.x0, h.x1, h.y0, h.y1, h.gx, h.gy⟩
theorem x3normC {L : Nat} {w : World} {a : RV} {q : Rat} (hp : a.In L w q) (hL : L ≤ 150000) :
    Calls Tryz.prog 61 #[.agg #[.bool a.n, .slice a.p a.l a.c, .bool a.m, .slice a.p2 a.l2 a.c2]] w fun e w' => ∃ c, e = .returned (.agg c) ∧ NIs w' c q ∧ Ext w w' := by
  refine (x3norm hp hL).mono fun e w' h => ?_
  obtain ⟨c, rfl, h3, h4⟩ := h
  exact ⟨_, rfl, ⟨c, rfl, h3⟩, h4⟩
set_option maxRecDepth 20000 in
set_option maxHeartbeats 8000000 in
theorem extremes_any (L : Nat) (v : Value) (xs : List Rat) (w : World) (hv : RatsV L w v xs) (h0 : 0 < xs.length) (hn : xs.length ≤ 50) (h1 : 1 ≤ L) (hL : L ≤ 60000) :
  Calls Tryz.prog 48 #[v] w fun e w' => ∃ c1 c2, e = .returned (.tuple #[.agg c1, .agg c2]) ∧ NIs w' c1 (boxLo xs) ∧ NIs w' c2 (boxHi xs) ∧ Ext w w' := by
 obtain ⟨A, ca, rs, rfl, hrl, hin, hcell⟩ := hv
 have HB := zH (rl_take (xs := xs) (L := L) (fun i hi => by have := (hin i hi).rl; omega))
 have HIN := zH hin
 have HC := zH hcell
 clear hin hcell hrl
 obtain ⟨g1, o1, rfl, hp0⟩ := HC.out h0
 have HP := zH hp0
 have H0 := zH (show w.rangeAt g1 o1 [.bool (rs.getD 0 RV.zero).n, .slice (rs.getD 0 RV.zero).p (rs.getD 0 RV.zero).l (rs.getD 0 RV.zero).c, .bool (rs.getD 0 RV.zero).m, .slice (rs.getD 0 RV.zero).p2 (rs.getD 0 RV.zero).l2 (rs.getD 0 RV.zero).c2] by simpa using hp0 0 h0)
 have I0 := zH (HIN.out 0 h0)
 have HTW := zH (box_one h0)
 clear hp0 HC
 generalize hga : rs.getD 0 RV.zero = ra at H0 I0
 generalize hgb : xs.getD 0 0 = rq at I0 HTW
 clear hga hgb
 have Fra := zH I0.out
 go_enter Tryz.func48, Tryz.ntmps48
 go_upto_region 1 with fail
 have hR0 : Blk ((w.alloc (.cells z4 26)).alloc (.cells z4 26)) (w.heap.size) 26 z4 := Blk.ext (Blk.new_at w _ (by simp) _ _) ((Ext.refl _).alloc _)
 have hR1 : Blk ((w.alloc (.cells z4 26)).alloc (.cells z4 26)) (w.heap.size + 1) 26 z4 := Blk.ext (Blk.new_at (w.alloc (.cells z4 26)) _ (by simp) _ _) (Ext.refl _)
 have hE : Ext w ((w.alloc (.cells z4 26)).alloc (.cells z4 26)) := (((Ext.refl _).alloc _).alloc _)
 have gR0 : w.heap.size ≤ w.heap.size := by omega
 have nR1_R0 : w.heap.size + 1 ≠ w.heap.size := by omega
 have gR1 : w.heap.size ≤ w.heap.size + 1 := by omega
 have nR0_R1 : w.heap.size ≠ w.heap.size + 1 := by omega
 generalize ((w.alloc (.cells z4 26)).alloc (.cells z4 26)) = wa at *
 generalize w.heap.size + 1 = R1 at *
 have E1 : Hid (Ext w wa) := hE
 have FR0 := zH hR0
 have FR1 := zH hR1
 clear hE hR0 hR1
 refine wp_region_held_drew (S := fun x => Ext wa x) (by kernel_rfl) (Ext.refl _).drew (fun _ => ?_)
 have E2 := zH (show Ext wa wa.drew from (Ext.refl _).drew)
 refine mV 0 (bs 12 1) E2.out ?_
 (try simp only [Act.put, zA, zB, zC])
 refine mV 1 (bs 12 3) E2.out ?_
 refine mR 2 (bs 12 7) g1 (o1) [.bool ra.n, .slice ra.p ra.l ra.c, .bool ra.m, .slice ra.p2 ra.l2 ra.c2] (fun x hx => range_ext (range_ext H0.out E1.out) hx) Tryz.underlying26 E2.out ?_
 (try simp only [Act.put, zA, zB, zC])
 refine mV 4 (bs 12 23) E2.out ?_
 (try simp only [Act.put, zA, zB, zC])
 refine mV 5 (bs 12 55) E2.out ?_
 refine mR 6 (bs 12 119) g1 (o1) [.bool ra.n, .slice ra.p ra.l ra.c, .bool ra.m, .slice ra.p2 ra.l2 ra.c2] (fun x hx => range_ext (range_ext H0.out E1.out) hx) Tryz.underlying26 E2.out ?_
 (try simp only [Act.put, zA, zB, zC])
 refine tuple2 (f := 2) 3 7 8 9 10 14 4 5 26 z4 (fun v w => ∃ c, v = .agg c ∧ NIs w c rq) (fun v w => ∃ c, v = .agg c ∧ NIs w c rq) rfl rfl rfl rfl (by decide) (by decide) (by kernel_rfl) (fun _ hx => E2.out.trans hx) (fun _ _ _ h e => by obtain ⟨c, h1, h2⟩ := h; exact ⟨c, h1, h2.ext e⟩) (fun _ _ _ h e => by obtain ⟨c, h1, h2⟩ := h; exact ⟨c, h1, h2.ext e⟩) ?hm5c1 ?hm5c2 ?hm5c3 ?hm5c4 ?hm5e undef undef undef undef (by kernel_rfl) rfl
 case hm5c1 =>
  intro v1 v2 v3 v4 w1 K hx hSw hK
  (try simp only [Act.put, zA, zB, zC])
  rw [if_pos (by rfl)]
  refine wp_call_op (by go_simp) (x3normC (L := L) ((Fra.out.ext E1.out).ext hSw) (by omega)) ?_
  rintro e w' ⟨c, rfl, hc, he⟩
  refine ⟨_, rfl, ?_⟩
  have hk := hK.out _ _ ⟨_, rfl, hc⟩ he
  (try simp only [Act.put, zA, zB, zC])
  simp only [Act.put, zA, zB, zC] at hk
  exact hk
 case hm5c2 =>
  intro v1 v2 v3 v4 w1 K hx hSw hK
  (try simp only [Act.put, zA, zB, zC])
  rw [if_pos (by rfl)]
  refine wp_call_op (by go_simp) (x3normC (L := L) ((Fra.out.ext E1.out).ext hSw) (by omega)) ?_
  rintro e w' ⟨c, rfl, hc, he⟩
  refine ⟨_, rfl, ?_⟩
  have hk := hK.out _ _ ⟨_, rfl, hc⟩ he
  (try simp only [Act.put, zA, zB, zC])
  simp only [Act.put, zA, zB, zC] at hk
  exact hk
 case hm5c3 =>
  intro v1 v2 v3 v4 w1 K hx hSw hK
  (try simp only [Act.put, zA, zB, zC])
  go_simp
  have hk := hK.out
  simp only [Act.put, zA, zB, zC] at hk
  exact hk
 case hm5c4 =>
  intro v1 v2 v3 v4 w1 K hx hSw hK
  (try simp only [Act.put, zA, zB, zC])
  go_simp
  have hk := hK.out
  simp only [Act.put, zA, zB, zC] at hk
  exact hk
 case hm5e =>
  intro v1 v2 Xm51 Xm52 wqm5 hx hSw xp1 xp2 xb1 xb2 xz1 xz2 n12
  obtain ⟨_, rfl, x, rfl, ix⟩ := xp1
  obtain ⟨_, rfl, y, rfl, iy⟩ := xp2
  (try simp only [Act.put, zA, zB, zC])
  have hy : Ext wa wqm5 := hSw
  obtain ⟨xk2, xex, xr1, xr2, xe1, xfm⟩ := stored_two (zs := z4) (c1 := #[.bool x.n, .slice x.p x.l x.c, .bool x.m, .slice x.p2 x.l2 x.c2]) (c2 := #[.bool y.n, .slice y.p y.l y.c, .bool y.m, .slice y.p2 y.l2 y.c2]) (noU_of _ (by simp)) hy xb1 xb2 xz1 xz2 n12 rfl rfl
  refine mO 10 (bs 12 2047) #[.bool x.n, .slice x.p x.l x.c, .bool x.m, .slice x.p2 x.l2 x.c2] xb1 rfl (by kernel_rfl) (all_oneCell_toArray (by simp [Value.oneCell'])) xe1 ?_
  (try simp only [Act.put])
  refine mO 11 (bs 12 4095) #[.bool y.n, .slice y.p y.l y.c, .bool y.m, .slice y.p2 y.l2 y.c2] xk2 rfl (by kernel_rfl) (all_oneCell_toArray (by simp [Value.oneCell'])) xex ?_
  (try simp only [Act.put])
  refine wpAnyH_done (by kernel_rfl) ?_ _
  have jx := xfm _ _ ix
  have nVA_R0 : Xm51 ≠ w.heap.size := by have h9 := Blk.lt FR0.out; have h8 : wa.heap.size ≤ Xm51 := xz1; omega
  have nVA_R1 : Xm51 ≠ R1 := by have h9 := Blk.lt FR1.out; have h8 : wa.heap.size ≤ Xm51 := xz1; omega
  have jy := xfm _ _ iy
  have nVB_R0 : Xm52 ≠ w.heap.size := by have h9 := Blk.lt FR0.out; have h8 : wa.heap.size ≤ Xm52 := xz2; omega
  have nVB_R1 : Xm52 ≠ R1 := by have h9 := Blk.lt FR1.out; have h8 : wa.heap.size ≤ Xm52 := xz2; omega
  clear xb1 xb2 xfm hx hy hSw xk2 xe1 ix iy
  generalize ((wqm5.setCells Xm51 0 (#[.bool x.n, .slice x.p x.l x.c, .bool x.m, .slice x.p2 x.l2 x.c2] : Array Value).toList).setCells Xm52 0 (#[.bool y.n, .slice y.p y.l y.c, .bool y.m, .slice y.p2 y.l2 y.c2] : Array Value).toList) = wsm5 at *
  have E2 : Hid (Ext wa wsm5) := xex
  have FVA := zH xr1
  have Fx := zH jx
  have FVB := zH xr2
  have Fy := zH jy
  clear xex xr1 jx xr2 jy
  have nXY : Xm51 ≠ Xm52 := by assumption
  have HST := zH (show ExSt w wsm5 Xm51 Xm52 w.heap.size R1 x y (boxLo (xs.take 1)) (boxHi (xs.take 1)) from ⟨FVA.out, FVB.out, (by rw [HTW.out.1]; exact Fx.out), (by rw [HTW.out.2]; exact Fy.out), (FR0.out.ext E2.out), (FR1.out.ext E2.out), (tr E1 E2).out, nXY, nVA_R0, nVA_R1, nVB_R0, nVB_R1, (Nat.le_trans (E1.out).size xz1), (Nat.le_trans (E1.out).size xz2)⟩)
  clear FVA FVB Fx Fy FR0 FR1 H0 I0 HTW nXY xz1 xz2 nVA_R0 nVA_R1 nVB_R0 nVB_R1
  go_wp2_with fail
  go_loopg [6] (xs.length - 1) (fun g i wr => ∃ (k : Nat) (a b : RV), 1 ≤ k ∧ k ≤ xs.length ∧ g = xs.length - k ∧ i = .int .i64 k ∧ ExSt w wr Xm51 Xm52 w.heap.size R1 a b (boxLo (xs.take k)) (boxHi (xs.take k)))
  case atStart => exact ⟨1, x, y, by omega, h0, rfl, rfl, HST.out⟩
  case round =>
   clear HST
   obtain ⟨k, a, b, hk1, hk, rfl, rfl, hst⟩ := hrel
   have HST := zH hst
   clear hst
   by_cases hlt : k < xs.length
   ·have HPK := zH (HP.out k hlt)
    have HIK := zH (HIN.out k hlt)
    have HRA := zH (range_ext (HP.out k hlt) HST.out.x)
    have HRI := zH ((HIN.out k hlt).ext HST.out.x)
    have HLO := zH (And.intro (boxLo_take hk1 hlt) (boxHi_take hk1 hlt))
    have HBK := zH (show Nm.rl (boxLo (xs.take k)) ≤ L ∧ Nm.rl (boxHi (xs.take k)) ≤ L by have h := HB.out (k - 1) (by omega); rwa [show k - 1 + 1 = k by omega] at h)
    generalize hga : rs.getD k RV.zero = ra at *
    generalize hgb : xs.getD k 0 = rq at *
    generalize hlo : boxLo (xs.take k) = lo at *
    generalize hhi : boxHi (xs.take k) = hi at *
    clear hga hgb hlo hhi
    obtain ⟨s0, hs0⟩ : ∃ s, s = rcmp rq lo := ⟨_, rfl⟩
    obtain ⟨s1, hs1⟩ : ∃ s, s = rcmp rq hi := ⟨_, rfl⟩
    have HS0 := zH hs0
    have HS1 := zH hs1
    clear hs0 hs1
    by_cases hltc : s0 < 0
    ·by_cases hgtc : 0 < s1
     ·have FVA := zH HST.out.ba
      have FVB := zH HST.out.bb
      have Fia := zH HST.out.ia
      have Fib := zH HST.out.ib
      have Fra := zH HRI.out
      go_upto_region 5 with fail
      refine wp_region_held_drew (S := fun x => Ext wr x) (by kernel_rfl) (Ext.refl _).drew (fun _ => ?_)
      have E1 := zH (show Ext wr wr.drew from (Ext.refl _).drew)
      refine mV 0 (bs 7 1) E1.out ?_
      (try simp only [Act.put, zA, zB, zC])
      refine mV 1 (bs 7 3) E1.out ?_
      (try simp only [Act.put, zA, zB, zC])
      refine mV 2 (bs 7 7) E1.out ?_
      refine mR 3 (bs 7 15) g1 (o1 + k * 4) [.bool ra.n, .slice ra.p ra.l ra.c, .bool ra.m, .slice ra.p2 ra.l2 ra.c2] (fun x hx => range_ext (range_ext HRA.out (Ext.refl _)) hx) Tryz.underlying26 E1.out ?_
      refine mR 4 (bs 7 31) Xm51 0 [.bool a.n, .slice a.p a.l a.c, .bool a.m, .slice a.p2 a.l2 a.c2] (fun x hx => ((FVA.out).ext hx).part 0 4) Tryz.underlying26 E1.out ?_
      (try simp only [Act.put, zA, zB, zC])
      refine mC 5 (bs 7 63) (r03CmpS HS0.out (L := L) (Fra.out.ext E1.out) ((Fia.out.ext E1.out).isIn HBK.out.1) (by omega)) ?_
      rintro e w2 ⟨rfl, hx⟩
      have E2 : Hid (Ext wr.drew w2) := hx
      clear hx
      refine ⟨_, rfl, (tr E1 E2).out, ?_⟩
      (try simp only [Act.put, zA, zB, zC])
      refine mV 6 (bs 7 127) (tr E1 E2).out ?_
      (try simp only [Act.put, zA, zB, zC])
      refine wpAnyH_done (by kernel_rfl) ?_ _
      go_upto_region 6 with fail
      refine wp_region_lit ?_
      refine pV (w' := w2) ?_
      (try simp only [Act.put, zA, zB, zC])
      refine pV (w' := w2) ?_
      (try simp only [Act.put, zA, zB, zC])
      refine pV (w' := w2) ?_
      (try simp only [Act.put, zA, zB, zC])
      refine mv_range (by rfl) _ _ (by rfl) g1 (o1 + k * 4) [.bool ra.n, .slice ra.p ra.l ra.c, .bool ra.m, .slice ra.p2 ra.l2 ra.c2] _ (by rfl) (range_ext HRA.out (tr E1 E2).out) Tryz.underlying26 (by rfl) (by kernel_rfl) ?_
      (try simp only [Act.put, zA, zB, zC])
      refine mv_call (by rfl) (by go_simp) (x3norm (L := L) (Fra.out.ext (tr E1 E2).out) (by omega)) ?_
      rintro e w3 ⟨u1, rfl, hc, hx⟩
      have E3 : Hid (Ext w2 w3) := hx
      have Fnw := zH hc
      clear hc
      clear hx
      refine ⟨_, rfl, ?_⟩
      (try simp only [Act.put, zA, zB, zC])
      refine pO #[.bool u1.n, .slice u1.p u1.l u1.c, .bool u1.m, .slice u1.p2 u1.l2 u1.c2] (FVA.out.ext (tr E1 (tr E2 E3)).out) rfl (by rw [show (#[.bool u1.n, .slice u1.p u1.l u1.c, .bool u1.m, .slice u1.p2 u1.l2 u1.c2] : Array Value).size = 4 from rfl]; kernel_rfl) (all_oneCell_toArray (by simp [Value.oneCell'])) ?_
      (try simp only [Act.put])
      have hs := (HST.out.ext (tr E1 (tr E2 E3)).out).setX Fnw.out
      have hr2 := range_ext HPK.out hs.x
      have hi2 := HIK.out.ext hs.x
      generalize (w3.setCells Xm51 0 (#[.bool u1.n, .slice u1.p u1.l u1.c, .bool u1.m, .slice u1.p2 u1.l2 u1.c2] : Array Value).toList) = wz1 at *
      have HST1 := zH hs
      have HRA1 := zH hr2
      have HRI1 := zH hi2
      clear hs hr2 hi2
      clear FVA FVB Fia Fib Fra
      have FVA := zH HST1.out.ba
      have FVB := zH HST1.out.bb
      have Fia := zH HST1.out.ia
      have Fib := zH HST1.out.ib
      have Fra := zH HRI1.out
      go_upto_region 7 with fail
      refine wp_region_held_drew (S := fun x => Ext wz1 x) (by kernel_rfl) (Ext.refl _).drew (fun _ => ?_)
      have E1 := zH (show Ext wz1 wz1.drew from (Ext.refl _).drew)
      refine mV 0 (bs 7 1) E1.out ?_
      (try simp only [Act.put, zA, zB, zC])
      refine mV 1 (bs 7 3) E1.out ?_
      (try simp only [Act.put, zA, zB, zC])
      refine mV 2 (bs 7 7) E1.out ?_
      refine mR 3 (bs 7 15) g1 (o1 + k * 4) [.bool ra.n, .slice ra.p ra.l ra.c, .bool ra.m, .slice ra.p2 ra.l2 ra.c2] (fun x hx => range_ext (range_ext HRA1.out (Ext.refl _)) hx) Tryz.underlying26 E1.out ?_
      refine mR 4 (bs 7 31) Xm52 0 [.bool b.n, .slice b.p b.l b.c, .bool b.m, .slice b.p2 b.l2 b.c2] (fun x hx => ((FVB.out).ext hx).part 0 4) Tryz.underlying26 E1.out ?_
      (try simp only [Act.put, zA, zB, zC])
      refine mC 5 (bs 7 63) (r03CmpS HS1.out (L := L) (Fra.out.ext E1.out) ((Fib.out.ext E1.out).isIn HBK.out.2) (by omega)) ?_
      rintro e w2 ⟨rfl, hx⟩
      have E2 : Hid (Ext wz1.drew w2) := hx
      clear hx
      refine ⟨_, rfl, (tr E1 E2).out, ?_⟩
      (try simp only [Act.put, zA, zB, zC])
      refine mV 6 (bs 7 127) (tr E1 E2).out ?_
      (try simp only [Act.put, zA, zB, zC])
      refine wpAnyH_done (by kernel_rfl) ?_ _
      go_upto_region 8 with fail
      refine wp_region_lit ?_
      refine pV (w' := w2) ?_
      (try simp only [Act.put, zA, zB, zC])
      refine pV (w' := w2) ?_
      (try simp only [Act.put, zA, zB, zC])
      refine pV (w' := w2) ?_
      (try simp only [Act.put, zA, zB, zC])
      refine mv_range (by rfl) _ _ (by rfl) g1 (o1 + k * 4) [.bool ra.n, .slice ra.p ra.l ra.c, .bool ra.m, .slice ra.p2 ra.l2 ra.c2] _ (by rfl) (range_ext HRA1.out (tr E1 E2).out) Tryz.underlying26 (by rfl) (by kernel_rfl) ?_
      (try simp only [Act.put, zA, zB, zC])
      refine mv_call (by rfl) (by go_simp) (x3norm (L := L) (Fra.out.ext (tr E1 E2).out) (by omega)) ?_
      rintro e w3 ⟨u2, rfl, hc, hx⟩
      have E3 : Hid (Ext w2 w3) := hx
      have Fnw := zH hc
      clear hc
      clear hx
      refine ⟨_, rfl, ?_⟩
      (try simp only [Act.put, zA, zB, zC])
      refine pO #[.bool u2.n, .slice u2.p u2.l u2.c, .bool u2.m, .slice u2.p2 u2.l2 u2.c2] (FVB.out.ext (tr E1 (tr E2 E3)).out) rfl (by rw [show (#[.bool u2.n, .slice u2.p u2.l u2.c, .bool u2.m, .slice u2.p2 u2.l2 u2.c2] : Array Value).size = 4 from rfl]; kernel_rfl) (all_oneCell_toArray (by simp [Value.oneCell'])) ?_
      (try simp only [Act.put])
      have hs := (HST1.out.ext (tr E1 (tr E2 E3)).out).setY Fnw.out
      have hr2 := range_ext HPK.out hs.x
      have hi2 := HIK.out.ext hs.x
      generalize (w3.setCells Xm52 0 (#[.bool u2.n, .slice u2.p u2.l u2.c, .bool u2.m, .slice u2.p2 u2.l2 u2.c2] : Array Value).toList) = wz2 at *
      have HST2 := zH hs
      have HRA2 := zH hr2
      have HRI2 := zH hi2
      clear hs hr2 hi2
      clear FVA FVB Fia Fib Fra
      have FVA := zH HST2.out.ba
      have FVB := zH HST2.out.bb
      have Fia := zH HST2.out.ia
      have Fib := zH HST2.out.ib
      have Fra := zH HRI2.out
      go_wp2_with fail
      go_roundg (xs.length - (k + 1))
      case measure => omega
      case rel => exact ⟨k + 1, u1, u2, by omega, hlt, rfl, by go_num, (by rw [HLO.out.1, HLO.out.2, lower_t (by have := HS0.out; omega), upper_t (by have := HS1.out; omega)]; exact HST2.out.ext (Ext.refl _))⟩
     ·have FVA := zH HST.out.ba
      have FVB := zH HST.out.bb
      have Fia := zH HST.out.ia
      have Fib := zH HST.out.ib
      have Fra := zH HRI.out
      go_upto_region 5 with fail
      refine wp_region_held_drew (S := fun x => Ext wr x) (by kernel_rfl) (Ext.refl _).drew (fun _ => ?_)
      have E1 := zH (show Ext wr wr.drew from (Ext.refl _).drew)
      refine mV 0 (bs 7 1) E1.out ?_
      (try simp only [Act.put, zA, zB, zC])
      refine mV 1 (bs 7 3) E1.out ?_
      (try simp only [Act.put, zA, zB, zC])
      refine mV 2 (bs 7 7) E1.out ?_
      refine mR 3 (bs 7 15) g1 (o1 + k * 4) [.bool ra.n, .slice ra.p ra.l ra.c, .bool ra.m, .slice ra.p2 ra.l2 ra.c2] (fun x hx => range_ext (range_ext HRA.out (Ext.refl _)) hx) Tryz.underlying26 E1.out ?_
      refine mR 4 (bs 7 31) Xm51 0 [.bool a.n, .slice a.p a.l a.c, .bool a.m, .slice a.p2 a.l2 a.c2] (fun x hx => ((FVA.out).ext hx).part 0 4) Tryz.underlying26 E1.out ?_
      (try simp only [Act.put, zA, zB, zC])
      refine mC 5 (bs 7 63) (r03CmpS HS0.out (L := L) (Fra.out.ext E1.out) ((Fia.out.ext E1.out).isIn HBK.out.1) (by omega)) ?_
      rintro e w2 ⟨rfl, hx⟩
      have E2 : Hid (Ext wr.drew w2) := hx
      clear hx
      refine ⟨_, rfl, (tr E1 E2).out, ?_⟩
      (try simp only [Act.put, zA, zB, zC])
      refine mV 6 (bs 7 127) (tr E1 E2).out ?_
      (try simp only [Act.put, zA, zB, zC])
      refine wpAnyH_done (by kernel_rfl) ?_ _
      go_upto_region 6 with fail
      refine wp_region_lit ?_
      refine pV (w' := w2) ?_
      (try simp only [Act.put, zA, zB, zC])
      refine pV (w' := w2) ?_
      (try simp only [Act.put, zA, zB, zC])
      refine pV (w' := w2) ?_
      (try simp only [Act.put, zA, zB, zC])
      refine mv_range (by rfl) _ _ (by rfl) g1 (o1 + k * 4) [.bool ra.n, .slice ra.p ra.l ra.c, .bool ra.m, .slice ra.p2 ra.l2 ra.c2] _ (by rfl) (range_ext HRA.out (tr E1 E2).out) Tryz.underlying26 (by rfl) (by kernel_rfl) ?_
      (try simp only [Act.put, zA, zB, zC])
      refine mv_call (by rfl) (by go_simp) (x3norm (L := L) (Fra.out.ext (tr E1 E2).out) (by omega)) ?_
      rintro e w3 ⟨u1, rfl, hc, hx⟩
      have E3 : Hid (Ext w2 w3) := hx
      have Fnw := zH hc
      clear hc
      clear hx
      refine ⟨_, rfl, ?_⟩
      (try simp only [Act.put, zA, zB, zC])
      refine pO #[.bool u1.n, .slice u1.p u1.l u1.c, .bool u1.m, .slice u1.p2 u1.l2 u1.c2] (FVA.out.ext (tr E1 (tr E2 E3)).out) rfl (by rw [show (#[.bool u1.n, .slice u1.p u1.l u1.c, .bool u1.m, .slice u1.p2 u1.l2 u1.c2] : Array Value).size = 4 from rfl]; kernel_rfl) (all_oneCell_toArray (by simp [Value.oneCell'])) ?_
      (try simp only [Act.put])
      have hs := (HST.out.ext (tr E1 (tr E2 E3)).out).setX Fnw.out
      have hr2 := range_ext HPK.out hs.x
      have hi2 := HIK.out.ext hs.x
      generalize (w3.setCells Xm51 0 (#[.bool u1.n, .slice u1.p u1.l u1.c, .bool u1.m, .slice u1.p2 u1.l2 u1.c2] : Array Value).toList) = wz1 at *
      have HST1 := zH hs
      have HRA1 := zH hr2
      have HRI1 := zH hi2
      clear hs hr2 hi2
      clear FVA FVB Fia Fib Fra
      have FVA := zH HST1.out.ba
      have FVB := zH HST1.out.bb
      have Fia := zH HST1.out.ia
      have Fib := zH HST1.out.ib
      have Fra := zH HRI1.out
      go_upto_region 7 with fail
      refine wp_region_held_drew (S := fun x => Ext wz1 x) (by kernel_rfl) (Ext.refl _).drew (fun _ => ?_)
      have E1 := zH (show Ext wz1 wz1.drew from (Ext.refl _).drew)
      refine mV 0 (bs 7 1) E1.out ?_
      (try simp only [Act.put, zA, zB, zC])
      refine mV 1 (bs 7 3) E1.out ?_
      (try simp only [Act.put, zA, zB, zC])
      refine mV 2 (bs 7 7) E1.out ?_
      refine mR 3 (bs 7 15) g1 (o1 + k * 4) [.bool ra.n, .slice ra.p ra.l ra.c, .bool ra.m, .slice ra.p2 ra.l2 ra.c2] (fun x hx => range_ext (range_ext HRA1.out (Ext.refl _)) hx) Tryz.underlying26 E1.out ?_
      refine mR 4 (bs 7 31) Xm52 0 [.bool b.n, .slice b.p b.l b.c, .bool b.m, .slice b.p2 b.l2 b.c2] (fun x hx => ((FVB.out).ext hx).part 0 4) Tryz.underlying26 E1.out ?_
      (try simp only [Act.put, zA, zB, zC])
      refine mC 5 (bs 7 63) (r03CmpS HS1.out (L := L) (Fra.out.ext E1.out) ((Fib.out.ext E1.out).isIn HBK.out.2) (by omega)) ?_
      rintro e w2 ⟨rfl, hx⟩
      have E2 : Hid (Ext wz1.drew w2) := hx
      clear hx
      refine ⟨_, rfl, (tr E1 E2).out, ?_⟩
      (try simp only [Act.put, zA, zB, zC])
      refine mV 6 (bs 7 127) (tr E1 E2).out ?_
      (try simp only [Act.put, zA, zB, zC])
      refine wpAnyH_done (by kernel_rfl) ?_ _
      go_wp2_with fail
      go_roundg (xs.length - (k + 1))
      case measure => omega
      case rel => exact ⟨k + 1, u1, b, by omega, hlt, rfl, by go_num, (by rw [HLO.out.1, HLO.out.2, lower_t (by have := HS0.out; omega), upper_f (by have := HS1.out; omega)]; exact HST1.out.ext (tr E1 E2).out)⟩
    ·by_cases hgtc : 0 < s1
     ·have FVA := zH HST.out.ba
      have FVB := zH HST.out.bb
      have Fia := zH HST.out.ia
      have Fib := zH HST.out.ib
      have Fra := zH HRI.out
      go_upto_region 5 with fail
      refine wp_region_held_drew (S := fun x => Ext wr x) (by kernel_rfl) (Ext.refl _).drew (fun _ => ?_)
      have E1 := zH (show Ext wr wr.drew from (Ext.refl _).drew)
      refine mV 0 (bs 7 1) E1.out ?_
      (try simp only [Act.put, zA, zB, zC])
      refine mV 1 (bs 7 3) E1.out ?_
      (try simp only [Act.put, zA, zB, zC])
      refine mV 2 (bs 7 7) E1.out ?_
      refine mR 3 (bs 7 15) g1 (o1 + k * 4) [.bool ra.n, .slice ra.p ra.l ra.c, .bool ra.m, .slice ra.p2 ra.l2 ra.c2] (fun x hx => range_ext (range_ext HRA.out (Ext.refl _)) hx) Tryz.underlying26 E1.out ?_
      refine mR 4 (bs 7 31) Xm51 0 [.bool a.n, .slice a.p a.l a.c, .bool a.m, .slice a.p2 a.l2 a.c2] (fun x hx => ((FVA.out).ext hx).part 0 4) Tryz.underlying26 E1.out ?_
      (try simp only [Act.put, zA, zB, zC])
      refine mC 5 (bs 7 63) (r03CmpS HS0.out (L := L) (Fra.out.ext E1.out) ((Fia.out.ext E1.out).isIn HBK.out.1) (by omega)) ?_
      rintro e w2 ⟨rfl, hx⟩
      have E2 : Hid (Ext wr.drew w2) := hx
      clear hx
      refine ⟨_, rfl, (tr E1 E2).out, ?_⟩
      (try simp only [Act.put, zA, zB, zC])
      refine mV 6 (bs 7 127) (tr E1 E2).out ?_
      (try simp only [Act.put, zA, zB, zC])
      refine wpAnyH_done (by kernel_rfl) ?_ _
      go_upto_region 7 with fail
      refine wp_region_held_drew (S := fun x => Ext w2 x) (by kernel_rfl) (Ext.refl _).drew (fun _ => ?_)
      have E3 := zH (show Ext w2 w2.drew from (Ext.refl _).drew)
      refine mV 0 (bs 7 1) E3.out ?_
      (try simp only [Act.put, zA, zB, zC])
      refine mV 1 (bs 7 3) E3.out ?_
      (try simp only [Act.put, zA, zB, zC])
      refine mV 2 (bs 7 7) E3.out ?_
      refine mR 3 (bs 7 15) g1 (o1 + k * 4) [.bool ra.n, .slice ra.p ra.l ra.c, .bool ra.m, .slice ra.p2 ra.l2 ra.c2] (fun x hx => range_ext (range_ext HRA.out (tr E1 E2).out) hx) Tryz.underlying26 E3.out ?_
      refine mR 4 (bs 7 31) Xm52 0 [.bool b.n, .slice b.p b.l b.c, .bool b.m, .slice b.p2 b.l2 b.c2] (fun x hx => (((FVB.out.ext (tr E1 E2).out)).ext hx).part 0 4) Tryz.underlying26 E3.out ?_
      (try simp only [Act.put, zA, zB, zC])
      refine mC 5 (bs 7 63) (r03CmpS HS1.out (L := L) (Fra.out.ext (tr E1 (tr E2 E3)).out) ((Fib.out.ext (tr E1 (tr E2 E3)).out).isIn HBK.out.2) (by omega)) ?_
      rintro e w4 ⟨rfl, hx⟩
      have E4 : Hid (Ext w2.drew w4) := hx
      clear hx
      refine ⟨_, rfl, (tr E3 E4).out, ?_⟩
      (try simp only [Act.put, zA, zB, zC])
      refine mV 6 (bs 7 127) (tr E3 E4).out ?_
      (try simp only [Act.put, zA, zB, zC])
      refine wpAnyH_done (by kernel_rfl) ?_ _
      go_upto_region 8 with fail
      refine wp_region_lit ?_
      refine pV (w' := w4) ?_
      (try simp only [Act.put, zA, zB, zC])
      refine pV (w' := w4) ?_
      (try simp only [Act.put, zA, zB, zC])
      refine pV (w' := w4) ?_
      (try simp only [Act.put, zA, zB, zC])
      refine mv_range (by rfl) _ _ (by rfl) g1 (o1 + k * 4) [.bool ra.n, .slice ra.p ra.l ra.c, .bool ra.m, .slice ra.p2 ra.l2 ra.c2] _ (by rfl) (range_ext HRA.out (tr E1 (tr E2 (tr E3 E4))).out) Tryz.underlying26 (by rfl) (by kernel_rfl) ?_
      (try simp only [Act.put, zA, zB, zC])
      refine mv_call (by rfl) (by go_simp) (x3norm (L := L) (Fra.out.ext (tr E1 (tr E2 (tr E3 E4))).out) (by omega)) ?_
      rintro e w5 ⟨u2, rfl, hc, hx⟩
      have E5 : Hid (Ext w4 w5) := hx
      have Fnw := zH hc
      clear hc
      clear hx
      refine ⟨_, rfl, ?_⟩
      (try simp only [Act.put, zA, zB, zC])
      refine pO #[.bool u2.n, .slice u2.p u2.l u2.c, .bool u2.m, .slice u2.p2 u2.l2 u2.c2] (FVB.out.ext (tr E1 (tr E2 (tr E3 (tr E4 E5)))).out) rfl (by rw [show (#[.bool u2.n, .slice u2.p u2.l u2.c, .bool u2.m, .slice u2.p2 u2.l2 u2.c2] : Array Value).size = 4 from rfl]; kernel_rfl) (all_oneCell_toArray (by simp [Value.oneCell'])) ?_
      (try simp only [Act.put])
      have hs := (HST.out.ext (tr E1 (tr E2 (tr E3 (tr E4 E5)))).out).setY Fnw.out
      have hr2 := range_ext HPK.out hs.x
      have hi2 := HIK.out.ext hs.x
      generalize (w5.setCells Xm52 0 (#[.bool u2.n, .slice u2.p u2.l u2.c, .bool u2.m, .slice u2.p2 u2.l2 u2.c2] : Array Value).toList) = wz2 at *
      have HST2 := zH hs
      have HRA2 := zH hr2
      have HRI2 := zH hi2
      clear hs hr2 hi2
      clear FVA FVB Fia Fib Fra
      have FVA := zH HST2.out.ba
      have FVB := zH HST2.out.bb
      have Fia := zH HST2.out.ia
      have Fib := zH HST2.out.ib
      have Fra := zH HRI2.out
      go_wp2_with fail
      go_roundg (xs.length - (k + 1))
      case measure => omega
      case rel => exact ⟨k + 1, a, u2, by omega, hlt, rfl, by go_num, (by rw [HLO.out.1, HLO.out.2, lower_f (by have := HS0.out; omega), upper_t (by have := HS1.out; omega)]; exact HST2.out.ext (Ext.refl _))⟩
     ·have FVA := zH HST.out.ba
      have FVB := zH HST.out.bb
      have Fia := zH HST.out.ia
      have Fib := zH HST.out.ib
      have Fra := zH HRI.out
      go_upto_region 5 with fail
      refine wp_region_held_drew (S := fun x => Ext wr x) (by kernel_rfl) (Ext.refl _).drew (fun _ => ?_)
      have E1 := zH (show Ext wr wr.drew from (Ext.refl _).drew)
      refine mV 0 (bs 7 1) E1.out ?_
      (try simp only [Act.put, zA, zB, zC])
      refine mV 1 (bs 7 3) E1.out ?_
      (try simp only [Act.put, zA, zB, zC])
      refine mV 2 (bs 7 7) E1.out ?_
      refine mR 3 (bs 7 15) g1 (o1 + k * 4) [.bool ra.n, .slice ra.p ra.l ra.c, .bool ra.m, .slice ra.p2 ra.l2 ra.c2] (fun x hx => range_ext (range_ext HRA.out (Ext.refl _)) hx) Tryz.underlying26 E1.out ?_
      refine mR 4 (bs 7 31) Xm51 0 [.bool a.n, .slice a.p a.l a.c, .bool a.m, .slice a.p2 a.l2 a.c2] (fun x hx => ((FVA.out).ext hx).part 0 4) Tryz.underlying26 E1.out ?_
      (try simp only [Act.put, zA, zB, zC])
      refine mC 5 (bs 7 63) (r03CmpS HS0.out (L := L) (Fra.out.ext E1.out) ((Fia.out.ext E1.out).isIn HBK.out.1) (by omega)) ?_
      rintro e w2 ⟨rfl, hx⟩
      have E2 : Hid (Ext wr.drew w2) := hx
      clear hx
      refine ⟨_, rfl, (tr E1 E2).out, ?_⟩
      (try simp only [Act.put, zA, zB, zC])
      refine mV 6 (bs 7 127) (tr E1 E2).out ?_
      (try simp only [Act.put, zA, zB, zC])
      refine wpAnyH_done (by kernel_rfl) ?_ _
      go_upto_region 7 with fail
      refine wp_region_held_drew (S := fun x => Ext w2 x) (by kernel_rfl) (Ext.refl _).drew (fun _ => ?_)
      have E3 := zH (show Ext w2 w2.drew from (Ext.refl _).drew)
      refine mV 0 (bs 7 1) E3.out ?_
      (try simp only [Act.put, zA, zB, zC])
      refine mV 1 (bs 7 3) E3.out ?_
      (try simp only [Act.put, zA, zB, zC])
      refine mV 2 (bs 7 7) E3.out ?_
      refine mR 3 (bs 7 15) g1 (o1 + k * 4) [.bool ra.n, .slice ra.p ra.l ra.c, .bool ra.m, .slice ra.p2 ra.l2 ra.c2] (fun x hx => range_ext (range_ext HRA.out (tr E1 E2).out) hx) Tryz.underlying26 E3.out ?_
      refine mR 4 (bs 7 31) Xm52 0 [.bool b.n, .slice b.p b.l b.c, .bool b.m, .slice b.p2 b.l2 b.c2] (fun x hx => (((FVB.out.ext (tr E1 E2).out)).ext hx).part 0 4) Tryz.underlying26 E3.out ?_
      (try simp only [Act.put, zA, zB, zC])
      refine mC 5 (bs 7 63) (r03CmpS HS1.out (L := L) (Fra.out.ext (tr E1 (tr E2 E3)).out) ((Fib.out.ext (tr E1 (tr E2 E3)).out).isIn HBK.out.2) (by omega)) ?_
      rintro e w4 ⟨rfl, hx⟩
      have E4 : Hid (Ext w2.drew w4) := hx
      clear hx
      refine ⟨_, rfl, (tr E3 E4).out, ?_⟩
      (try simp only [Act.put, zA, zB, zC])
      refine mV 6 (bs 7 127) (tr E3 E4).out ?_
      (try simp only [Act.put, zA, zB, zC])
      refine wpAnyH_done (by kernel_rfl) ?_ _
      go_wp2_with fail
      go_roundg (xs.length - (k + 1))
      case measure => omega
      case rel => exact ⟨k + 1, a, b, by omega, hlt, rfl, by go_num, (by rw [HLO.out.1, HLO.out.2, lower_f (by have := HS0.out; omega), upper_f (by have := HS1.out; omega)]; exact HST.out.ext (tr E1 (tr E2 (tr E3 E4))).out)⟩
   ·obtain rfl : k = xs.length := by omega
    have hst := HST.out
    rw [List.take_length] at hst
    have hEE := hst.x
    have nVA_R0 := hst.x0
    have nVA_R1 := hst.x1
    have nVB_R0 := hst.y0
    have nVB_R1 := hst.y1
    go_upto_region 9 with fail
    have E1 : Hid (Ext w wr) := hEE
    clear hEE
    have FVA := zH hst.ba
    have FVB := zH hst.bb
    have FR0 := zH hst.k0
    have FR1 := zH hst.k1
    have Fa := zH hst.ia
    have Fb := zH hst.ib
    clear hst
    refine wp_region_held_drew (S := fun x => Own2 w.heap.size R1 wr x) (by kernel_rfl) (Own2.of_ext (Ext.refl _).drew) (fun _ => ?_)
    have E2 := zH (show Ext wr wr.drew from (Ext.refl _).drew)
    refine mR 0 (bs 4 1) Xm51 0 [.bool a.n, .slice a.p a.l a.c, .bool a.m, .slice a.p2 a.l2 a.c2] (fun x hx => ((FVA.out).own2 hx nVA_R0 nVA_R1).part 0 4) Tryz.underlying26 (Own2.of_ext E2.out) ?_
    refine mR 1 (bs 4 3) Xm52 0 [.bool b.n, .slice b.p b.l b.c, .bool b.m, .slice b.p2 b.l2 b.c2] (fun x hx => ((FVB.out).own2 hx nVB_R0 nVB_R1).part 0 4) Tryz.underlying26 (Own2.of_ext E2.out) ?_
    (try simp only [Act.put, zA, zB, zC])
    have o1 := Own.setCells wr.drew w.heap.size #[.bool a.n, .slice a.p a.l a.c, .bool a.m, .slice a.p2 a.l2 a.c2]
    have kb1 := (FR0.out.ext E2.out)
    have hs1 : Own2 w.heap.size R1 wr (wr.drew.setCells w.heap.size 0 (#[.bool a.n, .slice a.p a.l a.c, .bool a.m, .slice a.p2 a.l2 a.c2] : Array Value).toList) := (Own2.one (Own.then_ext' E2.out o1))
    refine mO 2 (bs 4 7) #[.bool a.n, .slice a.p a.l a.c, .bool a.m, .slice a.p2 a.l2 a.c2] kb1 (by rw [show (#[.bool a.n, .slice a.p a.l a.c, .bool a.m, .slice a.p2 a.l2 a.c2] : Array Value).size = 4 from rfl]; rfl) (by rw [show (#[.bool a.n, .slice a.p a.l a.c, .bool a.m, .slice a.p2 a.l2 a.c2] : Array Value).size = 4 from rfl]; kernel_rfl) (all_oneCell_toArray (by simp [Value.oneCell'])) hs1 ?_
    (try simp only [Act.put])
    have kc1 := kb1.setCells #[.bool a.n, .slice a.p a.l a.c, .bool a.m, .slice a.p2 a.l2 a.c2] (by rw [show (#[.bool a.n, .slice a.p a.l a.c, .bool a.m, .slice a.p2 a.l2 a.c2] : Array Value).size = 4 from rfl]; rfl)
    have o2 := Own.setCells (wr.drew.setCells w.heap.size 0 (#[.bool a.n, .slice a.p a.l a.c, .bool a.m, .slice a.p2 a.l2 a.c2] : Array Value).toList) R1 #[.bool b.n, .slice b.p b.l b.c, .bool b.m, .slice b.p2 b.l2 b.c2]
    have kb2 := ((FR1.out.ext E2.out)).own o1 nR1_R0
    have hs2 : Own2 w.heap.size R1 wr ((wr.drew.setCells w.heap.size 0 (#[.bool a.n, .slice a.p a.l a.c, .bool a.m, .slice a.p2 a.l2 a.c2] : Array Value).toList).setCells R1 0 (#[.bool b.n, .slice b.p b.l b.c, .bool b.m, .slice b.p2 b.l2 b.c2] : Array Value).toList) := ⟨_, Own.then_ext' E2.out o1, o2⟩
    refine mO 3 (bs 4 15) #[.bool b.n, .slice b.p b.l b.c, .bool b.m, .slice b.p2 b.l2 b.c2] kb2 (by rw [show (#[.bool b.n, .slice b.p b.l b.c, .bool b.m, .slice b.p2 b.l2 b.c2] : Array Value).size = 4 from rfl]; rfl) (by rw [show (#[.bool b.n, .slice b.p b.l b.c, .bool b.m, .slice b.p2 b.l2 b.c2] : Array Value).size = 4 from rfl]; kernel_rfl) (all_oneCell_toArray (by simp [Value.oneCell'])) hs2 ?_
    (try simp only [Act.put])
    have kc2 := kb2.setCells #[.bool b.n, .slice b.p b.l b.c, .bool b.m, .slice b.p2 b.l2 b.c2] (by rw [show (#[.bool b.n, .slice b.p b.l b.c, .bool b.m, .slice b.p2 b.l2 b.c2] : Array Value).size = 4 from rfl]; rfl)
    refine wpAnyH_done (by kernel_rfl) ?_ _
    go_wp2_with fail
    have kd1 := kc1.own o2 nR0_R1
    refine bodyPost_ret (v := .tuple #[.agg #[.bool a.n, .slice a.p a.l a.c, .bool a.m, .slice a.p2 a.l2 a.c2], .agg #[.bool b.n, .slice b.p b.l b.c, .bool b.m, .slice b.p2 b.l2 b.c2]]) ?_ rfl ⟨_, _, rfl, ⟨a, rfl, (((Fa.out.ext E2.out).own kb1 (noU_of _ (by simp)) o1).own kb2 (noU_of _ (by simp)) o2)⟩, ⟨b, rfl, (((Fb.out.ext E2.out).own kb1 (noU_of _ (by simp)) o1).own kb2 (noU_of _ (by simp)) o2)⟩, (o2.ext (o1.ext (tr E1 E2).out gR0) gR1)⟩
    exact results_cell2 rfl rfl rfl (kd1.loadVar rfl rfl rfl) (kc2.loadVar rfl rfl rfl)

end Go.Proofs.YtllpkoinjompcaaGreat

namespace Go.Proofs.YtllpkoinjompcaaGreat
open Go.RowKit
attribute [local go_sem ↓] Go.wp_at_zero Go.wp_at_succ run_max_ii run_min_ii

theorem infoRat : (Tryz.prog.info? 26).map (fun i => (i.zero, i.size, i.bytes)) = some (some (.agg z4), 4, 64) := by kernel_rfl
theorem noUL_z : NoUL (Value.agg z4).cells.toList := by intro x hx k; simp [Value.cells] at hx; rcases hx with rfl | rfl | rfl | rfl <;> simp
def prods (ws xs : List Rat) : List Rat := (List.range ws.length).map fun i => ws.getD i 0 * xs.getD i 0
theorem prods_length (ws xs : List Rat) : (prods ws xs).length = ws.length := by simp [prods]
theorem prods_get (ws xs : List Rat) (i : Nat) (h : i < ws.length) : (prods ws xs).getD i 0 = ws.getD i 0 * xs.getD i 0 := by
  simp [prods, List.getD, h]
theorem getD_snoc_lt (rs : List RV) (a : RV) (j : Nat) (h : j < rs.length) : (rs ++ [a]).getD j RV.zero = rs.getD j RV.zero := by simp [List.getD, List.getElem?_append_left h]
theorem getD_snoc_eq (rs : List RV) (a : RV) : (rs ++ [a]).getD rs.length RV.zero = a := by simp [List.getD]
theorem four_new (w : World) (a b c d : Value) (t : TypeId) : ∀ (j : Nat) (u : Value), [a, b, c, d][j]? = some u → (w.alloc (.cells #[a, b, c, d] t)).cell? ((⟨w.heap.size, 0, none⟩ : Addr).add j) = some u := by
  intro j u hj
  match j, hj with
  | 0, hj => simp at hj; subst hj; simp [Addr.add]
  | 1, hj => simp at hj; subst hj; simp [Addr.add]
  | 2, hj => simp at hj; subst hj; simp [Addr.add]
  | 3, hj => simp at hj; subst hj; simp [Addr.add]

set_option maxRecDepth 20000 in
set_option maxHeartbeats 4000000 in
theorem rweighted_any (L : Nat) (u v : Value) (ws xs : List Rat) (w : World) (hu : RatsV L w u ws) (hv : RatsV L w v xs) (hlen : ws.length = xs.length) (hn : ws.length ≤ 20) (h1 : 1 ≤ L) (hL : L ≤ 500) :
    Calls Tryz.prog 38 #[u, v] w (RetV (sumTo (prods ws xs) ws.length) w) := by
  obtain ⟨A, ca, ps, rfl, hpl, hpin, hpc⟩ := hu
  obtain ⟨B, cb, qs, rfl, hql, hqin, hqc⟩ := hv
  have HP := zH (And.intro hpin hpc)
  have HQ := zH (And.intro hqin hqc)
  have HPL := zH hpl
  have HQL := zH hql
  clear hpin hpc hqin hqc hpl hql
  obtain ⟨i0, hi, hz0, hz1, hz2⟩ := info_parts infoRat
  have HI := zH (And.intro hi (And.intro hz0 (And.intro hz1 hz2)))
  clear hi hz0 hz1 hz2
  go_enter Tryz.func38, Tryz.ntmps38
  go_wp2_with fail
  have hrow : RowN ((w.alloc (.cells z4 26)).alloc (.cells #[] 26)) (w.heap.size + 1) 26 4 (.slice (some ⟨w.heap.size + 1, 0, none⟩) 0 0) 0 (rvCells []) := by
    have h := RowN.empty (w.alloc (.cells z4 26)) (w.heap.size + 1) 26 4 (by simp)
    simpa [rvCells] using h
  have hR : Blk ((w.alloc (.cells z4 26)).alloc (.cells #[] 26)) w.heap.size 26 z4 := (Blk.new _ _ _).alloc _
  have hE0 : Ext w ((w.alloc (.cells z4 26)).alloc (.cells #[] 26)) := ((Ext.refl _).alloc _).alloc _
  go_loopw [5, 6] (fun v i wr => ∃ k : Nat, k ≤ ws.length ∧ i = .int .i64 k ∧ ∃ rs : List RV, rs.length = k ∧ RowN wr (w.heap.size + 1) 26 4 v k (rvCells rs) ∧ (∀ j, j < k → (rs.getD j RV.zero).Is wr (ws.getD j 0 * xs.getD j 0)) ∧ Blk wr w.heap.size 26 z4 ∧ Ext w wr ∧ w.heap.size + 1 ≤ wr.heap.size) (fun _ i _ => ws.length - (intOf i).toNat)
  case atStart => exact ⟨0, Nat.zero_le _, rfl, [], rfl, hrow, fun j hj => by omega, hR, hE0, by simp⟩
  case round =>
    clear hrow hR hE0
    obtain ⟨k, hk, rfl, rs, hrs, hrow, his, hR, hE, hsz⟩ := hrel
    have HROW := zH hrow
    have HIS := zH his
    have HR := zH hR
    have HE := zH hE
    have HSZ := zH hsz
    clear hrow his hR hE hsz
    by_cases hlt : k < ws.length
    · obtain ⟨g1, o1, rfl, hp⟩ := HP.out.2 (by omega)
      obtain ⟨g2, o2, rfl, hq⟩ := HQ.out.2 (by omega)
      have hlt2 : k < xs.length := by omega
      have HRA := zH (hp k hlt)
      have HRB := zH (hq k hlt2)
      have HMUL := zH (fun W (x : Ext w W) => x3mul (L := L) ((HP.out.1 k hlt).ext x) ((HQ.out.1 k hlt2).ext x) (by omega))
      generalize hga : ps.getD k RV.zero = ra at *
      generalize hgb : qs.getD k RV.zero = rb at *
      clear hp hq hga hgb
      go_upto_region 5 with fail
      have b0 : (0 : Int) ≤ (k : Int) := by omega
      have b1 : (k : Int) < (ws.length : Int) := by omega
      have b2 : (k : Int) < (xs.length : Int) := by omega
      refine wp_region_held_drew (S := fun x => Ext w x) (by kernel_rfl) HE.out.drew (fun hH => ?_)
      have HS0 := zH (show Ext w wr.drew from HE.out.drew)
      refine mV 0 (bs 13 1) HS0.out ?_
      (try simp only [Act.put, zA, zB, zC])
      refine mV 1 (bs 13 3) HS0.out ?_
      (try simp only [Act.put, zA, zB, zC])
      refine mV 2 (bs 13 7) HS0.out ?_
      (try simp only [Act.put, zA, zB, zC])
      refine mV 3 (bs 13 15) HS0.out ?_
      refine mR 4 (bs 13 31) g1 (o1 + k * 4) [.bool ra.n, .slice ra.p ra.l ra.c, .bool ra.m, .slice ra.p2 ra.l2 ra.c2] (fun x hx => range_ext HRA.out hx) Tryz.underlying26 HS0.out ?_
      (try simp only [Act.put, zA, zB, zC])
      refine mV 5 (bs 13 63) HS0.out ?_
      (try simp only [Act.put, zA, zB, zC])
      refine mV 6 (bs 13 127) HS0.out ?_
      (try simp only [Act.put, zA, zB, zC])
      refine mV 7 (bs 13 255) HS0.out ?_
      refine mR 8 (bs 13 511) g2 (o2 + k * 4) [.bool rb.n, .slice rb.p rb.l rb.c, .bool rb.m, .slice rb.p2 rb.l2 rb.c2] (fun x hx => range_ext HRB.out hx) Tryz.underlying26 HS0.out ?_
      (try simp only [Act.put, zA, zB, zC])
      refine mC 9 (bs 13 1023) (HMUL.out _ HS0.out) ?_
      rintro e w2 ⟨c, rfl, hc, he⟩
      have he2 : Ext wr w2 := (Ext.drew (Ext.refl _)).trans he
      have HS2 := zH (HE.out.trans he2)
      refine ⟨_, rfl, HS2.out, ?_⟩
      (try simp only [Act.put, zA, zB, zC])
      refine mU 10 (bs 13 2047) (v := .slice (some ⟨w2.heap.size, 0, none⟩) 1 1) (w' := w2.alloc (.cells #[.bool c.n, .slice c.p c.l c.c, .bool c.m, .slice c.p2 c.l2 c.c2] 26)) (HS2.out.alloc _) ?_
      (try simp only [Act.put, zA, zB, zC])
      have hrow2 := (HROW.out.ext he2).alloc' (.cells #[.bool c.n, .slice c.p c.l c.c, .bool c.m, .slice c.p2 c.l2 c.c2] 26)
      have hsz2 := he2.size
      have hsz3 := HSZ.out
      refine md_append (j := 11) (listed' := (bs 13 4095)) (by rfl) (by kernel_rfl) (by rfl) _ _ 64 (by rfl) (w.heap.size + 1) 26 i0 _ 4 64 Tryz.underlying64 HI.out.1 HI.out.2.1 HI.out.2.2.1 HI.out.2.2.2 rfl (by decide) noUL_z _ k (rvCells rs) (by rfl) hrow2 ⟨w2.heap.size, 0, none⟩ 1 1 [.bool c.n, .slice c.p c.l c.c, .bool c.m, .slice c.p2 c.l2 c.c2] (by rfl) rfl (four_new _ _ _ _ _ _) (one_rv c) (noUL_one c) (by decide) (by unfold maxLen; omega) (by omega) (by simp; omega) (by kernel_rfl) ?_
      intro g cap w3 h2 h3 h4
      have hE3 : Ext w w3 := (HS2.out.alloc _).grown h3 (fun j hj => Nat.le_trans (Nat.le_succ _) (hrow2.block j hj))
      have HM := zH (And.intro h2 (And.intro (show ∀ j, j < k + 1 → ((rs ++ [c]).getD j RV.zero).Is w3 (ws.getD j 0 * xs.getD j 0) from fun j hj => by
        rcases Nat.lt_or_ge j k with hjk | hjk
        · rw [getD_snoc_lt _ _ _ (by omega)]
          exact h4 _ _ (((HIS.out j hjk).ext he2).ext ((Ext.refl _).alloc _))
        · obtain rfl : j = k := by omega
          rw [← hrs, getD_snoc_eq, hrs]
          exact h4 _ _ (hc.ext ((Ext.refl _).alloc _))) (And.intro (((HR.out.ext he2).alloc _).grown h3 (fun e => by have := hrow2.block _ e; omega)) (And.intro hE3 (show w.heap.size + 1 ≤ w3.heap.size by have := h3.size; simp at this; omega)))))
      refine ⟨hE3, ?_⟩
      (try simp only [Act.put, zA, zB, zC])
      clear h2 h3 h4 hrow2
      refine mU 12 (bs 13 8191) (v := .slice (some ⟨g, 0, none⟩) (k + 1) cap) (w' := w3) hE3 ?_
      (try simp only [Act.put, zA, zB, zC])
      refine wpAnyH_done (by kernel_rfl) ?_ _
      clear hE3 he he2 hc hH
      go_wp2_with fail
      go_roundw
      case rel => exact ⟨k + 1, hlt, by go_num, rs ++ [c], by simp [hrs], by rw [rvCells_snoc]; exact HM.out.1, HM.out.2.1, HM.out.2.2.1, HM.out.2.2.2.1, HM.out.2.2.2.2⟩
      case measure => simp [intOf]; omega
    · obtain rfl : k = ws.length := by omega
      have HV := zH (RatsV.of_row (L := 2 * L) (qs := prods ws xs) (rs := rs) (by rw [hrs]; exact HROW.out) (by rw [prods_length, hrs]) (fun j hj => by
        rw [prods_length] at hj
        rw [prods_get _ _ _ hj]
        refine (HIS.out j hj).isIn ?_
        have h1 := Nm.rl_mul (ws.getD j 0) (xs.getD j 0)
        have h2 := (HP.out.1 j hj).rl
        have h3 := (HQ.out.1 j (by omega)).rl
        omega))
      go_wp2_with fail
      refine (rsum_any (2 * L) _ _ _ HV.out (by rw [prods_length]; omega) (by omega) (by omega)).mono ?_
      rw [prods_length]
      rintro e w2 ⟨c, rfl, hc, he⟩
      have bR := HR.out.ext he
      have y0 := bR.cell 0
      have y1 := bR.cell 1
      have y2 := bR.cell 2
      have y3 := bR.cell 3
      simp at y0 y1 y2 y3
      have z0 := bR.frozen 0
      have z1 := bR.frozen 1
      have z2 := bR.frozen 2
      have z3 := bR.frozen 3
      have o := ((((Own.refl w.heap.size w2).set_at 0 none (.bool c.n)).set_at 1 none (.slice c.p c.l c.c)).set_at 2 none (.bool c.m)).set_at 3 none (.slice c.p2 c.l2 c.c2)
      have HM := zH (And.intro (hc.own bR (noU4 _ _ _ _ _ _ _ _) o) (o.ext (HE.out.trans he) (Nat.le_refl _)))
      clear o bR hc he
      go_wp2_with fail
      refine bodyPost_ret (v := .agg #[.bool c.n, .slice c.p c.l c.c, .bool c.m, .slice c.p2 c.l2 c.c2]) ?_ rfl ⟨c, rfl, HM.out.1, HM.out.2⟩
      simp [results, Tryz.results38, go_sem, *]
end Go.Proofs.YtllpkoinjompcaaGreat
