/- Contracts that the claim stands on: XExE to XMove. -/
import Derived.Test.YtllpkoinjompcaaGreatM3
namespace Go.Proofs.YtllpkoinjompcaaGreat
open Go.RowKit
attribute [local go_sem ↓] Go.wp_at_zero Go.wp_at_succ run_max_ii run_min_ii

theorem noU32 : NoU #[.bool false, .slice none 0 0, .bool false, .slice none 0 0, .bool false, .slice none 0 0, .bool false, .slice none 0 0, .bool false, .slice none 0 0, .bool false, .slice none 0 0, .bool false, .slice none 0 0, .bool false, .slice none 0 0, .bool false, .slice none 0 0, .bool false, .slice none 0 0, .bool false, .slice none 0 0, .bool false, .slice none 0 0, .bool false, .slice none 0 0, .bool false, .slice none 0 0, .bool false, .slice none 0 0, .bool false, .slice none 0 0] := noU_of _ (by simp)
def RetSC (x1 y1 x2 y2 x3 y3 x4 y4 u1 v1 u2 v2 u3 v3 u4 v4 : Rat) (w : World) (e : Ending) (w' : World) : Prop :=
  ∃ a b c d f g h i j k l m n o p q : RV, e = .returned (.tuple #[.agg #[.bool a.n, .slice a.p a.l a.c, .bool a.m, .slice a.p2 a.l2 a.c2, .bool b.n, .slice b.p b.l b.c, .bool b.m, .slice b.p2 b.l2 b.c2, .bool c.n, .slice c.p c.l c.c, .bool c.m, .slice c.p2 c.l2 c.c2, .bool d.n, .slice d.p d.l d.c, .bool d.m, .slice d.p2 d.l2 d.c2, .bool f.n, .slice f.p f.l f.c, .bool f.m, .slice f.p2 f.l2 f.c2, .bool g.n, .slice g.p g.l g.c, .bool g.m, .slice g.p2 g.l2 g.c2, .bool h.n, .slice h.p h.l h.c, .bool h.m, .slice h.p2 h.l2 h.c2, .bool i.n, .slice i.p i.l i.c, .bool i.m, .slice i.p2 i.l2 i.c2], .agg #[.bool j.n, .slice j.p j.l j.c, .bool j.m, .slice j.p2 j.l2 j.c2, .bool k.n, .slice k.p k.l k.c, .bool k.m, .slice k.p2 k.l2 k.c2, .bool l.n, .slice l.p l.l l.c, .bool l.m, .slice l.p2 l.l2 l.c2, .bool m.n, .slice m.p m.l m.c, .bool m.m, .slice m.p2 m.l2 m.c2, .bool n.n, .slice n.p n.l n.c, .bool n.m, .slice n.p2 n.l2 n.c2, .bool o.n, .slice o.p o.l o.c, .bool o.m, .slice o.p2 o.l2 o.c2, .bool p.n, .slice p.p p.l p.c, .bool p.m, .slice p.p2 p.l2 p.c2, .bool q.n, .slice q.p q.l q.c, .bool q.m, .slice q.p2 q.l2 q.c2]]) ∧
    (a.Is w' x1 ∧ b.Is w' y1 ∧ c.Is w' x2 ∧ d.Is w' y2 ∧ f.Is w' x3 ∧ g.Is w' y3 ∧ h.Is w' x4 ∧ i.Is w' y4) ∧ (j.Is w' u1 ∧ k.Is w' v1 ∧ l.Is w' u2 ∧ m.Is w' v2 ∧ n.Is w' u3 ∧ o.Is w' v3 ∧ p.Is w' u4 ∧ q.Is w' v4) ∧ Ext w w'

set_option maxRecDepth 20000 in
set_option maxHeartbeats 8000000 in
theorem splitCubic_any (a0 a1 b0 b1 c0 c1 d0 d1 t : RV) (L : Nat) (A0 A1 B0 B1 C0 C1 D0 D1 S : Rat) (w : World) (hA0 : a0.In L w A0) (hA1 : a1.In L w A1) (hB0 : b0.In L w B0) (hB1 : b1.In L w B1) (hC0 : c0.In L w C0) (hC1 : c1.In L w C1) (hD0 : d0.In L w D0) (hD1 : d1.In L w D1) (hS : t.In L w S) (h1 : 1 ≤ L) (hL : L ≤ 200) :
      Calls Tryz.prog 11 #[.agg #[.bool a0.n, .slice a0.p a0.l a0.c, .bool a0.m, .slice a0.p2 a0.l2 a0.c2, .bool a1.n, .slice a1.p a1.l a1.c, .bool a1.m, .slice a1.p2 a1.l2 a1.c2, .bool b0.n, .slice b0.p b0.l b0.c, .bool b0.m, .slice b0.p2 b0.l2 b0.c2, .bool b1.n, .slice b1.p b1.l b1.c, .bool b1.m, .slice b1.p2 b1.l2 b1.c2, .bool c0.n, .slice c0.p c0.l c0.c, .bool c0.m, .slice c0.p2 c0.l2 c0.c2, .bool c1.n, .slice c1.p c1.l c1.c, .bool c1.m, .slice c1.p2 c1.l2 c1.c2, .bool d0.n, .slice d0.p d0.l d0.c, .bool d0.m, .slice d0.p2 d0.l2 d0.c2, .bool d1.n, .slice d1.p d1.l d1.c, .bool d1.m, .slice d1.p2 d1.l2 d1.c2], .agg #[.bool t.n, .slice t.p t.l t.c, .bool t.m, .slice t.p2 t.l2 t.c2]] w (RetSC A0 A1 (lerpV A0 B0 S) (lerpV A1 B1 S) (lerpV (lerpV A0 B0 S) (lerpV B0 C0 S) S) (lerpV (lerpV A1 B1 S) (lerpV B1 C1 S) S) (lerpV (lerpV (lerpV A0 B0 S) (lerpV B0 C0 S) S) (lerpV (lerpV B0 C0 S) (lerpV C0 D0 S) S) S) (lerpV (lerpV (lerpV A1 B1 S) (lerpV B1 C1 S) S) (lerpV (lerpV B1 C1 S) (lerpV C1 D1 S) S) S) (lerpV (lerpV (lerpV A0 B0 S) (lerpV B0 C0 S) S) (lerpV (lerpV B0 C0 S) (lerpV C0 D0 S) S) S) (lerpV (lerpV (lerpV A1 B1 S) (lerpV B1 C1 S) S) (lerpV (lerpV B1 C1 S) (lerpV C1 D1 S) S) S) (lerpV (lerpV B0 C0 S) (lerpV C0 D0 S) S) (lerpV (lerpV B1 C1 S) (lerpV C1 D1 S) S) (lerpV C0 D0 S) (lerpV C1 D1 S) D0 D1 w) := by
  have q00 := rl_lerpV (a := A0) (b := B0) (t := S) (L := L) (by have := hA0.rl; omega) (by have := hB0.rl; omega) (by have := hS.rl; omega)
  have q01 := rl_lerpV (a := A1) (b := B1) (t := S) (L := L) (by have := hA1.rl; omega) (by have := hB1.rl; omega) (by have := hS.rl; omega)
  have q10 := rl_lerpV (a := B0) (b := C0) (t := S) (L := L) (by have := hB0.rl; omega) (by have := hC0.rl; omega) (by have := hS.rl; omega)
  have q11 := rl_lerpV (a := B1) (b := C1) (t := S) (L := L) (by have := hB1.rl; omega) (by have := hC1.rl; omega) (by have := hS.rl; omega)
  have q20 := rl_lerpV (a := C0) (b := D0) (t := S) (L := L) (by have := hC0.rl; omega) (by have := hD0.rl; omega) (by have := hS.rl; omega)
  have q21 := rl_lerpV (a := C1) (b := D1) (t := S) (L := L) (by have := hC1.rl; omega) (by have := hD1.rl; omega) (by have := hS.rl; omega)
  have r00 := rl_lerpV (a := (lerpV A0 B0 S)) (b := (lerpV B0 C0 S)) (t := S) (L := 4 * L + 2) q00 q10 (by have := hS.rl; omega)
  have r01 := rl_lerpV (a := (lerpV A1 B1 S)) (b := (lerpV B1 C1 S)) (t := S) (L := 4 * L + 2) q01 q11 (by have := hS.rl; omega)
  have r10 := rl_lerpV (a := (lerpV B0 C0 S)) (b := (lerpV C0 D0 S)) (t := S) (L := 4 * L + 2) q10 q20 (by have := hS.rl; omega)
  have r11 := rl_lerpV (a := (lerpV B1 C1 S)) (b := (lerpV C1 D1 S)) (t := S) (L := 4 * L + 2) q11 q21 (by have := hS.rl; omega)
  have s0 := rl_lerpV (a := (lerpV (lerpV A0 B0 S) (lerpV B0 C0 S) S)) (b := (lerpV (lerpV B0 C0 S) (lerpV C0 D0 S) S)) (t := S) (L := 4 * (4 * L + 2) + 2) r00 r10 (by have := hS.rl; omega)
  have s1 := rl_lerpV (a := (lerpV (lerpV A1 B1 S) (lerpV B1 C1 S) S)) (b := (lerpV (lerpV B1 C1 S) (lerpV C1 D1 S) S)) (t := S) (L := 4 * (4 * L + 2) + 2) r01 r11 (by have := hS.rl; omega)
  have H1 := zH (fun W (x : Ext w W) => mix_any a0 a1 b0 b1 t L A0 A1 B0 B1 S W (hA0.ext x) (hA1.ext x) (hB0.ext x) (hB1.ext x) (hS.ext x) h1 (by omega))
  have H2 := zH (fun W (x : Ext w W) => mix_any b0 b1 c0 c1 t L B0 B1 C0 C1 S W (hB0.ext x) (hB1.ext x) (hC0.ext x) (hC1.ext x) (hS.ext x) h1 (by omega))
  have H3 := zH (fun W (x : Ext w W) => mix_any c0 c1 d0 d1 t L C0 C1 D0 D1 S W (hC0.ext x) (hC1.ext x) (hD0.ext x) (hD1.ext x) (hS.ext x) h1 (by omega))
  have H4 := zH (fun W (x : Ext w W) (e0 e1 f0 f1 : RV) (k0 : e0.Is W (lerpV A0 B0 S)) (k1 : e1.Is W (lerpV A1 B1 S)) (k2 : f0.Is W (lerpV B0 C0 S)) (k3 : f1.Is W (lerpV B1 C1 S)) => mix_any e0 e1 f0 f1 t (4 * L + 2) _ _ _ _ S W (k0.isIn q00) (k1.isIn q01) (k2.isIn q10) (k3.isIn q11) ((hS.ext x).mono (by omega)) (by omega) (by omega))
  have H5 := zH (fun W (x : Ext w W) (e0 e1 f0 f1 : RV) (k0 : e0.Is W (lerpV B0 C0 S)) (k1 : e1.Is W (lerpV B1 C1 S)) (k2 : f0.Is W (lerpV C0 D0 S)) (k3 : f1.Is W (lerpV C1 D1 S)) => mix_any e0 e1 f0 f1 t (4 * L + 2) _ _ _ _ S W (k0.isIn q10) (k1.isIn q11) (k2.isIn q20) (k3.isIn q21) ((hS.ext x).mono (by omega)) (by omega) (by omega))
  have H6 := zH (fun W (x : Ext w W) (e0 e1 f0 f1 : RV) (k0 : e0.Is W (lerpV (lerpV A0 B0 S) (lerpV B0 C0 S) S)) (k1 : e1.Is W (lerpV (lerpV A1 B1 S) (lerpV B1 C1 S) S)) (k2 : f0.Is W (lerpV (lerpV B0 C0 S) (lerpV C0 D0 S) S)) (k3 : f1.Is W (lerpV (lerpV B1 C1 S) (lerpV C1 D1 S) S)) => mix_any e0 e1 f0 f1 t (4 * (4 * L + 2) + 2) _ _ _ _ S W (k0.isIn r00) (k1.isIn r01) (k2.isIn r10) (k3.isIn r11) ((hS.ext x).mono (by omega)) (by omega) (by omega))
  have HR1 := zH (fun W (x : Ext w W) => reduced_any a0 a1 L A0 A1 W (hA0.ext x) (hA1.ext x) (by omega))
  have HR2 := zH (fun W (g0 g1 : RV) (k0 : g0.Is W (lerpV (lerpV (lerpV A0 B0 S) (lerpV B0 C0 S) S) (lerpV (lerpV B0 C0 S) (lerpV C0 D0 S) S) S)) (k1 : g1.Is W (lerpV (lerpV (lerpV A1 B1 S) (lerpV B1 C1 S) S) (lerpV (lerpV B1 C1 S) (lerpV C1 D1 S) S) S)) => reduced_any g0 g1 (4 * (4 * (4 * L + 2) + 2) + 2) _ _ W (k0.isIn s0) (k1.isIn s1) (by omega))
  have HR3 := zH (fun W (x : Ext w W) => reduced_any d0 d1 L D0 D1 W (hD0.ext x) (hD1.ext x) (by omega))
  clear hA0 hA1 hB0 hB1 hC0 hC1 hD0 hD1 hS q00 q01 q10 q11 q20 q21 r00 r01 r10 r11 s0 s1
  go_enter Tryz.func11, Tryz.ntmps11
  go_wp2_with fail
  have bx0 : Blk ((((w.alloc (.cells #[.bool a0.n, .slice a0.p a0.l a0.c, .bool a0.m, .slice a0.p2 a0.l2 a0.c2, .bool a1.n, .slice a1.p a1.l a1.c, .bool a1.m, .slice a1.p2 a1.l2 a1.c2, .bool b0.n, .slice b0.p b0.l b0.c, .bool b0.m, .slice b0.p2 b0.l2 b0.c2, .bool b1.n, .slice b1.p b1.l b1.c, .bool b1.m, .slice b1.p2 b1.l2 b1.c2, .bool c0.n, .slice c0.p c0.l c0.c, .bool c0.m, .slice c0.p2 c0.l2 c0.c2, .bool c1.n, .slice c1.p c1.l c1.c, .bool c1.m, .slice c1.p2 c1.l2 c1.c2, .bool d0.n, .slice d0.p d0.l d0.c, .bool d0.m, .slice d0.p2 d0.l2 d0.c2, .bool d1.n, .slice d1.p d1.l d1.c, .bool d1.m, .slice d1.p2 d1.l2 d1.c2] 28)).alloc (.cells #[.bool t.n, .slice t.p t.l t.c, .bool t.m, .slice t.p2 t.l2 t.c2] 26)).alloc (.cells #[.bool RV.zero.n, .slice RV.zero.p RV.zero.l RV.zero.c, .bool RV.zero.m, .slice RV.zero.p2 RV.zero.l2 RV.zero.c2, .bool RV.zero.n, .slice RV.zero.p RV.zero.l RV.zero.c, .bool RV.zero.m, .slice RV.zero.p2 RV.zero.l2 RV.zero.c2, .bool RV.zero.n, .slice RV.zero.p RV.zero.l RV.zero.c, .bool RV.zero.m, .slice RV.zero.p2 RV.zero.l2 RV.zero.c2, .bool RV.zero.n, .slice RV.zero.p RV.zero.l RV.zero.c, .bool RV.zero.m, .slice RV.zero.p2 RV.zero.l2 RV.zero.c2, .bool RV.zero.n, .slice RV.zero.p RV.zero.l RV.zero.c, .bool RV.zero.m, .slice RV.zero.p2 RV.zero.l2 RV.zero.c2, .bool RV.zero.n, .slice RV.zero.p RV.zero.l RV.zero.c, .bool RV.zero.m, .slice RV.zero.p2 RV.zero.l2 RV.zero.c2, .bool RV.zero.n, .slice RV.zero.p RV.zero.l RV.zero.c, .bool RV.zero.m, .slice RV.zero.p2 RV.zero.l2 RV.zero.c2, .bool RV.zero.n, .slice RV.zero.p RV.zero.l RV.zero.c, .bool RV.zero.m, .slice RV.zero.p2 RV.zero.l2 RV.zero.c2] 28)).alloc (.cells #[.bool RV.zero.n, .slice RV.zero.p RV.zero.l RV.zero.c, .bool RV.zero.m, .slice RV.zero.p2 RV.zero.l2 RV.zero.c2, .bool RV.zero.n, .slice RV.zero.p RV.zero.l RV.zero.c, .bool RV.zero.m, .slice RV.zero.p2 RV.zero.l2 RV.zero.c2, .bool RV.zero.n, .slice RV.zero.p RV.zero.l RV.zero.c, .bool RV.zero.m, .slice RV.zero.p2 RV.zero.l2 RV.zero.c2, .bool RV.zero.n, .slice RV.zero.p RV.zero.l RV.zero.c, .bool RV.zero.m, .slice RV.zero.p2 RV.zero.l2 RV.zero.c2, .bool RV.zero.n, .slice RV.zero.p RV.zero.l RV.zero.c, .bool RV.zero.m, .slice RV.zero.p2 RV.zero.l2 RV.zero.c2, .bool RV.zero.n, .slice RV.zero.p RV.zero.l RV.zero.c, .bool RV.zero.m, .slice RV.zero.p2 RV.zero.l2 RV.zero.c2, .bool RV.zero.n, .slice RV.zero.p RV.zero.l RV.zero.c, .bool RV.zero.m, .slice RV.zero.p2 RV.zero.l2 RV.zero.c2, .bool RV.zero.n, .slice RV.zero.p RV.zero.l RV.zero.c, .bool RV.zero.m, .slice RV.zero.p2 RV.zero.l2 RV.zero.c2] 28)) (w.heap.size) 28 #[.bool a0.n, .slice a0.p a0.l a0.c, .bool a0.m, .slice a0.p2 a0.l2 a0.c2, .bool a1.n, .slice a1.p a1.l a1.c, .bool a1.m, .slice a1.p2 a1.l2 a1.c2, .bool b0.n, .slice b0.p b0.l b0.c, .bool b0.m, .slice b0.p2 b0.l2 b0.c2, .bool b1.n, .slice b1.p b1.l b1.c, .bool b1.m, .slice b1.p2 b1.l2 b1.c2, .bool c0.n, .slice c0.p c0.l c0.c, .bool c0.m, .slice c0.p2 c0.l2 c0.c2, .bool c1.n, .slice c1.p c1.l c1.c, .bool c1.m, .slice c1.p2 c1.l2 c1.c2, .bool d0.n, .slice d0.p d0.l d0.c, .bool d0.m, .slice d0.p2 d0.l2 d0.c2, .bool d1.n, .slice d1.p d1.l d1.c, .bool d1.m, .slice d1.p2 d1.l2 d1.c2] := Blk.ext (Blk.new_at w _ (by simp) _ _) ((((Ext.refl _).alloc _).alloc _).alloc _)
  have bx1 : Blk ((((w.alloc (.cells #[.bool a0.n, .slice a0.p a0.l a0.c, .bool a0.m, .slice a0.p2 a0.l2 a0.c2, .bool a1.n, .slice a1.p a1.l a1.c, .bool a1.m, .slice a1.p2 a1.l2 a1.c2, .bool b0.n, .slice b0.p b0.l b0.c, .bool b0.m, .slice b0.p2 b0.l2 b0.c2, .bool b1.n, .slice b1.p b1.l b1.c, .bool b1.m, .slice b1.p2 b1.l2 b1.c2, .bool c0.n, .slice c0.p c0.l c0.c, .bool c0.m, .slice c0.p2 c0.l2 c0.c2, .bool c1.n, .slice c1.p c1.l c1.c, .bool c1.m, .slice c1.p2 c1.l2 c1.c2, .bool d0.n, .slice d0.p d0.l d0.c, .bool d0.m, .slice d0.p2 d0.l2 d0.c2, .bool d1.n, .slice d1.p d1.l d1.c, .bool d1.m, .slice d1.p2 d1.l2 d1.c2] 28)).alloc (.cells #[.bool t.n, .slice t.p t.l t.c, .bool t.m, .slice t.p2 t.l2 t.c2] 26)).alloc (.cells #[.bool RV.zero.n, .slice RV.zero.p RV.zero.l RV.zero.c, .bool RV.zero.m, .slice RV.zero.p2 RV.zero.l2 RV.zero.c2, .bool RV.zero.n, .slice RV.zero.p RV.zero.l RV.zero.c, .bool RV.zero.m, .slice RV.zero.p2 RV.zero.l2 RV.zero.c2, .bool RV.zero.n, .slice RV.zero.p RV.zero.l RV.zero.c, .bool RV.zero.m, .slice RV.zero.p2 RV.zero.l2 RV.zero.c2, .bool RV.zero.n, .slice RV.zero.p RV.zero.l RV.zero.c, .bool RV.zero.m, .slice RV.zero.p2 RV.zero.l2 RV.zero.c2, .bool RV.zero.n, .slice RV.zero.p RV.zero.l RV.zero.c, .bool RV.zero.m, .slice RV.zero.p2 RV.zero.l2 RV.zero.c2, .bool RV.zero.n, .slice RV.zero.p RV.zero.l RV.zero.c, .bool RV.zero.m, .slice RV.zero.p2 RV.zero.l2 RV.zero.c2, .bool RV.zero.n, .slice RV.zero.p RV.zero.l RV.zero.c, .bool RV.zero.m, .slice RV.zero.p2 RV.zero.l2 RV.zero.c2, .bool RV.zero.n, .slice RV.zero.p RV.zero.l RV.zero.c, .bool RV.zero.m, .slice RV.zero.p2 RV.zero.l2 RV.zero.c2] 28)).alloc (.cells #[.bool RV.zero.n, .slice RV.zero.p RV.zero.l RV.zero.c, .bool RV.zero.m, .slice RV.zero.p2 RV.zero.l2 RV.zero.c2, .bool RV.zero.n, .slice RV.zero.p RV.zero.l RV.zero.c, .bool RV.zero.m, .slice RV.zero.p2 RV.zero.l2 RV.zero.c2, .bool RV.zero.n, .slice RV.zero.p RV.zero.l RV.zero.c, .bool RV.zero.m, .slice RV.zero.p2 RV.zero.l2 RV.zero.c2, .bool RV.zero.n, .slice RV.zero.p RV.zero.l RV.zero.c, .bool RV.zero.m, .slice RV.zero.p2 RV.zero.l2 RV.zero.c2, .bool RV.zero.n, .slice RV.zero.p RV.zero.l RV.zero.c, .bool RV.zero.m, .slice RV.zero.p2 RV.zero.l2 RV.zero.c2, .bool RV.zero.n, .slice RV.zero.p RV.zero.l RV.zero.c, .bool RV.zero.m, .slice RV.zero.p2 RV.zero.l2 RV.zero.c2, .bool RV.zero.n, .slice RV.zero.p RV.zero.l RV.zero.c, .bool RV.zero.m, .slice RV.zero.p2 RV.zero.l2 RV.zero.c2, .bool RV.zero.n, .slice RV.zero.p RV.zero.l RV.zero.c, .bool RV.zero.m, .slice RV.zero.p2 RV.zero.l2 RV.zero.c2] 28)) (w.heap.size + 1) 26 #[.bool t.n, .slice t.p t.l t.c, .bool t.m, .slice t.p2 t.l2 t.c2] := Blk.ext (Blk.new_at (w.alloc (.cells #[.bool a0.n, .slice a0.p a0.l a0.c, .bool a0.m, .slice a0.p2 a0.l2 a0.c2, .bool a1.n, .slice a1.p a1.l a1.c, .bool a1.m, .slice a1.p2 a1.l2 a1.c2, .bool b0.n, .slice b0.p b0.l b0.c, .bool b0.m, .slice b0.p2 b0.l2 b0.c2, .bool b1.n, .slice b1.p b1.l b1.c, .bool b1.m, .slice b1.p2 b1.l2 b1.c2, .bool c0.n, .slice c0.p c0.l c0.c, .bool c0.m, .slice c0.p2 c0.l2 c0.c2, .bool c1.n, .slice c1.p c1.l c1.c, .bool c1.m, .slice c1.p2 c1.l2 c1.c2, .bool d0.n, .slice d0.p d0.l d0.c, .bool d0.m, .slice d0.p2 d0.l2 d0.c2, .bool d1.n, .slice d1.p d1.l d1.c, .bool d1.m, .slice d1.p2 d1.l2 d1.c2] 28)) _ (by simp) _ _) (((Ext.refl _).alloc _).alloc _)
  have bx2 : Blk ((((w.alloc (.cells #[.bool a0.n, .slice a0.p a0.l a0.c, .bool a0.m, .slice a0.p2 a0.l2 a0.c2, .bool a1.n, .slice a1.p a1.l a1.c, .bool a1.m, .slice a1.p2 a1.l2 a1.c2, .bool b0.n, .slice b0.p b0.l b0.c, .bool b0.m, .slice b0.p2 b0.l2 b0.c2, .bool b1.n, .slice b1.p b1.l b1.c, .bool b1.m, .slice b1.p2 b1.l2 b1.c2, .bool c0.n, .slice c0.p c0.l c0.c, .bool c0.m, .slice c0.p2 c0.l2 c0.c2, .bool c1.n, .slice c1.p c1.l c1.c, .bool c1.m, .slice c1.p2 c1.l2 c1.c2, .bool d0.n, .slice d0.p d0.l d0.c, .bool d0.m, .slice d0.p2 d0.l2 d0.c2, .bool d1.n, .slice d1.p d1.l d1.c, .bool d1.m, .slice d1.p2 d1.l2 d1.c2] 28)).alloc (.cells #[.bool t.n, .slice t.p t.l t.c, .bool t.m, .slice t.p2 t.l2 t.c2] 26)).alloc (.cells #[.bool RV.zero.n, .slice RV.zero.p RV.zero.l RV.zero.c, .bool RV.zero.m, .slice RV.zero.p2 RV.zero.l2 RV.zero.c2, .bool RV.zero.n, .slice RV.zero.p RV.zero.l RV.zero.c, .bool RV.zero.m, .slice RV.zero.p2 RV.zero.l2 RV.zero.c2, .bool RV.zero.n, .slice RV.zero.p RV.zero.l RV.zero.c, .bool RV.zero.m, .slice RV.zero.p2 RV.zero.l2 RV.zero.c2, .bool RV.zero.n, .slice RV.zero.p RV.zero.l RV.zero.c, .bool RV.zero.m, .slice RV.zero.p2 RV.zero.l2 RV.zero.c2, .bool RV.zero.n, .slice RV.zero.p RV.zero.l RV.zero.c, .bool RV.zero.m, .slice RV.zero.p2 RV.zero.l2 RV.zero.c2, .bool RV.zero.n, .slice RV.zero.p RV.zero.l RV.zero.c, .bool RV.zero.m, .slice RV.zero.p2 RV.zero.l2 RV.zero.c2, .bool RV.zero.n, .slice RV.zero.p RV.zero.l RV.zero.c, .bool RV.zero.m, .slice RV.zero.p2 RV.zero.l2 RV.zero.c2, .bool RV.zero.n, .slice RV.zero.p RV.zero.l RV.zero.c, .bool RV.zero.m, .slice RV.zero.p2 RV.zero.l2 RV.zero.c2] 28)).alloc (.cells #[.bool RV.zero.n, .slice RV.zero.p RV.zero.l RV.zero.c, .bool RV.zero.m, .slice RV.zero.p2 RV.zero.l2 RV.zero.c2, .bool RV.zero.n, .slice RV.zero.p RV.zero.l RV.zero.c, .bool RV.zero.m, .slice RV.zero.p2 RV.zero.l2 RV.zero.c2, .bool RV.zero.n, .slice RV.zero.p RV.zero.l RV.zero.c, .bool RV.zero.m, .slice RV.zero.p2 RV.zero.l2 RV.zero.c2, .bool RV.zero.n, .slice RV.zero.p RV.zero.l RV.zero.c, .bool RV.zero.m, .slice RV.zero.p2 RV.zero.l2 RV.zero.c2, .bool RV.zero.n, .slice RV.zero.p RV.zero.l RV.zero.c, .bool RV.zero.m, .slice RV.zero.p2 RV.zero.l2 RV.zero.c2, .bool RV.zero.n, .slice RV.zero.p RV.zero.l RV.zero.c, .bool RV.zero.m, .slice RV.zero.p2 RV.zero.l2 RV.zero.c2, .bool RV.zero.n, .slice RV.zero.p RV.zero.l RV.zero.c, .bool RV.zero.m, .slice RV.zero.p2 RV.zero.l2 RV.zero.c2, .bool RV.zero.n, .slice RV.zero.p RV.zero.l RV.zero.c, .bool RV.zero.m, .slice RV.zero.p2 RV.zero.l2 RV.zero.c2] 28)) (w.heap.size + 1 + 1) 28 #[.bool RV.zero.n, .slice RV.zero.p RV.zero.l RV.zero.c, .bool RV.zero.m, .slice RV.zero.p2 RV.zero.l2 RV.zero.c2, .bool RV.zero.n, .slice RV.zero.p RV.zero.l RV.zero.c, .bool RV.zero.m, .slice RV.zero.p2 RV.zero.l2 RV.zero.c2, .bool RV.zero.n, .slice RV.zero.p RV.zero.l RV.zero.c, .bool RV.zero.m, .slice RV.zero.p2 RV.zero.l2 RV.zero.c2, .bool RV.zero.n, .slice RV.zero.p RV.zero.l RV.zero.c, .bool RV.zero.m, .slice RV.zero.p2 RV.zero.l2 RV.zero.c2, .bool RV.zero.n, .slice RV.zero.p RV.zero.l RV.zero.c, .bool RV.zero.m, .slice RV.zero.p2 RV.zero.l2 RV.zero.c2, .bool RV.zero.n, .slice RV.zero.p RV.zero.l RV.zero.c, .bool RV.zero.m, .slice RV.zero.p2 RV.zero.l2 RV.zero.c2, .bool RV.zero.n, .slice RV.zero.p RV.zero.l RV.zero.c, .bool RV.zero.m, .slice RV.zero.p2 RV.zero.l2 RV.zero.c2, .bool RV.zero.n, .slice RV.zero.p RV.zero.l RV.zero.c, .bool RV.zero.m, .slice RV.zero.p2 RV.zero.l2 RV.zero.c2] := Blk.ext (Blk.new_at ((w.alloc (.cells #[.bool a0.n, .slice a0.p a0.l a0.c, .bool a0.m, .slice a0.p2 a0.l2 a0.c2, .bool a1.n, .slice a1.p a1.l a1.c, .bool a1.m, .slice a1.p2 a1.l2 a1.c2, .bool b0.n, .slice b0.p b0.l b0.c, .bool b0.m, .slice b0.p2 b0.l2 b0.c2, .bool b1.n, .slice b1.p b1.l b1.c, .bool b1.m, .slice b1.p2 b1.l2 b1.c2, .bool c0.n, .slice c0.p c0.l c0.c, .bool c0.m, .slice c0.p2 c0.l2 c0.c2, .bool c1.n, .slice c1.p c1.l c1.c, .bool c1.m, .slice c1.p2 c1.l2 c1.c2, .bool d0.n, .slice d0.p d0.l d0.c, .bool d0.m, .slice d0.p2 d0.l2 d0.c2, .bool d1.n, .slice d1.p d1.l d1.c, .bool d1.m, .slice d1.p2 d1.l2 d1.c2] 28)).alloc (.cells #[.bool t.n, .slice t.p t.l t.c, .bool t.m, .slice t.p2 t.l2 t.c2] 26)) _ (by simp) _ _) ((Ext.refl _).alloc _)
  have bx3 : Blk ((((w.alloc (.cells #[.bool a0.n, .slice a0.p a0.l a0.c, .bool a0.m, .slice a0.p2 a0.l2 a0.c2, .bool a1.n, .slice a1.p a1.l a1.c, .bool a1.m, .slice a1.p2 a1.l2 a1.c2, .bool b0.n, .slice b0.p b0.l b0.c, .bool b0.m, .slice b0.p2 b0.l2 b0.c2, .bool b1.n, .slice b1.p b1.l b1.c, .bool b1.m, .slice b1.p2 b1.l2 b1.c2, .bool c0.n, .slice c0.p c0.l c0.c, .bool c0.m, .slice c0.p2 c0.l2 c0.c2, .bool c1.n, .slice c1.p c1.l c1.c, .bool c1.m, .slice c1.p2 c1.l2 c1.c2, .bool d0.n, .slice d0.p d0.l d0.c, .bool d0.m, .slice d0.p2 d0.l2 d0.c2, .bool d1.n, .slice d1.p d1.l d1.c, .bool d1.m, .slice d1.p2 d1.l2 d1.c2] 28)).alloc (.cells #[.bool t.n, .slice t.p t.l t.c, .bool t.m, .slice t.p2 t.l2 t.c2] 26)).alloc (.cells #[.bool RV.zero.n, .slice RV.zero.p RV.zero.l RV.zero.c, .bool RV.zero.m, .slice RV.zero.p2 RV.zero.l2 RV.zero.c2, .bool RV.zero.n, .slice RV.zero.p RV.zero.l RV.zero.c, .bool RV.zero.m, .slice RV.zero.p2 RV.zero.l2 RV.zero.c2, .bool RV.zero.n, .slice RV.zero.p RV.zero.l RV.zero.c, .bool RV.zero.m, .slice RV.zero.p2 RV.zero.l2 RV.zero.c2, .bool RV.zero.n, .slice RV.zero.p RV.zero.l RV.zero.c, .bool RV.zero.m, .slice RV.zero.p2 RV.zero.l2 RV.zero.c2, .bool RV.zero.n, .slice RV.zero.p RV.zero.l RV.zero.c, .bool RV.zero.m, .slice RV.zero.p2 RV.zero.l2 RV.zero.c2, .bool RV.zero.n, .slice RV.zero.p RV.zero.l RV.zero.c, .bool RV.zero.m, .slice RV.zero.p2 RV.zero.l2 RV.zero.c2, .bool RV.zero.n, .slice RV.zero.p RV.zero.l RV.zero.c, .bool RV.zero.m, .slice RV.zero.p2 RV.zero.l2 RV.zero.c2, .bool RV.zero.n, .slice RV.zero.p RV.zero.l RV.zero.c, .bool RV.zero.m, .slice RV.zero.p2 RV.zero.l2 RV.zero.c2] 28)).alloc (.cells #[.bool RV.zero.n, .slice RV.zero.p RV.zero.l RV.zero.c, .bool RV.zero.m, .slice RV.zero.p2 RV.zero.l2 RV.zero.c2, .bool RV.zero.n, .slice RV.zero.p RV.zero.l RV.zero.c, .bool RV.zero.m, .slice RV.zero.p2 RV.zero.l2 RV.zero.c2, .bool RV.zero.n, .slice RV.zero.p RV.zero.l RV.zero.c, .bool RV.zero.m, .slice RV.zero.p2 RV.zero.l2 RV.zero.c2, .bool RV.zero.n, .slice RV.zero.p RV.zero.l RV.zero.c, .bool RV.zero.m, .slice RV.zero.p2 RV.zero.l2 RV.zero.c2, .bool RV.zero.n, .slice RV.zero.p RV.zero.l RV.zero.c, .bool RV.zero.m, .slice RV.zero.p2 RV.zero.l2 RV.zero.c2, .bool RV.zero.n, .slice RV.zero.p RV.zero.l RV.zero.c, .bool RV.zero.m, .slice RV.zero.p2 RV.zero.l2 RV.zero.c2, .bool RV.zero.n, .slice RV.zero.p RV.zero.l RV.zero.c, .bool RV.zero.m, .slice RV.zero.p2 RV.zero.l2 RV.zero.c2, .bool RV.zero.n, .slice RV.zero.p RV.zero.l RV.zero.c, .bool RV.zero.m, .slice RV.zero.p2 RV.zero.l2 RV.zero.c2] 28)) (w.heap.size + 1 + 1 + 1) 28 #[.bool RV.zero.n, .slice RV.zero.p RV.zero.l RV.zero.c, .bool RV.zero.m, .slice RV.zero.p2 RV.zero.l2 RV.zero.c2, .bool RV.zero.n, .slice RV.zero.p RV.zero.l RV.zero.c, .bool RV.zero.m, .slice RV.zero.p2 RV.zero.l2 RV.zero.c2, .bool RV.zero.n, .slice RV.zero.p RV.zero.l RV.zero.c, .bool RV.zero.m, .slice RV.zero.p2 RV.zero.l2 RV.zero.c2, .bool RV.zero.n, .slice RV.zero.p RV.zero.l RV.zero.c, .bool RV.zero.m, .slice RV.zero.p2 RV.zero.l2 RV.zero.c2, .bool RV.zero.n, .slice RV.zero.p RV.zero.l RV.zero.c, .bool RV.zero.m, .slice RV.zero.p2 RV.zero.l2 RV.zero.c2, .bool RV.zero.n, .slice RV.zero.p RV.zero.l RV.zero.c, .bool RV.zero.m, .slice RV.zero.p2 RV.zero.l2 RV.zero.c2, .bool RV.zero.n, .slice RV.zero.p RV.zero.l RV.zero.c, .bool RV.zero.m, .slice RV.zero.p2 RV.zero.l2 RV.zero.c2, .bool RV.zero.n, .slice RV.zero.p RV.zero.l RV.zero.c, .bool RV.zero.m, .slice RV.zero.p2 RV.zero.l2 RV.zero.c2] := Blk.ext (Blk.new_at (((w.alloc (.cells #[.bool a0.n, .slice a0.p a0.l a0.c, .bool a0.m, .slice a0.p2 a0.l2 a0.c2, .bool a1.n, .slice a1.p a1.l a1.c, .bool a1.m, .slice a1.p2 a1.l2 a1.c2, .bool b0.n, .slice b0.p b0.l b0.c, .bool b0.m, .slice b0.p2 b0.l2 b0.c2, .bool b1.n, .slice b1.p b1.l b1.c, .bool b1.m, .slice b1.p2 b1.l2 b1.c2, .bool c0.n, .slice c0.p c0.l c0.c, .bool c0.m, .slice c0.p2 c0.l2 c0.c2, .bool c1.n, .slice c1.p c1.l c1.c, .bool c1.m, .slice c1.p2 c1.l2 c1.c2, .bool d0.n, .slice d0.p d0.l d0.c, .bool d0.m, .slice d0.p2 d0.l2 d0.c2, .bool d1.n, .slice d1.p d1.l d1.c, .bool d1.m, .slice d1.p2 d1.l2 d1.c2] 28)).alloc (.cells #[.bool t.n, .slice t.p t.l t.c, .bool t.m, .slice t.p2 t.l2 t.c2] 26)).alloc (.cells #[.bool RV.zero.n, .slice RV.zero.p RV.zero.l RV.zero.c, .bool RV.zero.m, .slice RV.zero.p2 RV.zero.l2 RV.zero.c2, .bool RV.zero.n, .slice RV.zero.p RV.zero.l RV.zero.c, .bool RV.zero.m, .slice RV.zero.p2 RV.zero.l2 RV.zero.c2, .bool RV.zero.n, .slice RV.zero.p RV.zero.l RV.zero.c, .bool RV.zero.m, .slice RV.zero.p2 RV.zero.l2 RV.zero.c2, .bool RV.zero.n, .slice RV.zero.p RV.zero.l RV.zero.c, .bool RV.zero.m, .slice RV.zero.p2 RV.zero.l2 RV.zero.c2, .bool RV.zero.n, .slice RV.zero.p RV.zero.l RV.zero.c, .bool RV.zero.m, .slice RV.zero.p2 RV.zero.l2 RV.zero.c2, .bool RV.zero.n, .slice RV.zero.p RV.zero.l RV.zero.c, .bool RV.zero.m, .slice RV.zero.p2 RV.zero.l2 RV.zero.c2, .bool RV.zero.n, .slice RV.zero.p RV.zero.l RV.zero.c, .bool RV.zero.m, .slice RV.zero.p2 RV.zero.l2 RV.zero.c2, .bool RV.zero.n, .slice RV.zero.p RV.zero.l RV.zero.c, .bool RV.zero.m, .slice RV.zero.p2 RV.zero.l2 RV.zero.c2] 28)) _ (by simp) _ _) (Ext.refl _)
  have hE : Ext w ((((w.alloc (.cells #[.bool a0.n, .slice a0.p a0.l a0.c, .bool a0.m, .slice a0.p2 a0.l2 a0.c2, .bool a1.n, .slice a1.p a1.l a1.c, .bool a1.m, .slice a1.p2 a1.l2 a1.c2, .bool b0.n, .slice b0.p b0.l b0.c, .bool b0.m, .slice b0.p2 b0.l2 b0.c2, .bool b1.n, .slice b1.p b1.l b1.c, .bool b1.m, .slice b1.p2 b1.l2 b1.c2, .bool c0.n, .slice c0.p c0.l c0.c, .bool c0.m, .slice c0.p2 c0.l2 c0.c2, .bool c1.n, .slice c1.p c1.l c1.c, .bool c1.m, .slice c1.p2 c1.l2 c1.c2, .bool d0.n, .slice d0.p d0.l d0.c, .bool d0.m, .slice d0.p2 d0.l2 d0.c2, .bool d1.n, .slice d1.p d1.l d1.c, .bool d1.m, .slice d1.p2 d1.l2 d1.c2] 28)).alloc (.cells #[.bool t.n, .slice t.p t.l t.c, .bool t.m, .slice t.p2 t.l2 t.c2] 26)).alloc (.cells #[.bool RV.zero.n, .slice RV.zero.p RV.zero.l RV.zero.c, .bool RV.zero.m, .slice RV.zero.p2 RV.zero.l2 RV.zero.c2, .bool RV.zero.n, .slice RV.zero.p RV.zero.l RV.zero.c, .bool RV.zero.m, .slice RV.zero.p2 RV.zero.l2 RV.zero.c2, .bool RV.zero.n, .slice RV.zero.p RV.zero.l RV.zero.c, .bool RV.zero.m, .slice RV.zero.p2 RV.zero.l2 RV.zero.c2, .bool RV.zero.n, .slice RV.zero.p RV.zero.l RV.zero.c, .bool RV.zero.m, .slice RV.zero.p2 RV.zero.l2 RV.zero.c2, .bool RV.zero.n, .slice RV.zero.p RV.zero.l RV.zero.c, .bool RV.zero.m, .slice RV.zero.p2 RV.zero.l2 RV.zero.c2, .bool RV.zero.n, .slice RV.zero.p RV.zero.l RV.zero.c, .bool RV.zero.m, .slice RV.zero.p2 RV.zero.l2 RV.zero.c2, .bool RV.zero.n, .slice RV.zero.p RV.zero.l RV.zero.c, .bool RV.zero.m, .slice RV.zero.p2 RV.zero.l2 RV.zero.c2, .bool RV.zero.n, .slice RV.zero.p RV.zero.l RV.zero.c, .bool RV.zero.m, .slice RV.zero.p2 RV.zero.l2 RV.zero.c2] 28)).alloc (.cells #[.bool RV.zero.n, .slice RV.zero.p RV.zero.l RV.zero.c, .bool RV.zero.m, .slice RV.zero.p2 RV.zero.l2 RV.zero.c2, .bool RV.zero.n, .slice RV.zero.p RV.zero.l RV.zero.c, .bool RV.zero.m, .slice RV.zero.p2 RV.zero.l2 RV.zero.c2, .bool RV.zero.n, .slice RV.zero.p RV.zero.l RV.zero.c, .bool RV.zero.m, .slice RV.zero.p2 RV.zero.l2 RV.zero.c2, .bool RV.zero.n, .slice RV.zero.p RV.zero.l RV.zero.c, .bool RV.zero.m, .slice RV.zero.p2 RV.zero.l2 RV.zero.c2, .bool RV.zero.n, .slice RV.zero.p RV.zero.l RV.zero.c, .bool RV.zero.m, .slice RV.zero.p2 RV.zero.l2 RV.zero.c2, .bool RV.zero.n, .slice RV.zero.p RV.zero.l RV.zero.c, .bool RV.zero.m, .slice RV.zero.p2 RV.zero.l2 RV.zero.c2, .bool RV.zero.n, .slice RV.zero.p RV.zero.l RV.zero.c, .bool RV.zero.m, .slice RV.zero.p2 RV.zero.l2 RV.zero.c2, .bool RV.zero.n, .slice RV.zero.p RV.zero.l RV.zero.c, .bool RV.zero.m, .slice RV.zero.p2 RV.zero.l2 RV.zero.c2] 28)) := (((((Ext.refl _).alloc _).alloc _).alloc _).alloc _)
  have hz : ((((w.alloc (.cells #[.bool a0.n, .slice a0.p a0.l a0.c, .bool a0.m, .slice a0.p2 a0.l2 a0.c2, .bool a1.n, .slice a1.p a1.l a1.c, .bool a1.m, .slice a1.p2 a1.l2 a1.c2, .bool b0.n, .slice b0.p b0.l b0.c, .bool b0.m, .slice b0.p2 b0.l2 b0.c2, .bool b1.n, .slice b1.p b1.l b1.c, .bool b1.m, .slice b1.p2 b1.l2 b1.c2, .bool c0.n, .slice c0.p c0.l c0.c, .bool c0.m, .slice c0.p2 c0.l2 c0.c2, .bool c1.n, .slice c1.p c1.l c1.c, .bool c1.m, .slice c1.p2 c1.l2 c1.c2, .bool d0.n, .slice d0.p d0.l d0.c, .bool d0.m, .slice d0.p2 d0.l2 d0.c2, .bool d1.n, .slice d1.p d1.l d1.c, .bool d1.m, .slice d1.p2 d1.l2 d1.c2] 28)).alloc (.cells #[.bool t.n, .slice t.p t.l t.c, .bool t.m, .slice t.p2 t.l2 t.c2] 26)).alloc (.cells #[.bool RV.zero.n, .slice RV.zero.p RV.zero.l RV.zero.c, .bool RV.zero.m, .slice RV.zero.p2 RV.zero.l2 RV.zero.c2, .bool RV.zero.n, .slice RV.zero.p RV.zero.l RV.zero.c, .bool RV.zero.m, .slice RV.zero.p2 RV.zero.l2 RV.zero.c2, .bool RV.zero.n, .slice RV.zero.p RV.zero.l RV.zero.c, .bool RV.zero.m, .slice RV.zero.p2 RV.zero.l2 RV.zero.c2, .bool RV.zero.n, .slice RV.zero.p RV.zero.l RV.zero.c, .bool RV.zero.m, .slice RV.zero.p2 RV.zero.l2 RV.zero.c2, .bool RV.zero.n, .slice RV.zero.p RV.zero.l RV.zero.c, .bool RV.zero.m, .slice RV.zero.p2 RV.zero.l2 RV.zero.c2, .bool RV.zero.n, .slice RV.zero.p RV.zero.l RV.zero.c, .bool RV.zero.m, .slice RV.zero.p2 RV.zero.l2 RV.zero.c2, .bool RV.zero.n, .slice RV.zero.p RV.zero.l RV.zero.c, .bool RV.zero.m, .slice RV.zero.p2 RV.zero.l2 RV.zero.c2, .bool RV.zero.n, .slice RV.zero.p RV.zero.l RV.zero.c, .bool RV.zero.m, .slice RV.zero.p2 RV.zero.l2 RV.zero.c2] 28)).alloc (.cells #[.bool RV.zero.n, .slice RV.zero.p RV.zero.l RV.zero.c, .bool RV.zero.m, .slice RV.zero.p2 RV.zero.l2 RV.zero.c2, .bool RV.zero.n, .slice RV.zero.p RV.zero.l RV.zero.c, .bool RV.zero.m, .slice RV.zero.p2 RV.zero.l2 RV.zero.c2, .bool RV.zero.n, .slice RV.zero.p RV.zero.l RV.zero.c, .bool RV.zero.m, .slice RV.zero.p2 RV.zero.l2 RV.zero.c2, .bool RV.zero.n, .slice RV.zero.p RV.zero.l RV.zero.c, .bool RV.zero.m, .slice RV.zero.p2 RV.zero.l2 RV.zero.c2, .bool RV.zero.n, .slice RV.zero.p RV.zero.l RV.zero.c, .bool RV.zero.m, .slice RV.zero.p2 RV.zero.l2 RV.zero.c2, .bool RV.zero.n, .slice RV.zero.p RV.zero.l RV.zero.c, .bool RV.zero.m, .slice RV.zero.p2 RV.zero.l2 RV.zero.c2, .bool RV.zero.n, .slice RV.zero.p RV.zero.l RV.zero.c, .bool RV.zero.m, .slice RV.zero.p2 RV.zero.l2 RV.zero.c2, .bool RV.zero.n, .slice RV.zero.p RV.zero.l RV.zero.c, .bool RV.zero.m, .slice RV.zero.p2 RV.zero.l2 RV.zero.c2] 28)).heap.size = w.heap.size + 1 + 1 + 1 + 1 := by simp
  obtain ⟨wa, hwa⟩ : ∃ wa, wa = ((((w.alloc (.cells #[.bool a0.n, .slice a0.p a0.l a0.c, .bool a0.m, .slice a0.p2 a0.l2 a0.c2, .bool a1.n, .slice a1.p a1.l a1.c, .bool a1.m, .slice a1.p2 a1.l2 a1.c2, .bool b0.n, .slice b0.p b0.l b0.c, .bool b0.m, .slice b0.p2 b0.l2 b0.c2, .bool b1.n, .slice b1.p b1.l b1.c, .bool b1.m, .slice b1.p2 b1.l2 b1.c2, .bool c0.n, .slice c0.p c0.l c0.c, .bool c0.m, .slice c0.p2 c0.l2 c0.c2, .bool c1.n, .slice c1.p c1.l c1.c, .bool c1.m, .slice c1.p2 c1.l2 c1.c2, .bool d0.n, .slice d0.p d0.l d0.c, .bool d0.m, .slice d0.p2 d0.l2 d0.c2, .bool d1.n, .slice d1.p d1.l d1.c, .bool d1.m, .slice d1.p2 d1.l2 d1.c2] 28)).alloc (.cells #[.bool t.n, .slice t.p t.l t.c, .bool t.m, .slice t.p2 t.l2 t.c2] 26)).alloc (.cells #[.bool RV.zero.n, .slice RV.zero.p RV.zero.l RV.zero.c, .bool RV.zero.m, .slice RV.zero.p2 RV.zero.l2 RV.zero.c2, .bool RV.zero.n, .slice RV.zero.p RV.zero.l RV.zero.c, .bool RV.zero.m, .slice RV.zero.p2 RV.zero.l2 RV.zero.c2, .bool RV.zero.n, .slice RV.zero.p RV.zero.l RV.zero.c, .bool RV.zero.m, .slice RV.zero.p2 RV.zero.l2 RV.zero.c2, .bool RV.zero.n, .slice RV.zero.p RV.zero.l RV.zero.c, .bool RV.zero.m, .slice RV.zero.p2 RV.zero.l2 RV.zero.c2, .bool RV.zero.n, .slice RV.zero.p RV.zero.l RV.zero.c, .bool RV.zero.m, .slice RV.zero.p2 RV.zero.l2 RV.zero.c2, .bool RV.zero.n, .slice RV.zero.p RV.zero.l RV.zero.c, .bool RV.zero.m, .slice RV.zero.p2 RV.zero.l2 RV.zero.c2, .bool RV.zero.n, .slice RV.zero.p RV.zero.l RV.zero.c, .bool RV.zero.m, .slice RV.zero.p2 RV.zero.l2 RV.zero.c2, .bool RV.zero.n, .slice RV.zero.p RV.zero.l RV.zero.c, .bool RV.zero.m, .slice RV.zero.p2 RV.zero.l2 RV.zero.c2] 28)).alloc (.cells #[.bool RV.zero.n, .slice RV.zero.p RV.zero.l RV.zero.c, .bool RV.zero.m, .slice RV.zero.p2 RV.zero.l2 RV.zero.c2, .bool RV.zero.n, .slice RV.zero.p RV.zero.l RV.zero.c, .bool RV.zero.m, .slice RV.zero.p2 RV.zero.l2 RV.zero.c2, .bool RV.zero.n, .slice RV.zero.p RV.zero.l RV.zero.c, .bool RV.zero.m, .slice RV.zero.p2 RV.zero.l2 RV.zero.c2, .bool RV.zero.n, .slice RV.zero.p RV.zero.l RV.zero.c, .bool RV.zero.m, .slice RV.zero.p2 RV.zero.l2 RV.zero.c2, .bool RV.zero.n, .slice RV.zero.p RV.zero.l RV.zero.c, .bool RV.zero.m, .slice RV.zero.p2 RV.zero.l2 RV.zero.c2, .bool RV.zero.n, .slice RV.zero.p RV.zero.l RV.zero.c, .bool RV.zero.m, .slice RV.zero.p2 RV.zero.l2 RV.zero.c2, .bool RV.zero.n, .slice RV.zero.p RV.zero.l RV.zero.c, .bool RV.zero.m, .slice RV.zero.p2 RV.zero.l2 RV.zero.c2, .bool RV.zero.n, .slice RV.zero.p RV.zero.l RV.zero.c, .bool RV.zero.m, .slice RV.zero.p2 RV.zero.l2 RV.zero.c2] 28)) := ⟨_, rfl⟩
  have hwa2 := hwa
  simp only [RV.zero] at hwa2
  rw [← hwa] at hE hz bx0 bx1 bx2 bx3
  rw [← hwa2]
  have HE := zH hE
  clear hwa hwa2 hE
  have HB := zH (And.intro bx0 (And.intro bx1 (And.intro bx2 bx3)))
  clear bx0 bx1 bx2 bx3
  have hlt : w.heap.size < w.heap.size + 1 + 1 ∧ w.heap.size + 1 < w.heap.size + 1 + 1 ∧ w.heap.size + 1 + 1 < w.heap.size + 1 + 1 + 1 ∧ w.heap.size + 1 + 1 + 1 < w.heap.size + 1 + 1 + 1 + 1 := by omega
  generalize hR2 : w.heap.size + 1 + 1 + 1 = R2 at *
  generalize hR : w.heap.size + 1 + 1 = R at *
  generalize hB : w.heap.size + 1 = BB at *
  generalize hA : w.heap.size = BA at *
  have HLT := zH hlt
  have HZ := zH hz
  have HAA := zH hA
  clear hR2 hR hB hA hlt hz
  have gl : ∀ x, Ext wa x → x.cell? ⟨BA, 0, none⟩ = some (.bool a0.n) ∧ x.cell? ⟨BA, 1, none⟩ = some (.slice a0.p a0.l a0.c) ∧ x.cell? ⟨BA, 2, none⟩ = some (.bool a0.m) ∧ x.cell? ⟨BA, 3, none⟩ = some (.slice a0.p2 a0.l2 a0.c2) ∧ x.cell? ⟨BA, 4, none⟩ = some (.bool a1.n) ∧ x.cell? ⟨BA, 5, none⟩ = some (.slice a1.p a1.l a1.c) ∧ x.cell? ⟨BA, 6, none⟩ = some (.bool a1.m) ∧ x.cell? ⟨BA, 7, none⟩ = some (.slice a1.p2 a1.l2 a1.c2) ∧ x.cell? ⟨BA, 8, none⟩ = some (.bool b0.n) ∧ x.cell? ⟨BA, 9, none⟩ = some (.slice b0.p b0.l b0.c) ∧ x.cell? ⟨BA, 10, none⟩ = some (.bool b0.m) ∧ x.cell? ⟨BA, 11, none⟩ = some (.slice b0.p2 b0.l2 b0.c2) ∧ x.cell? ⟨BA, 12, none⟩ = some (.bool b1.n) ∧ x.cell? ⟨BA, 13, none⟩ = some (.slice b1.p b1.l b1.c) ∧ x.cell? ⟨BA, 14, none⟩ = some (.bool b1.m) ∧ x.cell? ⟨BA, 15, none⟩ = some (.slice b1.p2 b1.l2 b1.c2) ∧ x.cell? ⟨BA, 16, none⟩ = some (.bool c0.n) ∧ x.cell? ⟨BA, 17, none⟩ = some (.slice c0.p c0.l c0.c) ∧ x.cell? ⟨BA, 18, none⟩ = some (.bool c0.m) ∧ x.cell? ⟨BA, 19, none⟩ = some (.slice c0.p2 c0.l2 c0.c2) ∧ x.cell? ⟨BA, 20, none⟩ = some (.bool c1.n) ∧ x.cell? ⟨BA, 21, none⟩ = some (.slice c1.p c1.l c1.c) ∧ x.cell? ⟨BA, 22, none⟩ = some (.bool c1.m) ∧ x.cell? ⟨BA, 23, none⟩ = some (.slice c1.p2 c1.l2 c1.c2) ∧ x.cell? ⟨BA, 24, none⟩ = some (.bool d0.n) ∧ x.cell? ⟨BA, 25, none⟩ = some (.slice d0.p d0.l d0.c) ∧ x.cell? ⟨BA, 26, none⟩ = some (.bool d0.m) ∧ x.cell? ⟨BA, 27, none⟩ = some (.slice d0.p2 d0.l2 d0.c2) ∧ x.cell? ⟨BA, 28, none⟩ = some (.bool d1.n) ∧ x.cell? ⟨BA, 29, none⟩ = some (.slice d1.p d1.l d1.c) ∧ x.cell? ⟨BA, 30, none⟩ = some (.bool d1.m) ∧ x.cell? ⟨BA, 31, none⟩ = some (.slice d1.p2 d1.l2 d1.c2) ∧ x.cell? ⟨BB, 0, none⟩ = some (.bool t.n) ∧ x.cell? ⟨BB, 1, none⟩ = some (.slice t.p t.l t.c) ∧ x.cell? ⟨BB, 2, none⟩ = some (.bool t.m) ∧ x.cell? ⟨BB, 3, none⟩ = some (.slice t.p2 t.l2 t.c2) := fun x h => by
    have k0 := HB.out.1.ext h
    have k1 := HB.out.2.1.ext h
    exact ⟨k0.cell 0, k0.cell 1, k0.cell 2, k0.cell 3, k0.cell 4, k0.cell 5, k0.cell 6, k0.cell 7, k0.cell 8, k0.cell 9, k0.cell 10, k0.cell 11, k0.cell 12, k0.cell 13, k0.cell 14, k0.cell 15, k0.cell 16, k0.cell 17, k0.cell 18, k0.cell 19, k0.cell 20, k0.cell 21, k0.cell 22, k0.cell 23, k0.cell 24, k0.cell 25, k0.cell 26, k0.cell 27, k0.cell 28, k0.cell 29, k0.cell 30, k0.cell 31, k1.cell 0, k1.cell 1, k1.cell 2, k1.cell 3⟩
  refine wp_region_held_drew (S := fun x => Ext wa x) (by kernel_rfl) (Ext.refl _).drew (fun hHt => ?_)
  refine wpAnyH_take_l (i := 0) (v := ?vt_0) rfl (by kernel_rfl) (by kernel_rfl) (by kernel_rfl) (fun _ _ _ h => h) (Or.inl ⟨by rfl, ?yt_0⟩) (by assumption) ?rt_0
  case yt_0 => (intro w hSw; (try dsimp only at hSw); go_simp <;> with_reducible rfl)
  (try simp only [Act.put, zA, zB, zC])
  refine wpAnyH_take_l (i := 1) (v := ?vt_1) rfl (by kernel_rfl) (by kernel_rfl) (by kernel_rfl) (fun _ _ _ h => h) (Or.inl ⟨by rfl, ?yt_1⟩) (by assumption) ?rt_1
  case yt_1 => (intro w hSw; (try dsimp only at hSw); go_simp <;> with_reducible rfl)
  (try simp only [Act.put, zA, zB, zC])
  refine wpAnyH_take_l (i := 2) (v := ?vt_2) rfl (by kernel_rfl) (by kernel_rfl) (by kernel_rfl) (fun _ _ _ h => h) (Or.inl ⟨by rfl, ?yt_2⟩) (by assumption) ?rt_2
  case yt_2 => (intro w hSw; (try dsimp only at hSw); go_simp <;> with_reducible rfl)
  (try simp only [Act.put, zA, zB, zC])
  refine wpAnyH_take_l (i := 3) (v := ?vt_3) rfl (by kernel_rfl) (by kernel_rfl) (by kernel_rfl) (fun _ _ _ h => h) (Or.inl ⟨by rfl, ?yt_3⟩) (by assumption) ?rt_3
  case yt_3 => (intro w hSw; (try dsimp only at hSw); go_simp <;> with_reducible rfl)
  (try simp only [Act.put, zA, zB, zC])
  refine wpAnyH_take_l (i := 4) (v := ?vt_4) rfl (by kernel_rfl) (by kernel_rfl) (by kernel_rfl) (fun _ _ _ h => h) (Or.inl ⟨by rfl, ?yt_4⟩) (by assumption) ?rt_4
  case yt_4 => (intro w hSw; (try dsimp only at hSw); go_simp <;> with_reducible rfl)
  (try simp only [Act.put, zA, zB, zC])
  refine wpAnyH_take_l (i := 6) (v := ?vt_6) rfl (by kernel_rfl) (by kernel_rfl) (by kernel_rfl) (fun _ _ _ h => h) (Or.inl ⟨by rfl, ?yt_6⟩) (by assumption) ?rt_6
  case yt_6 => (intro w hSw; (try dsimp only at hSw); go_simp <;> with_reducible rfl)
  (try simp only [Act.put, zA, zB, zC])
  refine wpAnyH_take_l (i := 7) (v := ?vt_7) rfl (by kernel_rfl) (by kernel_rfl) (by kernel_rfl) (fun _ _ _ h => h) (Or.inl ⟨by rfl, ?yt_7⟩) (by assumption) ?rt_7
  case yt_7 => (intro w hSw; (try dsimp only at hSw); go_simp <;> with_reducible rfl)
  (try simp only [Act.put, zA, zB, zC])
  refine wpAnyH_take_l (i := 8) (v := ?vt_8) rfl (by kernel_rfl) (by kernel_rfl) (by kernel_rfl) (fun _ _ _ h => h) (Or.inl ⟨by rfl, ?yt_8⟩) (by assumption) ?rt_8
  case yt_8 => (intro w hSw; (try dsimp only at hSw); go_simp <;> with_reducible rfl)
  (try simp only [Act.put, zA, zB, zC])
  refine wpAnyH_take_l (i := 9) (v := ?vt_9) rfl (by kernel_rfl) (by kernel_rfl) (by kernel_rfl) (fun _ _ _ h => h) (Or.inl ⟨by rfl, ?yt_9⟩) (by assumption) ?rt_9
  case yt_9 => (intro w hSw; (try dsimp only at hSw); go_simp <;> with_reducible rfl)
  (try simp only [Act.put, zA, zB, zC])
  refine wpAnyH_take_l (i := 10) (v := ?vt_10) rfl (by kernel_rfl) (by kernel_rfl) (by kernel_rfl) (fun _ _ _ h => h) (Or.inl ⟨by rfl, ?yt_10⟩) (by assumption) ?rt_10
  case yt_10 => (intro w hSw; (try dsimp only at hSw); go_simp <;> with_reducible rfl)
  (try simp only [Act.put, zA, zB, zC])
  refine wpAnyH_take_l (i := 12) (v := ?vt_12) rfl (by kernel_rfl) (by kernel_rfl) (by kernel_rfl) (fun _ _ _ h => h) (Or.inl ⟨by rfl, ?yt_12⟩) (by assumption) ?rt_12
  case yt_12 => (intro w hSw; (try dsimp only at hSw); go_simp <;> with_reducible rfl)
  (try simp only [Act.put, zA, zB, zC])
  refine wpAnyH_take_l (i := 13) (v := ?vt_13) rfl (by kernel_rfl) (by kernel_rfl) (by kernel_rfl) (fun _ _ _ h => h) (Or.inl ⟨by rfl, ?yt_13⟩) (by assumption) ?rt_13
  case yt_13 => (intro w hSw; (try dsimp only at hSw); go_simp <;> with_reducible rfl)
  (try simp only [Act.put, zA, zB, zC])
  refine wpAnyH_take_l (i := 14) (v := ?vt_14) rfl (by kernel_rfl) (by kernel_rfl) (by kernel_rfl) (fun _ _ _ h => h) (Or.inl ⟨by rfl, ?yt_14⟩) (by assumption) ?rt_14
  case yt_14 => (intro w hSw; (try dsimp only at hSw); go_simp <;> with_reducible rfl)
  (try simp only [Act.put, zA, zB, zC])
  refine wpAnyH_take_l (i := 15) (v := ?vt_15) rfl (by kernel_rfl) (by kernel_rfl) (by kernel_rfl) (fun _ _ _ h => h) (Or.inl ⟨by rfl, ?yt_15⟩) (by assumption) ?rt_15
  case yt_15 => (intro w hSw; (try dsimp only at hSw); go_simp <;> with_reducible rfl)
  (try simp only [Act.put, zA, zB, zC])
  refine wpAnyH_take_l (i := 16) (v := ?vt_16) rfl (by kernel_rfl) (by kernel_rfl) (by kernel_rfl) (fun _ _ _ h => h) (Or.inl ⟨by rfl, ?yt_16⟩) (by assumption) ?rt_16
  case yt_16 => (intro w hSw; (try dsimp only at hSw); go_simp <;> with_reducible rfl)
  (try simp only [Act.put, zA, zB, zC])
  refine tuple3 (f := 3) 5 11 17 18 19 20 17 23 29 6 7 8 27 #[.bool false, .slice none 0 0, .bool false, .slice none 0 0, .bool false, .slice none 0 0, .bool false, .slice none 0 0] (PtV (lerpV A0 B0 S) (lerpV A1 B1 S)) (PtV (lerpV B0 C0 S) (lerpV B1 C1 S)) (PtV (lerpV C0 D0 S) (lerpV C1 D1 S)) rfl rfl rfl rfl rfl rfl (by decide) (by decide) (by kernel_rfl) (fun _ hx => hHt.trans hx) PtV.ext PtV.ext PtV.ext ?htc1 ?htc2 ?htc3 ?htc4 ?htc5 ?htc6 ?hte undef undef undef undef undef undef (by kernel_rfl) rfl
  case htc1 =>
    intro v1 v2 v3 v4 v5 v6 w1 K hx hSw hK
    (try simp only [Act.put, zA, zB, zC])
    go_simp
    (go_at_call 30; ((with_reducible refine (H1.out _ (HE.out.trans hSw)).mono ?_)); intro e w' hp; obtain ⟨v, rfl, hv, he⟩ := RetP.v hp)
    have hk := hK.out _ _ hv he
    simp only [Act.put, zA, zB, zC] at hk
    exact hk
  case htc2 =>
    intro v1 v2 v3 v4 v5 v6 w1 K hx hSw hK
    (try simp only [Act.put, zA, zB, zC])
    go_simp
    (go_at_call 30; ((with_reducible refine (H2.out _ (HE.out.trans hSw)).mono ?_)); intro e w' hp; obtain ⟨v, rfl, hv, he⟩ := RetP.v hp)
    have hk := hK.out _ _ hv he
    simp only [Act.put, zA, zB, zC] at hk
    exact hk
  case htc3 =>
    intro v1 v2 v3 v4 v5 v6 w1 K hx hSw hK
    (try simp only [Act.put, zA, zB, zC])
    go_simp
    (go_at_call 30; ((with_reducible refine (H3.out _ (HE.out.trans hSw)).mono ?_)); intro e w' hp; obtain ⟨v, rfl, hv, he⟩ := RetP.v hp)
    have hk := hK.out _ _ hv he
    simp only [Act.put, zA, zB, zC] at hk
    exact hk
  case htc4 =>
    intro v1 v2 v3 v4 v5 v6 w1 K hx hSw hK
    (try simp only [Act.put, zA, zB, zC])
    go_simp
    have hk := hK.out
    simp only [Act.put, zA, zB, zC] at hk
    exact hk
  case htc5 =>
    intro v1 v2 v3 v4 v5 v6 w1 K hx hSw hK
    (try simp only [Act.put, zA, zB, zC])
    go_simp
    have hk := hK.out
    simp only [Act.put, zA, zB, zC] at hk
    exact hk
  case htc6 =>
    intro v1 v2 v3 v4 v5 v6 w1 K hx hSw hK
    (try simp only [Act.put, zA, zB, zC])
    go_simp
    have hk := hK.out
    simp only [Act.put, zA, zB, zC] at hk
    exact hk
  case hte =>
    intro v1 v2 v3 X1 X2 X3 w1 hx hSw p1 p2 p3 B1 B2 B3 z1 z2 z3 n12 n13 n23
    obtain ⟨e0, e1, rfl, s1, s2⟩ := p1
    obtain ⟨f0, f1, rfl, s3, s4⟩ := p2
    obtain ⟨g0, g1, rfl, s5, s6⟩ := p3
    (try simp only [Act.put, zA, zB, zC])
    have y1 : wa.heap.size ≤ X1 := z1
    have y2 : wa.heap.size ≤ X2 := z2
    have y3 : wa.heap.size ≤ X3 := z3
    have hE1 : Ext wa w1 := hSw
    have HST := zH (stored8_3 hE1 B1 y1 s1 s2 B2 y2 s3 s4 B3 y3 s5 s6 n12 n13 n23)
    have m12 := n12.symm
    have m13 := n13.symm
    have m23 := n23.symm
    clear gl hx hSw z1 z2 z3 s1 s2 s3 s4 s5 s6 hHt
    have c1_0 := B1.cell 0
    have f1_0 := B1.frozen 0
    have c1_1 := B1.cell 1
    have f1_1 := B1.frozen 1
    have c1_2 := B1.cell 2
    have f1_2 := B1.frozen 2
    have c1_3 := B1.cell 3
    have f1_3 := B1.frozen 3
    have c1_4 := B1.cell 4
    have f1_4 := B1.frozen 4
    have c1_5 := B1.cell 5
    have f1_5 := B1.frozen 5
    have c1_6 := B1.cell 6
    have f1_6 := B1.frozen 6
    have c1_7 := B1.cell 7
    have f1_7 := B1.frozen 7
    have c2_0 := B2.cell 0
    have f2_0 := B2.frozen 0
    have c2_1 := B2.cell 1
    have f2_1 := B2.frozen 1
    have c2_2 := B2.cell 2
    have f2_2 := B2.frozen 2
    have c2_3 := B2.cell 3
    have f2_3 := B2.frozen 3
    have c2_4 := B2.cell 4
    have f2_4 := B2.frozen 4
    have c2_5 := B2.cell 5
    have f2_5 := B2.frozen 5
    have c2_6 := B2.cell 6
    have f2_6 := B2.frozen 6
    have c2_7 := B2.cell 7
    have f2_7 := B2.frozen 7
    have c3_0 := B3.cell 0
    have f3_0 := B3.frozen 0
    have c3_1 := B3.cell 1
    have f3_1 := B3.frozen 1
    have c3_2 := B3.cell 2
    have f3_2 := B3.frozen 2
    have c3_3 := B3.cell 3
    have f3_3 := B3.frozen 3
    have c3_4 := B3.cell 4
    have f3_4 := B3.frozen 4
    have c3_5 := B3.cell 5
    have f3_5 := B3.frozen 5
    have c3_6 := B3.cell 6
    have f3_6 := B3.frozen 6
    have c3_7 := B3.cell 7
    have f3_7 := B3.frozen 7
    simp at c1_0 c1_1 c1_2 c1_3 c1_4 c1_5 c1_6 c1_7 c2_0 c2_1 c2_2 c2_3 c2_4 c2_5 c2_6 c2_7 c3_0 c3_1 c3_2 c3_3 c3_4 c3_5 c3_6 c3_7
    refine wpAnyH_one_l (i := 21) rfl (by kernel_rfl) (fun K hK => ?_)
    go_simp
    refine hK.out _ _ ?_ (fun hHs => ?_)
    · ((try dsimp only); (repeat (first | (with_reducible assumption) | ((with_reducible refine Ext.setCell ?_ ?_ _); rotate_left; focus (first | exact y1 | exact y2 | exact y3)))); done)
    clear hK K hHs
    (try simp only [Act.put, zA, zB, zC])
    refine wpAnyH_one_l (i := 22) rfl (by kernel_rfl) (fun K hK => ?_)
    go_simp
    refine hK.out _ _ ?_ (fun hHs => ?_)
    · ((try dsimp only); (repeat (first | (with_reducible assumption) | ((with_reducible refine Ext.setCell ?_ ?_ _); rotate_left; focus (first | exact y1 | exact y2 | exact y3)))); done)
    clear hK K hHs
    (try simp only [Act.put, zA, zB, zC])
    refine wpAnyH_one_l (i := 23) rfl (by kernel_rfl) (fun K hK => ?_)
    go_simp
    refine hK.out _ _ ?_ (fun hHs => ?_)
    · ((try dsimp only); (repeat (first | (with_reducible assumption) | ((with_reducible refine Ext.setCell ?_ ?_ _); rotate_left; focus (first | exact y1 | exact y2 | exact y3)))); done)
    clear hK K hHs
    (try simp only [Act.put, zA, zB, zC])
    refine wpAnyH_done (by kernel_rfl) ?_ _
    clear c1_0 f1_0 c1_1 f1_1 c1_2 f1_2 c1_3 f1_3 c1_4 f1_4 c1_5 f1_5 c1_6 f1_6 c1_7 f1_7 c2_0 f2_0 c2_1 f2_1 c2_2 f2_2 c2_3 f2_3 c2_4 f2_4 c2_5 f2_5 c2_6 f2_6 c2_7 f2_7 c3_0 f3_0 c3_1 f3_1 c3_2 f3_2 c3_3 f3_3 c3_4 f3_4 c3_5 f3_5 c3_6 f3_6 c3_7 f3_7 B1 B2 B3
    have hst := HST.out
    obtain ⟨wc, hwc⟩ : ∃ wc, wc = put8 (put8 (put8 w1 X1 e0 e1) X2 f0 f1) X3 g0 g1 := ⟨_, rfl⟩
    rw [← hwc] at hst
    simp only [put8] at hwc
    rw [← hwc]
    have HSC := zH hst
    clear hst hwc hE1 HST n12 n13 n23 m12 m13 m23
    have HY := zH (And.intro y1 (And.intro y2 y3))
    clear y1 y2 y3
    have HSB := zH (HB.out.2.1.ext HSC.out.1)
    have gl : ∀ x, Ext wc x → x.cell? ⟨X1, 0, none⟩ = some (.bool e0.n) ∧ x.cell? ⟨X1, 1, none⟩ = some (.slice e0.p e0.l e0.c) ∧ x.cell? ⟨X1, 2, none⟩ = some (.bool e0.m) ∧ x.cell? ⟨X1, 3, none⟩ = some (.slice e0.p2 e0.l2 e0.c2) ∧ x.cell? ⟨X1, 4, none⟩ = some (.bool e1.n) ∧ x.cell? ⟨X1, 5, none⟩ = some (.slice e1.p e1.l e1.c) ∧ x.cell? ⟨X1, 6, none⟩ = some (.bool e1.m) ∧ x.cell? ⟨X1, 7, none⟩ = some (.slice e1.p2 e1.l2 e1.c2) ∧ x.cell? ⟨X2, 0, none⟩ = some (.bool f0.n) ∧ x.cell? ⟨X2, 1, none⟩ = some (.slice f0.p f0.l f0.c) ∧ x.cell? ⟨X2, 2, none⟩ = some (.bool f0.m) ∧ x.cell? ⟨X2, 3, none⟩ = some (.slice f0.p2 f0.l2 f0.c2) ∧ x.cell? ⟨X2, 4, none⟩ = some (.bool f1.n) ∧ x.cell? ⟨X2, 5, none⟩ = some (.slice f1.p f1.l f1.c) ∧ x.cell? ⟨X2, 6, none⟩ = some (.bool f1.m) ∧ x.cell? ⟨X2, 7, none⟩ = some (.slice f1.p2 f1.l2 f1.c2) ∧ x.cell? ⟨X3, 0, none⟩ = some (.bool g0.n) ∧ x.cell? ⟨X3, 1, none⟩ = some (.slice g0.p g0.l g0.c) ∧ x.cell? ⟨X3, 2, none⟩ = some (.bool g0.m) ∧ x.cell? ⟨X3, 3, none⟩ = some (.slice g0.p2 g0.l2 g0.c2) ∧ x.cell? ⟨X3, 4, none⟩ = some (.bool g1.n) ∧ x.cell? ⟨X3, 5, none⟩ = some (.slice g1.p g1.l g1.c) ∧ x.cell? ⟨X3, 6, none⟩ = some (.bool g1.m) ∧ x.cell? ⟨X3, 7, none⟩ = some (.slice g1.p2 g1.l2 g1.c2) ∧ x.cell? ⟨BB, 0, none⟩ = some (.bool t.n) ∧ x.cell? ⟨BB, 1, none⟩ = some (.slice t.p t.l t.c) ∧ x.cell? ⟨BB, 2, none⟩ = some (.bool t.m) ∧ x.cell? ⟨BB, 3, none⟩ = some (.slice t.p2 t.l2 t.c2) := fun x h => by
      have k1 := HSC.out.2.1.ext h
      have k2 := HSC.out.2.2.1.ext h
      have k3 := HSC.out.2.2.2.1.ext h
      have k4 := HSB.out.ext h
      exact ⟨k1.cell 0, k1.cell 1, k1.cell 2, k1.cell 3, k1.cell 4, k1.cell 5, k1.cell 6, k1.cell 7, k2.cell 0, k2.cell 1, k2.cell 2, k2.cell 3, k2.cell 4, k2.cell 5, k2.cell 6, k2.cell 7, k3.cell 0, k3.cell 1, k3.cell 2, k3.cell 3, k3.cell 4, k3.cell 5, k3.cell 6, k3.cell 7, k4.cell 0, k4.cell 1, k4.cell 2, k4.cell 3⟩
    have HEC := zH (HE.out.trans HSC.out.1)
    have HP := zH HSC.out.2.2.2.2
    go_wp2_with fail
    refine wp_region_held_drew (S := fun x => Ext wc x) (by kernel_rfl) (Ext.refl _).drew (fun hHu => ?_)
    refine wpAnyH_take_l (i := 0) (v := ?vu_0) rfl (by kernel_rfl) (by kernel_rfl) (by kernel_rfl) (fun _ _ _ h => h) (Or.inl ⟨by rfl, ?yu_0⟩) (by assumption) ?ru_0
    case yu_0 => (intro w hSw; (try dsimp only at hSw); go_simp <;> with_reducible rfl)
    (try simp only [Act.put, zA, zB, zC])
    refine wpAnyH_take_l (i := 1) (v := ?vu_1) rfl (by kernel_rfl) (by kernel_rfl) (by kernel_rfl) (fun _ _ _ h => h) (Or.inl ⟨by rfl, ?yu_1⟩) (by assumption) ?ru_1
    case yu_1 => (intro w hSw; (try dsimp only at hSw); go_simp <;> with_reducible rfl)
    (try simp only [Act.put, zA, zB, zC])
    refine wpAnyH_take_l (i := 2) (v := ?vu_2) rfl (by kernel_rfl) (by kernel_rfl) (by kernel_rfl) (fun _ _ _ h => h) (Or.inl ⟨by rfl, ?yu_2⟩) (by assumption) ?ru_2
    case yu_2 => (intro w hSw; (try dsimp only at hSw); go_simp <;> with_reducible rfl)
    (try simp only [Act.put, zA, zB, zC])
    refine wpAnyH_take_l (i := 4) (v := ?vu_4) rfl (by kernel_rfl) (by kernel_rfl) (by kernel_rfl) (fun _ _ _ h => h) (Or.inl ⟨by rfl, ?yu_4⟩) (by assumption) ?ru_4
    case yu_4 => (intro w hSw; (try dsimp only at hSw); go_simp <;> with_reducible rfl)
    (try simp only [Act.put, zA, zB, zC])
    refine wpAnyH_take_l (i := 5) (v := ?vu_5) rfl (by kernel_rfl) (by kernel_rfl) (by kernel_rfl) (fun _ _ _ h => h) (Or.inl ⟨by rfl, ?yu_5⟩) (by assumption) ?ru_5
    case yu_5 => (intro w hSw; (try dsimp only at hSw); go_simp <;> with_reducible rfl)
    (try simp only [Act.put, zA, zB, zC])
    refine wpAnyH_take_l (i := 6) (v := ?vu_6) rfl (by kernel_rfl) (by kernel_rfl) (by kernel_rfl) (fun _ _ _ h => h) (Or.inl ⟨by rfl, ?yu_6⟩) (by assumption) ?ru_6
    case yu_6 => (intro w hSw; (try dsimp only at hSw); go_simp <;> with_reducible rfl)
    (try simp only [Act.put, zA, zB, zC])
    refine tuple2 (f := 2) 3 7 8 9 33 37 9 10 27 #[.bool false, .slice none 0 0, .bool false, .slice none 0 0, .bool false, .slice none 0 0, .bool false, .slice none 0 0] (PtV (lerpV (lerpV A0 B0 S) (lerpV B0 C0 S) S) (lerpV (lerpV A1 B1 S) (lerpV B1 C1 S) S)) (PtV (lerpV (lerpV B0 C0 S) (lerpV C0 D0 S) S) (lerpV (lerpV B1 C1 S) (lerpV C1 D1 S) S)) rfl rfl rfl rfl (by decide) (by decide) (by kernel_rfl) (fun _ hx => hHu.trans hx) PtV.ext PtV.ext ?huc1 ?huc2 ?huc3 ?huc4 ?hue undef undef undef undef (by kernel_rfl) rfl
    case huc1 =>
      intro v1 v2 v3 v4 w1 K hx hSw hK
      (try simp only [Act.put, zA, zB, zC])
      go_simp
      (go_at_call 30; ((with_reducible refine (H4.out _ (HEC.out.trans hSw) _ _ _ _ (HP.out.1.1.ext hSw) (HP.out.1.2.ext hSw) (HP.out.2.1.1.ext hSw) (HP.out.2.1.2.ext hSw)).mono ?_)); intro e w' hp; obtain ⟨v, rfl, hv, he⟩ := RetP.v hp)
      have hk := hK.out _ _ hv he
      simp only [Act.put, zA, zB, zC] at hk
      exact hk
    case huc2 =>
      intro v1 v2 v3 v4 w1 K hx hSw hK
      (try simp only [Act.put, zA, zB, zC])
      go_simp
      (go_at_call 30; ((with_reducible refine (H5.out _ (HEC.out.trans hSw) _ _ _ _ (HP.out.2.1.1.ext hSw) (HP.out.2.1.2.ext hSw) (HP.out.2.2.1.ext hSw) (HP.out.2.2.2.ext hSw)).mono ?_)); intro e w' hp; obtain ⟨v, rfl, hv, he⟩ := RetP.v hp)
      have hk := hK.out _ _ hv he
      simp only [Act.put, zA, zB, zC] at hk
      exact hk
    case huc3 =>
      intro v1 v2 v3 v4 w1 K hx hSw hK
      (try simp only [Act.put, zA, zB, zC])
      go_simp
      have hk := hK.out
      simp only [Act.put, zA, zB, zC] at hk
      exact hk
    case huc4 =>
      intro v1 v2 v3 v4 w1 K hx hSw hK
      (try simp only [Act.put, zA, zB, zC])
      go_simp
      have hk := hK.out
      simp only [Act.put, zA, zB, zC] at hk
      exact hk
    case hue =>
      intro v1 v2 Y1 Y2 w1 hx hSw p1 p2 B1 B2 z1 z2 n12
      obtain ⟨r0, r1, rfl, s1, s2⟩ := p1
      obtain ⟨u0, u1, rfl, s3, s4⟩ := p2
      (try simp only [Act.put, zA, zB, zC])
      have y1 : wc.heap.size ≤ Y1 := z1
      have y2 : wc.heap.size ≤ Y2 := z2
      have hE1 : Ext wc w1 := hSw
      have HST := zH (stored8_2 hE1 B1 y1 s1 s2 B2 y2 s3 s4 n12)
      have m12 := n12.symm
      clear gl hx hSw z1 z2 s1 s2 s3 s4 hHu
      have c1_0 := B1.cell 0
      have f1_0 := B1.frozen 0
      have c1_1 := B1.cell 1
      have f1_1 := B1.frozen 1
      have c1_2 := B1.cell 2
      have f1_2 := B1.frozen 2
      have c1_3 := B1.cell 3
      have f1_3 := B1.frozen 3
      have c1_4 := B1.cell 4
      have f1_4 := B1.frozen 4
      have c1_5 := B1.cell 5
      have f1_5 := B1.frozen 5
      have c1_6 := B1.cell 6
      have f1_6 := B1.frozen 6
      have c1_7 := B1.cell 7
      have f1_7 := B1.frozen 7
      have c2_0 := B2.cell 0
      have f2_0 := B2.frozen 0
      have c2_1 := B2.cell 1
      have f2_1 := B2.frozen 1
      have c2_2 := B2.cell 2
      have f2_2 := B2.frozen 2
      have c2_3 := B2.cell 3
      have f2_3 := B2.frozen 3
      have c2_4 := B2.cell 4
      have f2_4 := B2.frozen 4
      have c2_5 := B2.cell 5
      have f2_5 := B2.frozen 5
      have c2_6 := B2.cell 6
      have f2_6 := B2.frozen 6
      have c2_7 := B2.cell 7
      have f2_7 := B2.frozen 7
      simp at c1_0 c1_1 c1_2 c1_3 c1_4 c1_5 c1_6 c1_7 c2_0 c2_1 c2_2 c2_3 c2_4 c2_5 c2_6 c2_7
      refine wpAnyH_one_l (i := 10) rfl (by kernel_rfl) (fun K hK => ?_)
      go_simp
      refine hK.out _ _ ?_ (fun hHs => ?_)
      · ((try dsimp only); (repeat (first | (with_reducible assumption) | ((with_reducible refine Ext.setCell ?_ ?_ _); rotate_left; focus (first | exact y1 | exact y2)))); done)
      clear hK K hHs
      (try simp only [Act.put, zA, zB, zC])
      refine wpAnyH_one_l (i := 11) rfl (by kernel_rfl) (fun K hK => ?_)
      go_simp
      refine hK.out _ _ ?_ (fun hHs => ?_)
      · ((try dsimp only); (repeat (first | (with_reducible assumption) | ((with_reducible refine Ext.setCell ?_ ?_ _); rotate_left; focus (first | exact y1 | exact y2)))); done)
      clear hK K hHs
      (try simp only [Act.put, zA, zB, zC])
      refine wpAnyH_done (by kernel_rfl) ?_ _
      clear c1_0 f1_0 c1_1 f1_1 c1_2 f1_2 c1_3 f1_3 c1_4 f1_4 c1_5 f1_5 c1_6 f1_6 c1_7 f1_7 c2_0 f2_0 c2_1 f2_1 c2_2 f2_2 c2_3 f2_3 c2_4 f2_4 c2_5 f2_5 c2_6 f2_6 c2_7 f2_7 B1 B2
      have hst := HST.out
      obtain ⟨wd, hwd⟩ : ∃ wd, wd = put8 (put8 w1 Y1 r0 r1) Y2 u0 u1 := ⟨_, rfl⟩
      rw [← hwd] at hst
      simp only [put8] at hwd
      rw [← hwd]
      have HSD := zH hst
      clear hst hwd hE1 HST n12 m12
      have HYY := zH (And.intro y1 y2)
      clear y1 y2
      have gl : wd.cell? ⟨Y1, 0, none⟩ = some (.bool r0.n) ∧ wd.cell? ⟨Y1, 1, none⟩ = some (.slice r0.p r0.l r0.c) ∧ wd.cell? ⟨Y1, 2, none⟩ = some (.bool r0.m) ∧ wd.cell? ⟨Y1, 3, none⟩ = some (.slice r0.p2 r0.l2 r0.c2) ∧ wd.cell? ⟨Y1, 4, none⟩ = some (.bool r1.n) ∧ wd.cell? ⟨Y1, 5, none⟩ = some (.slice r1.p r1.l r1.c) ∧ wd.cell? ⟨Y1, 6, none⟩ = some (.bool r1.m) ∧ wd.cell? ⟨Y1, 7, none⟩ = some (.slice r1.p2 r1.l2 r1.c2) ∧ wd.cell? ⟨Y2, 0, none⟩ = some (.bool u0.n) ∧ wd.cell? ⟨Y2, 1, none⟩ = some (.slice u0.p u0.l u0.c) ∧ wd.cell? ⟨Y2, 2, none⟩ = some (.bool u0.m) ∧ wd.cell? ⟨Y2, 3, none⟩ = some (.slice u0.p2 u0.l2 u0.c2) ∧ wd.cell? ⟨Y2, 4, none⟩ = some (.bool u1.n) ∧ wd.cell? ⟨Y2, 5, none⟩ = some (.slice u1.p u1.l u1.c) ∧ wd.cell? ⟨Y2, 6, none⟩ = some (.bool u1.m) ∧ wd.cell? ⟨Y2, 7, none⟩ = some (.slice u1.p2 u1.l2 u1.c2) ∧ wd.cell? ⟨BB, 0, none⟩ = some (.bool t.n) ∧ wd.cell? ⟨BB, 1, none⟩ = some (.slice t.p t.l t.c) ∧ wd.cell? ⟨BB, 2, none⟩ = some (.bool t.m) ∧ wd.cell? ⟨BB, 3, none⟩ = some (.slice t.p2 t.l2 t.c2) := by
        have k1 := HSD.out.2.1
        have k2 := HSD.out.2.2.1
        have k4 := HSB.out.ext HSD.out.1
        exact ⟨k1.cell 0, k1.cell 1, k1.cell 2, k1.cell 3, k1.cell 4, k1.cell 5, k1.cell 6, k1.cell 7, k2.cell 0, k2.cell 1, k2.cell 2, k2.cell 3, k2.cell 4, k2.cell 5, k2.cell 6, k2.cell 7, k4.cell 0, k4.cell 1, k4.cell 2, k4.cell 3⟩
      go_wp2_with fail
      refine (H6.out _ (HEC.out.trans HSD.out.1) _ _ _ _ HSD.out.2.2.2.1.1 HSD.out.2.2.2.1.2 HSD.out.2.2.2.2.1 HSD.out.2.2.2.2.2).mono ?_
      rintro e we ⟨m0, m1, rfl, hm0, hm1, hee⟩
      have HG := zH (And.intro hm0 hm1)
      clear hm0 hm1 gl
      go_wp2_with fail
      have ke : Ext wd (we.alloc (.cells #[.bool m0.n, .slice m0.p m0.l m0.c, .bool m0.m, .slice m0.p2 m0.l2 m0.c2, .bool m1.n, .slice m1.p m1.l m1.c, .bool m1.m, .slice m1.p2 m1.l2 m1.c2] 27)) := hee.alloc _
      have kc := HSD.out.1.trans ke
      have HEE := zH (HEC.out.trans kc)
      have z3 : wc.heap.size ≤ we.heap.size := Nat.le_trans HSD.out.1.size hee.size
      have z4 := HSC.out.1.size
      have j0 := (HB.out.1.ext HSC.out.1).ext kc
      have j1 := HSC.out.2.1.ext kc
      have j2 := HSC.out.2.2.2.1.ext kc
      have j3 := HSD.out.2.1.ext ke
      have j4 := HSD.out.2.2.1.ext ke
      have j5 : Blk (we.alloc (.cells #[.bool m0.n, .slice m0.p m0.l m0.c, .bool m0.m, .slice m0.p2 m0.l2 m0.c2, .bool m1.n, .slice m1.p m1.l m1.c, .bool m1.m, .slice m1.p2 m1.l2 m1.c2] 27)) we.heap.size 27 #[.bool m0.n, .slice m0.p m0.l m0.c, .bool m0.m, .slice m0.p2 m0.l2 m0.c2, .bool m1.n, .slice m1.p m1.l m1.c, .bool m1.m, .slice m1.p2 m1.l2 m1.c2] := Blk.new_at we _ rfl _ _
      have jr := (HB.out.2.2.1.ext HSC.out.1).ext kc
      have js := (HB.out.2.2.2.ext HSC.out.1).ext kc
      have HPE := zH (show (e0.Is (we.alloc (.cells #[.bool m0.n, .slice m0.p m0.l m0.c, .bool m0.m, .slice m0.p2 m0.l2 m0.c2, .bool m1.n, .slice m1.p m1.l m1.c, .bool m1.m, .slice m1.p2 m1.l2 m1.c2] 27)) _ ∧ e1.Is (we.alloc (.cells #[.bool m0.n, .slice m0.p m0.l m0.c, .bool m0.m, .slice m0.p2 m0.l2 m0.c2, .bool m1.n, .slice m1.p m1.l m1.c, .bool m1.m, .slice m1.p2 m1.l2 m1.c2] 27)) _) ∧ (g0.Is (we.alloc (.cells #[.bool m0.n, .slice m0.p m0.l m0.c, .bool m0.m, .slice m0.p2 m0.l2 m0.c2, .bool m1.n, .slice m1.p m1.l m1.c, .bool m1.m, .slice m1.p2 m1.l2 m1.c2] 27)) _ ∧ g1.Is (we.alloc (.cells #[.bool m0.n, .slice m0.p m0.l m0.c, .bool m0.m, .slice m0.p2 m0.l2 m0.c2, .bool m1.n, .slice m1.p m1.l m1.c, .bool m1.m, .slice m1.p2 m1.l2 m1.c2] 27)) _) ∧ (r0.Is (we.alloc (.cells #[.bool m0.n, .slice m0.p m0.l m0.c, .bool m0.m, .slice m0.p2 m0.l2 m0.c2, .bool m1.n, .slice m1.p m1.l m1.c, .bool m1.m, .slice m1.p2 m1.l2 m1.c2] 27)) _ ∧ r1.Is (we.alloc (.cells #[.bool m0.n, .slice m0.p m0.l m0.c, .bool m0.m, .slice m0.p2 m0.l2 m0.c2, .bool m1.n, .slice m1.p m1.l m1.c, .bool m1.m, .slice m1.p2 m1.l2 m1.c2] 27)) _) ∧ (u0.Is (we.alloc (.cells #[.bool m0.n, .slice m0.p m0.l m0.c, .bool m0.m, .slice m0.p2 m0.l2 m0.c2, .bool m1.n, .slice m1.p m1.l m1.c, .bool m1.m, .slice m1.p2 m1.l2 m1.c2] 27)) _ ∧ u1.Is (we.alloc (.cells #[.bool m0.n, .slice m0.p m0.l m0.c, .bool m0.m, .slice m0.p2 m0.l2 m0.c2, .bool m1.n, .slice m1.p m1.l m1.c, .bool m1.m, .slice m1.p2 m1.l2 m1.c2] 27)) _) ∧ (m0.Is (we.alloc (.cells #[.bool m0.n, .slice m0.p m0.l m0.c, .bool m0.m, .slice m0.p2 m0.l2 m0.c2, .bool m1.n, .slice m1.p m1.l m1.c, .bool m1.m, .slice m1.p2 m1.l2 m1.c2] 27)) _ ∧ m1.Is (we.alloc (.cells #[.bool m0.n, .slice m0.p m0.l m0.c, .bool m0.m, .slice m0.p2 m0.l2 m0.c2, .bool m1.n, .slice m1.p m1.l m1.c, .bool m1.m, .slice m1.p2 m1.l2 m1.c2] 27)) _) from ⟨⟨HP.out.1.1.ext kc, HP.out.1.2.ext kc⟩, ⟨HP.out.2.2.1.ext kc, HP.out.2.2.2.ext kc⟩, ⟨HSD.out.2.2.2.1.1.ext ke, HSD.out.2.2.2.1.2.ext ke⟩, ⟨HSD.out.2.2.2.2.1.ext ke, HSD.out.2.2.2.2.2.ext ke⟩, ⟨HG.out.1.ext ((Ext.refl _).alloc _), HG.out.2.ext ((Ext.refl _).alloc _)⟩⟩)
      clear ke kc hee
      generalize (we.alloc (.cells #[.bool m0.n, .slice m0.p m0.l m0.c, .bool m0.m, .slice m0.p2 m0.l2 m0.c2, .bool m1.n, .slice m1.p m1.l m1.c, .bool m1.m, .slice m1.p2 m1.l2 m1.c2] 27)) = wv at *
      generalize hZ2 : we.heap.size = Z at *
      have hne : (BA ≠ R ∧ BA ≠ R2) ∧ (X1 ≠ R ∧ X1 ≠ R2) ∧ (X3 ≠ R ∧ X3 ≠ R2) ∧ (Y1 ≠ R ∧ Y1 ≠ R2) ∧ (Y2 ≠ R ∧ Y2 ≠ R2) ∧ (Z ≠ R ∧ Z ≠ R2) ∧ R2 ≠ R := by
        have h1 := HLT.out
        have h2 := HZ.out
        have h3 := HY.out.1
        have h4 := HY.out.2.1
        have h5 := HY.out.2.2
        have h6 := HYY.out.1
        have h7 := HYY.out.2
        omega
      have HNE := zH hne
      have HJ := zH (And.intro jr js)
      have gl : ∀ x, Own2 R R2 wv x → x.cell? ⟨BA, 0, none⟩ = some (.bool a0.n) ∧ x.cell? ⟨BA, 1, none⟩ = some (.slice a0.p a0.l a0.c) ∧ x.cell? ⟨BA, 2, none⟩ = some (.bool a0.m) ∧ x.cell? ⟨BA, 3, none⟩ = some (.slice a0.p2 a0.l2 a0.c2) ∧ x.cell? ⟨BA, 4, none⟩ = some (.bool a1.n) ∧ x.cell? ⟨BA, 5, none⟩ = some (.slice a1.p a1.l a1.c) ∧ x.cell? ⟨BA, 6, none⟩ = some (.bool a1.m) ∧ x.cell? ⟨BA, 7, none⟩ = some (.slice a1.p2 a1.l2 a1.c2) ∧ x.cell? ⟨BA, 8, none⟩ = some (.bool b0.n) ∧ x.cell? ⟨BA, 9, none⟩ = some (.slice b0.p b0.l b0.c) ∧ x.cell? ⟨BA, 10, none⟩ = some (.bool b0.m) ∧ x.cell? ⟨BA, 11, none⟩ = some (.slice b0.p2 b0.l2 b0.c2) ∧ x.cell? ⟨BA, 12, none⟩ = some (.bool b1.n) ∧ x.cell? ⟨BA, 13, none⟩ = some (.slice b1.p b1.l b1.c) ∧ x.cell? ⟨BA, 14, none⟩ = some (.bool b1.m) ∧ x.cell? ⟨BA, 15, none⟩ = some (.slice b1.p2 b1.l2 b1.c2) ∧ x.cell? ⟨BA, 16, none⟩ = some (.bool c0.n) ∧ x.cell? ⟨BA, 17, none⟩ = some (.slice c0.p c0.l c0.c) ∧ x.cell? ⟨BA, 18, none⟩ = some (.bool c0.m) ∧ x.cell? ⟨BA, 19, none⟩ = some (.slice c0.p2 c0.l2 c0.c2) ∧ x.cell? ⟨BA, 20, none⟩ = some (.bool c1.n) ∧ x.cell? ⟨BA, 21, none⟩ = some (.slice c1.p c1.l c1.c) ∧ x.cell? ⟨BA, 22, none⟩ = some (.bool c1.m) ∧ x.cell? ⟨BA, 23, none⟩ = some (.slice c1.p2 c1.l2 c1.c2) ∧ x.cell? ⟨BA, 24, none⟩ = some (.bool d0.n) ∧ x.cell? ⟨BA, 25, none⟩ = some (.slice d0.p d0.l d0.c) ∧ x.cell? ⟨BA, 26, none⟩ = some (.bool d0.m) ∧ x.cell? ⟨BA, 27, none⟩ = some (.slice d0.p2 d0.l2 d0.c2) ∧ x.cell? ⟨BA, 28, none⟩ = some (.bool d1.n) ∧ x.cell? ⟨BA, 29, none⟩ = some (.slice d1.p d1.l d1.c) ∧ x.cell? ⟨BA, 30, none⟩ = some (.bool d1.m) ∧ x.cell? ⟨BA, 31, none⟩ = some (.slice d1.p2 d1.l2 d1.c2) ∧ x.cell? ⟨X1, 0, none⟩ = some (.bool e0.n) ∧ x.cell? ⟨X1, 1, none⟩ = some (.slice e0.p e0.l e0.c) ∧ x.cell? ⟨X1, 2, none⟩ = some (.bool e0.m) ∧ x.cell? ⟨X1, 3, none⟩ = some (.slice e0.p2 e0.l2 e0.c2) ∧ x.cell? ⟨X1, 4, none⟩ = some (.bool e1.n) ∧ x.cell? ⟨X1, 5, none⟩ = some (.slice e1.p e1.l e1.c) ∧ x.cell? ⟨X1, 6, none⟩ = some (.bool e1.m) ∧ x.cell? ⟨X1, 7, none⟩ = some (.slice e1.p2 e1.l2 e1.c2) ∧ x.cell? ⟨X3, 0, none⟩ = some (.bool g0.n) ∧ x.cell? ⟨X3, 1, none⟩ = some (.slice g0.p g0.l g0.c) ∧ x.cell? ⟨X3, 2, none⟩ = some (.bool g0.m) ∧ x.cell? ⟨X3, 3, none⟩ = some (.slice g0.p2 g0.l2 g0.c2) ∧ x.cell? ⟨X3, 4, none⟩ = some (.bool g1.n) ∧ x.cell? ⟨X3, 5, none⟩ = some (.slice g1.p g1.l g1.c) ∧ x.cell? ⟨X3, 6, none⟩ = some (.bool g1.m) ∧ x.cell? ⟨X3, 7, none⟩ = some (.slice g1.p2 g1.l2 g1.c2) ∧ x.cell? ⟨Y1, 0, none⟩ = some (.bool r0.n) ∧ x.cell? ⟨Y1, 1, none⟩ = some (.slice r0.p r0.l r0.c) ∧ x.cell? ⟨Y1, 2, none⟩ = some (.bool r0.m) ∧ x.cell? ⟨Y1, 3, none⟩ = some (.slice r0.p2 r0.l2 r0.c2) ∧ x.cell? ⟨Y1, 4, none⟩ = some (.bool r1.n) ∧ x.cell? ⟨Y1, 5, none⟩ = some (.slice r1.p r1.l r1.c) ∧ x.cell? ⟨Y1, 6, none⟩ = some (.bool r1.m) ∧ x.cell? ⟨Y1, 7, none⟩ = some (.slice r1.p2 r1.l2 r1.c2) ∧ x.cell? ⟨Y2, 0, none⟩ = some (.bool u0.n) ∧ x.cell? ⟨Y2, 1, none⟩ = some (.slice u0.p u0.l u0.c) ∧ x.cell? ⟨Y2, 2, none⟩ = some (.bool u0.m) ∧ x.cell? ⟨Y2, 3, none⟩ = some (.slice u0.p2 u0.l2 u0.c2) ∧ x.cell? ⟨Y2, 4, none⟩ = some (.bool u1.n) ∧ x.cell? ⟨Y2, 5, none⟩ = some (.slice u1.p u1.l u1.c) ∧ x.cell? ⟨Y2, 6, none⟩ = some (.bool u1.m) ∧ x.cell? ⟨Y2, 7, none⟩ = some (.slice u1.p2 u1.l2 u1.c2) ∧ x.cell? ⟨Z, 0, none⟩ = some (.bool m0.n) ∧ x.cell? ⟨Z, 1, none⟩ = some (.slice m0.p m0.l m0.c) ∧ x.cell? ⟨Z, 2, none⟩ = some (.bool m0.m) ∧ x.cell? ⟨Z, 3, none⟩ = some (.slice m0.p2 m0.l2 m0.c2) ∧ x.cell? ⟨Z, 4, none⟩ = some (.bool m1.n) ∧ x.cell? ⟨Z, 5, none⟩ = some (.slice m1.p m1.l m1.c) ∧ x.cell? ⟨Z, 6, none⟩ = some (.bool m1.m) ∧ x.cell? ⟨Z, 7, none⟩ = some (.slice m1.p2 m1.l2 m1.c2) := fun x h => by
        have k0 := j0.own2 h hne.1.1 hne.1.2
        have k1 := j1.own2 h hne.2.1.1 hne.2.1.2
        have k2 := j2.own2 h hne.2.2.1.1 hne.2.2.1.2
        have k3 := j3.own2 h hne.2.2.2.1.1 hne.2.2.2.1.2
        have k4 := j4.own2 h hne.2.2.2.2.1.1 hne.2.2.2.2.1.2
        have k5 := j5.own2 h hne.2.2.2.2.2.1.1 hne.2.2.2.2.2.1.2
        exact ⟨k0.cell 0, k0.cell 1, k0.cell 2, k0.cell 3, k0.cell 4, k0.cell 5, k0.cell 6, k0.cell 7, k0.cell 8, k0.cell 9, k0.cell 10, k0.cell 11, k0.cell 12, k0.cell 13, k0.cell 14, k0.cell 15, k0.cell 16, k0.cell 17, k0.cell 18, k0.cell 19, k0.cell 20, k0.cell 21, k0.cell 22, k0.cell 23, k0.cell 24, k0.cell 25, k0.cell 26, k0.cell 27, k0.cell 28, k0.cell 29, k0.cell 30, k0.cell 31, k1.cell 0, k1.cell 1, k1.cell 2, k1.cell 3, k1.cell 4, k1.cell 5, k1.cell 6, k1.cell 7, k2.cell 0, k2.cell 1, k2.cell 2, k2.cell 3, k2.cell 4, k2.cell 5, k2.cell 6, k2.cell 7, k3.cell 0, k3.cell 1, k3.cell 2, k3.cell 3, k3.cell 4, k3.cell 5, k3.cell 6, k3.cell 7, k4.cell 0, k4.cell 1, k4.cell 2, k4.cell 3, k4.cell 4, k4.cell 5, k4.cell 6, k4.cell 7, k5.cell 0, k5.cell 1, k5.cell 2, k5.cell 3, k5.cell 4, k5.cell 5, k5.cell 6, k5.cell 7⟩
      have hrr : R2 ≠ R := hne.2.2.2.2.2.2
      have hrs : R ≠ R2 := hrr.symm
      clear j0 j1 j2 j3 j4 j5 jr js hne hZ2 z3 z4
      refine wp_region_held_drew (S := (fun x => Own2 R R2 wv x)) (by kernel_rfl) (by (try dsimp only); (first | (with_reducible assumption) | (with_reducible exact Own2.drew (Own2.refl _ _ _)) | (with_reducible (apply Own2.of_ext; assumption)))) (fun hH1_0 => ?_)
      refine wpAnyH_take_l (i := 0) (v := ?v1_0) rfl (by kernel_rfl) (by kernel_rfl) (by kernel_rfl) (fun _ _ _ h => h) (Or.inl ⟨by rfl, ?y1_0⟩) (by assumption) ?r1_0
      case y1_0 => (intro w hSw; (try dsimp only at hSw); go_simp <;> with_reducible rfl)
      (try simp only [Act.put, zA, zB, zC])
      refine wpAnyH_take_l (i := 1) (v := ?v1_1) rfl (by kernel_rfl) (by kernel_rfl) (by kernel_rfl) (fun _ _ _ h => h) (Or.inl ⟨by rfl, ?y1_1⟩) (by assumption) ?r1_1
      case y1_1 => (intro w hSw; (try dsimp only at hSw); go_simp <;> with_reducible rfl)
      (try simp only [Act.put, zA, zB, zC])
      refine wpAnyH_take_l (i := 3) (v := ?v1_3) rfl (by kernel_rfl) (by kernel_rfl) (by kernel_rfl) (fun _ _ _ h => h) (Or.inl ⟨by rfl, ?y1_3⟩) (by assumption) ?r1_3
      case y1_3 => (intro w hSw; (try dsimp only at hSw); go_simp <;> with_reducible rfl)
      (try simp only [Act.put, zA, zB, zC])
      refine wpAnyH_take_l (i := 4) (v := ?v1_4) rfl (by kernel_rfl) (by kernel_rfl) (by kernel_rfl) (fun _ _ _ h => h) (Or.inl ⟨by rfl, ?y1_4⟩) (by assumption) ?r1_4
      case y1_4 => (intro w hSw; (try dsimp only at hSw); go_simp <;> with_reducible rfl)
      (try simp only [Act.put, zA, zB, zC])
      refine wpAnyH_take_l (i := 5) (v := ?v1_5) rfl (by kernel_rfl) (by kernel_rfl) (by kernel_rfl) (fun _ _ _ h => h) (Or.inl ⟨by rfl, ?y1_5⟩) (by assumption) ?r1_5
      case y1_5 => (intro w hSw; (try dsimp only at hSw); go_simp <;> with_reducible rfl)
      (try simp only [Act.put, zA, zB, zC])
      refine wpAnyH_take_l (i := 7) (v := ?v1_7) rfl (by kernel_rfl) (by kernel_rfl) (by kernel_rfl) (fun _ _ _ h => h) (Or.inl ⟨by rfl, ?y1_7⟩) (by assumption) ?r1_7
      case y1_7 => (intro w hSw; (try dsimp only at hSw); go_simp <;> with_reducible rfl)
      (try simp only [Act.put, zA, zB, zC])
      refine wpAnyH_take_l (i := 9) (v := ?v1_9) rfl (by kernel_rfl) (by kernel_rfl) (by kernel_rfl) (fun _ _ _ h => h) (Or.inl ⟨by rfl, ?y1_9⟩) (by assumption) ?r1_9
      case y1_9 => (intro w hSw; (try dsimp only at hSw); go_simp <;> with_reducible rfl)
      (try simp only [Act.put, zA, zB, zC])
      refine wpAnyH_take_l (i := 10) (v := ?v1_10) rfl (by kernel_rfl) (by kernel_rfl) (by kernel_rfl) (fun _ _ _ h => h) (Or.inl ⟨by rfl, ?y1_10⟩) (by assumption) ?r1_10
      case y1_10 => (intro w hSw; (try dsimp only at hSw); go_simp <;> with_reducible rfl)
      (try simp only [Act.put, zA, zB, zC])
      refine wpAnyH_take_l (i := 11) (v := ?v1_11) rfl (by kernel_rfl) (by kernel_rfl) (by kernel_rfl) (fun _ _ _ h => h) (Or.inl ⟨by rfl, ?y1_11⟩) (by assumption) ?r1_11
      case y1_11 => (intro w hSw; (try dsimp only at hSw); go_simp <;> with_reducible rfl)
      (try simp only [Act.put, zA, zB, zC])
      refine wpAnyH_take_l (i := 12) (v := ?v1_12) rfl (by kernel_rfl) (by kernel_rfl) (by kernel_rfl) (fun _ _ _ h => h) (Or.inl ⟨by rfl, ?y1_12⟩) (by assumption) ?r1_12
      case y1_12 => (intro w hSw; (try dsimp only at hSw); go_simp <;> with_reducible rfl)
      (try simp only [Act.put, zA, zB, zC])
      refine wpAnyH_one_l (i := 2) rfl (by kernel_rfl) (fun K hK => ?_)
      go_simp
      (first | (go_at_call 31; ((with_reducible refine (HR1.out _ (HEE.out.trans (by first | assumption | exact Ext.drew (Ext.refl _)))).mono ?_)); rintro e wx ⟨i0, i1, rfl, hi0, hi1, hen1⟩; have hx1 : Ext wv wx := Ext.trans (by first | assumption | exact Ext.drew (Ext.refl _)) hen1) | (go_at_call 31; ((with_reducible refine (HR2.out _ _ _ (HPE.out.2.2.2.2.1.ext (by first | assumption | exact Ext.drew (Ext.refl _))) (HPE.out.2.2.2.2.2.ext (by first | assumption | exact Ext.drew (Ext.refl _)))).mono ?_)); rintro e wy ⟨k0, k1, rfl, hk0, hk1, hen2⟩; have hx2 : Ext wv wy := Ext.trans (by first | assumption | exact Ext.drew (Ext.refl _)) hen2) | (go_at_call 31; ((with_reducible refine (HR3.out _ (HEE.out.trans (by first | assumption | exact Ext.drew (Ext.refl _)))).mono ?_)); rintro e wz ⟨n0, n1, rfl, hn0, hn1, hen3⟩; have hx : Ext wv wz := Ext.trans (by first | assumption | exact Ext.drew (Ext.refl _)) hen3; clear gl; have XR := Blk.ext HJ.out.1 hx; have XS := Blk.ext HJ.out.2 hx))
      refine hK.out _ _ (by (try dsimp only); (first | (with_reducible assumption) | (with_reducible exact Own2.drew (Own2.refl _ _ _)) | (with_reducible (apply Own2.of_ext; assumption)))) (fun hH1_1 => ?_)
      clear hK K hH1_0
      (try simp only [Act.put, zA, zB, zC])
      refine wpAnyH_take_l (i := 6) (v := ?v1_6) rfl (by kernel_rfl) (by kernel_rfl) (by kernel_rfl) (fun _ _ _ h => h) (Or.inl ⟨by rfl, ?y1_6⟩) (by assumption) ?r1_6
      case y1_6 => (intro w hSw; (try dsimp only at hSw); go_simp <;> with_reducible rfl)
      (try simp only [Act.put, zA, zB, zC])
      refine wpAnyH_one_l (i := 8) rfl (by kernel_rfl) (fun K hK => ?_)
      go_simp
      (first | (go_at_call 31; ((with_reducible refine (HR1.out _ (HEE.out.trans (by first | assumption | exact Ext.drew (Ext.refl _)))).mono ?_)); rintro e wx ⟨i0, i1, rfl, hi0, hi1, hen1⟩; have hx1 : Ext wv wx := Ext.trans (by first | assumption | exact Ext.drew (Ext.refl _)) hen1) | (go_at_call 31; ((with_reducible refine (HR2.out _ _ _ (HPE.out.2.2.2.2.1.ext (by first | assumption | exact Ext.drew (Ext.refl _))) (HPE.out.2.2.2.2.2.ext (by first | assumption | exact Ext.drew (Ext.refl _)))).mono ?_)); rintro e wy ⟨k0, k1, rfl, hk0, hk1, hen2⟩; have hx2 : Ext wv wy := Ext.trans (by first | assumption | exact Ext.drew (Ext.refl _)) hen2) | (go_at_call 31; ((with_reducible refine (HR3.out _ (HEE.out.trans (by first | assumption | exact Ext.drew (Ext.refl _)))).mono ?_)); rintro e wz ⟨n0, n1, rfl, hn0, hn1, hen3⟩; have hx : Ext wv wz := Ext.trans (by first | assumption | exact Ext.drew (Ext.refl _)) hen3; clear gl; have XR := Blk.ext HJ.out.1 hx; have XS := Blk.ext HJ.out.2 hx))
      refine hK.out _ _ (by (try dsimp only); (first | (with_reducible assumption) | (with_reducible exact Own2.drew (Own2.refl _ _ _)) | (with_reducible (apply Own2.of_ext; assumption)))) (fun hH1_2 => ?_)
      clear hK K hH1_1
      (try simp only [Act.put, zA, zB, zC])
      refine wpAnyH_one_l (i := 13) rfl (by kernel_rfl) (fun K hK => ?_)
      go_simp
      (first | (go_at_call 31; ((with_reducible refine (HR1.out _ (HEE.out.trans (by first | assumption | exact Ext.drew (Ext.refl _)))).mono ?_)); rintro e wx ⟨i0, i1, rfl, hi0, hi1, hen1⟩; have hx1 : Ext wv wx := Ext.trans (by first | assumption | exact Ext.drew (Ext.refl _)) hen1) | (go_at_call 31; ((with_reducible refine (HR2.out _ _ _ (HPE.out.2.2.2.2.1.ext (by first | assumption | exact Ext.drew (Ext.refl _))) (HPE.out.2.2.2.2.2.ext (by first | assumption | exact Ext.drew (Ext.refl _)))).mono ?_)); rintro e wy ⟨k0, k1, rfl, hk0, hk1, hen2⟩; have hx2 : Ext wv wy := Ext.trans (by first | assumption | exact Ext.drew (Ext.refl _)) hen2) | (go_at_call 31; ((with_reducible refine (HR3.out _ (HEE.out.trans (by first | assumption | exact Ext.drew (Ext.refl _)))).mono ?_)); rintro e wz ⟨n0, n1, rfl, hn0, hn1, hen3⟩; have hx : Ext wv wz := Ext.trans (by first | assumption | exact Ext.drew (Ext.refl _)) hen3; clear gl; have XR := Blk.ext HJ.out.1 hx; have XS := Blk.ext HJ.out.2 hx))
      refine hK.out _ _ (by (try dsimp only); (first | (with_reducible assumption) | (with_reducible exact Own2.drew (Own2.refl _ _ _)) | (with_reducible (apply Own2.of_ext; assumption)))) (fun hH1_3 => ?_)
      clear hK K hH1_2
      (try simp only [Act.put, zA, zB, zC])
      refine wpAnyH_take_l (i := 14) (v := ?v1_14) rfl (by kernel_rfl) (by kernel_rfl) (by kernel_rfl) (fun _ _ _ h => h) (Or.inl ⟨by rfl, ?y1_14⟩) (by assumption) ?r1_14
      case y1_14 => (intro w hSw; (try dsimp only at hSw); go_simp <;> with_reducible rfl)
      (try simp only [Act.put, zA, zB, zC])
      have o1 := Own.setCells wz R #[.bool i0.n, .slice i0.p i0.l i0.c, .bool i0.m, .slice i0.p2 i0.l2 i0.c2, .bool i1.n, .slice i1.p i1.l i1.c, .bool i1.m, .slice i1.p2 i1.l2 i1.c2, .bool e0.n, .slice e0.p e0.l e0.c, .bool e0.m, .slice e0.p2 e0.l2 e0.c2, .bool e1.n, .slice e1.p e1.l e1.c, .bool e1.m, .slice e1.p2 e1.l2 e1.c2, .bool r0.n, .slice r0.p r0.l r0.c, .bool r0.m, .slice r0.p2 r0.l2 r0.c2, .bool r1.n, .slice r1.p r1.l r1.c, .bool r1.m, .slice r1.p2 r1.l2 r1.c2, .bool m0.n, .slice m0.p m0.l m0.c, .bool m0.m, .slice m0.p2 m0.l2 m0.c2, .bool m1.n, .slice m1.p m1.l m1.c, .bool m1.m, .slice m1.p2 m1.l2 m1.c2]
      have o2 := Own.setCells (wz.setCells R 0 (#[.bool i0.n, .slice i0.p i0.l i0.c, .bool i0.m, .slice i0.p2 i0.l2 i0.c2, .bool i1.n, .slice i1.p i1.l i1.c, .bool i1.m, .slice i1.p2 i1.l2 i1.c2, .bool e0.n, .slice e0.p e0.l e0.c, .bool e0.m, .slice e0.p2 e0.l2 e0.c2, .bool e1.n, .slice e1.p e1.l e1.c, .bool e1.m, .slice e1.p2 e1.l2 e1.c2, .bool r0.n, .slice r0.p r0.l r0.c, .bool r0.m, .slice r0.p2 r0.l2 r0.c2, .bool r1.n, .slice r1.p r1.l r1.c, .bool r1.m, .slice r1.p2 r1.l2 r1.c2, .bool m0.n, .slice m0.p m0.l m0.c, .bool m0.m, .slice m0.p2 m0.l2 m0.c2, .bool m1.n, .slice m1.p m1.l m1.c, .bool m1.m, .slice m1.p2 m1.l2 m1.c2] : Array Value).toList) R2 #[.bool k0.n, .slice k0.p k0.l k0.c, .bool k0.m, .slice k0.p2 k0.l2 k0.c2, .bool k1.n, .slice k1.p k1.l k1.c, .bool k1.m, .slice k1.p2 k1.l2 k1.c2, .bool u0.n, .slice u0.p u0.l u0.c, .bool u0.m, .slice u0.p2 u0.l2 u0.c2, .bool u1.n, .slice u1.p u1.l u1.c, .bool u1.m, .slice u1.p2 u1.l2 u1.c2, .bool g0.n, .slice g0.p g0.l g0.c, .bool g0.m, .slice g0.p2 g0.l2 g0.c2, .bool g1.n, .slice g1.p g1.l g1.c, .bool g1.m, .slice g1.p2 g1.l2 g1.c2, .bool n0.n, .slice n0.p n0.l n0.c, .bool n0.m, .slice n0.p2 n0.l2 n0.c2, .bool n1.n, .slice n1.p n1.l n1.c, .bool n1.m, .slice n1.p2 n1.l2 n1.c2]
      have XS1 := XS.own o1 hrr
      have XR1 := XR.setCells #[.bool i0.n, .slice i0.p i0.l i0.c, .bool i0.m, .slice i0.p2 i0.l2 i0.c2, .bool i1.n, .slice i1.p i1.l i1.c, .bool i1.m, .slice i1.p2 i1.l2 i1.c2, .bool e0.n, .slice e0.p e0.l e0.c, .bool e0.m, .slice e0.p2 e0.l2 e0.c2, .bool e1.n, .slice e1.p e1.l e1.c, .bool e1.m, .slice e1.p2 e1.l2 e1.c2, .bool r0.n, .slice r0.p r0.l r0.c, .bool r0.m, .slice r0.p2 r0.l2 r0.c2, .bool r1.n, .slice r1.p r1.l r1.c, .bool r1.m, .slice r1.p2 r1.l2 r1.c2, .bool m0.n, .slice m0.p m0.l m0.c, .bool m0.m, .slice m0.p2 m0.l2 m0.c2, .bool m1.n, .slice m1.p m1.l m1.c, .bool m1.m, .slice m1.p2 m1.l2 m1.c2] rfl
      have HS1 := zH (show Own2 R R2 wv (wz.setCells R 0 (#[.bool i0.n, .slice i0.p i0.l i0.c, .bool i0.m, .slice i0.p2 i0.l2 i0.c2, .bool i1.n, .slice i1.p i1.l i1.c, .bool i1.m, .slice i1.p2 i1.l2 i1.c2, .bool e0.n, .slice e0.p e0.l e0.c, .bool e0.m, .slice e0.p2 e0.l2 e0.c2, .bool e1.n, .slice e1.p e1.l e1.c, .bool e1.m, .slice e1.p2 e1.l2 e1.c2, .bool r0.n, .slice r0.p r0.l r0.c, .bool r0.m, .slice r0.p2 r0.l2 r0.c2, .bool r1.n, .slice r1.p r1.l r1.c, .bool r1.m, .slice r1.p2 r1.l2 r1.c2, .bool m0.n, .slice m0.p m0.l m0.c, .bool m0.m, .slice m0.p2 m0.l2 m0.c2, .bool m1.n, .slice m1.p m1.l m1.c, .bool m1.m, .slice m1.p2 m1.l2 m1.c2] : Array Value).toList) from Own2.one (Own.then_ext' hx o1))
      have HS2 := zH (show Own2 R R2 wv ((wz.setCells R 0 (#[.bool i0.n, .slice i0.p i0.l i0.c, .bool i0.m, .slice i0.p2 i0.l2 i0.c2, .bool i1.n, .slice i1.p i1.l i1.c, .bool i1.m, .slice i1.p2 i1.l2 i1.c2, .bool e0.n, .slice e0.p e0.l e0.c, .bool e0.m, .slice e0.p2 e0.l2 e0.c2, .bool e1.n, .slice e1.p e1.l e1.c, .bool e1.m, .slice e1.p2 e1.l2 e1.c2, .bool r0.n, .slice r0.p r0.l r0.c, .bool r0.m, .slice r0.p2 r0.l2 r0.c2, .bool r1.n, .slice r1.p r1.l r1.c, .bool r1.m, .slice r1.p2 r1.l2 r1.c2, .bool m0.n, .slice m0.p m0.l m0.c, .bool m0.m, .slice m0.p2 m0.l2 m0.c2, .bool m1.n, .slice m1.p m1.l m1.c, .bool m1.m, .slice m1.p2 m1.l2 m1.c2] : Array Value).toList).setCells R2 0 (#[.bool k0.n, .slice k0.p k0.l k0.c, .bool k0.m, .slice k0.p2 k0.l2 k0.c2, .bool k1.n, .slice k1.p k1.l k1.c, .bool k1.m, .slice k1.p2 k1.l2 k1.c2, .bool u0.n, .slice u0.p u0.l u0.c, .bool u0.m, .slice u0.p2 u0.l2 u0.c2, .bool u1.n, .slice u1.p u1.l u1.c, .bool u1.m, .slice u1.p2 u1.l2 u1.c2, .bool g0.n, .slice g0.p g0.l g0.c, .bool g0.m, .slice g0.p2 g0.l2 g0.c2, .bool g1.n, .slice g1.p g1.l g1.c, .bool g1.m, .slice g1.p2 g1.l2 g1.c2, .bool n0.n, .slice n0.p n0.l n0.c, .bool n0.m, .slice n0.p2 n0.l2 n0.c2, .bool n1.n, .slice n1.p n1.l n1.c, .bool n1.m, .slice n1.p2 n1.l2 n1.c2] : Array Value).toList) from ⟨_, Own.then_ext' hx o1, o2⟩)
      refine wpAnyH_store_l (i := 15) (by rfl) (by kernel_rfl) (by rfl) _ _ _ (by rfl) R _ _ #[.bool i0.n, .slice i0.p i0.l i0.c, .bool i0.m, .slice i0.p2 i0.l2 i0.c2, .bool i1.n, .slice i1.p i1.l i1.c, .bool i1.m, .slice i1.p2 i1.l2 i1.c2, .bool e0.n, .slice e0.p e0.l e0.c, .bool e0.m, .slice e0.p2 e0.l2 e0.c2, .bool e1.n, .slice e1.p e1.l e1.c, .bool e1.m, .slice e1.p2 e1.l2 e1.c2, .bool r0.n, .slice r0.p r0.l r0.c, .bool r0.m, .slice r0.p2 r0.l2 r0.c2, .bool r1.n, .slice r1.p r1.l r1.c, .bool r1.m, .slice r1.p2 r1.l2 r1.c2, .bool m0.n, .slice m0.p m0.l m0.c, .bool m0.m, .slice m0.p2 m0.l2 m0.c2, .bool m1.n, .slice m1.p m1.l m1.c, .bool m1.m, .slice m1.p2 m1.l2 m1.c2] (by rfl) (by rfl) XR rfl (by kernel_rfl) (all_oneCell_toArray (by simp [Value.oneCell'])) HS1.out ?_
      (try simp only [Act.put, zA, zB, zC])
      refine wpAnyH_store_l (i := 16) (by rfl) (by kernel_rfl) (by rfl) _ _ _ (by rfl) R2 _ _ #[.bool k0.n, .slice k0.p k0.l k0.c, .bool k0.m, .slice k0.p2 k0.l2 k0.c2, .bool k1.n, .slice k1.p k1.l k1.c, .bool k1.m, .slice k1.p2 k1.l2 k1.c2, .bool u0.n, .slice u0.p u0.l u0.c, .bool u0.m, .slice u0.p2 u0.l2 u0.c2, .bool u1.n, .slice u1.p u1.l u1.c, .bool u1.m, .slice u1.p2 u1.l2 u1.c2, .bool g0.n, .slice g0.p g0.l g0.c, .bool g0.m, .slice g0.p2 g0.l2 g0.c2, .bool g1.n, .slice g1.p g1.l g1.c, .bool g1.m, .slice g1.p2 g1.l2 g1.c2, .bool n0.n, .slice n0.p n0.l n0.c, .bool n0.m, .slice n0.p2 n0.l2 n0.c2, .bool n1.n, .slice n1.p n1.l n1.c, .bool n1.m, .slice n1.p2 n1.l2 n1.c2] (by rfl) (by rfl) XS1 rfl (by kernel_rfl) (all_oneCell_toArray (by simp [Value.oneCell'])) HS2.out ?_
      (try simp only [Act.put, zA, zB, zC])
      refine wpAnyH_done (by kernel_rfl) ?_ _
      have fin : ∀ (r : RV) (q : Rat), r.Is wz q → r.Is ((wz.setCells R 0 (#[.bool i0.n, .slice i0.p i0.l i0.c, .bool i0.m, .slice i0.p2 i0.l2 i0.c2, .bool i1.n, .slice i1.p i1.l i1.c, .bool i1.m, .slice i1.p2 i1.l2 i1.c2, .bool e0.n, .slice e0.p e0.l e0.c, .bool e0.m, .slice e0.p2 e0.l2 e0.c2, .bool e1.n, .slice e1.p e1.l e1.c, .bool e1.m, .slice e1.p2 e1.l2 e1.c2, .bool r0.n, .slice r0.p r0.l r0.c, .bool r0.m, .slice r0.p2 r0.l2 r0.c2, .bool r1.n, .slice r1.p r1.l r1.c, .bool r1.m, .slice r1.p2 r1.l2 r1.c2, .bool m0.n, .slice m0.p m0.l m0.c, .bool m0.m, .slice m0.p2 m0.l2 m0.c2, .bool m1.n, .slice m1.p m1.l m1.c, .bool m1.m, .slice m1.p2 m1.l2 m1.c2] : Array Value).toList).setCells R2 0 (#[.bool k0.n, .slice k0.p k0.l k0.c, .bool k0.m, .slice k0.p2 k0.l2 k0.c2, .bool k1.n, .slice k1.p k1.l k1.c, .bool k1.m, .slice k1.p2 k1.l2 k1.c2, .bool u0.n, .slice u0.p u0.l u0.c, .bool u0.m, .slice u0.p2 u0.l2 u0.c2, .bool u1.n, .slice u1.p u1.l u1.c, .bool u1.m, .slice u1.p2 u1.l2 u1.c2, .bool g0.n, .slice g0.p g0.l g0.c, .bool g0.m, .slice g0.p2 g0.l2 g0.c2, .bool g1.n, .slice g1.p g1.l g1.c, .bool g1.m, .slice g1.p2 g1.l2 g1.c2, .bool n0.n, .slice n0.p n0.l n0.c, .bool n0.m, .slice n0.p2 n0.l2 n0.c2, .bool n1.n, .slice n1.p n1.l n1.c, .bool n1.m, .slice n1.p2 n1.l2 n1.c2] : Array Value).toList) q := fun r q h => (h.own XR noU32 o1).own XS1 noU32 o2
      have ex := o2.ext (o1.ext (HEE.out.trans hx) (by rw [HAA.out]; have := HLT.out; omega)) (by rw [HAA.out]; have := HLT.out; omega)
      have BR := XR1.own o2 hrs
      have BS := XS1.setCells #[.bool k0.n, .slice k0.p k0.l k0.c, .bool k0.m, .slice k0.p2 k0.l2 k0.c2, .bool k1.n, .slice k1.p k1.l k1.c, .bool k1.m, .slice k1.p2 k1.l2 k1.c2, .bool u0.n, .slice u0.p u0.l u0.c, .bool u0.m, .slice u0.p2 u0.l2 u0.c2, .bool u1.n, .slice u1.p u1.l u1.c, .bool u1.m, .slice u1.p2 u1.l2 u1.c2, .bool g0.n, .slice g0.p g0.l g0.c, .bool g0.m, .slice g0.p2 g0.l2 g0.c2, .bool g1.n, .slice g1.p g1.l g1.c, .bool g1.m, .slice g1.p2 g1.l2 g1.c2, .bool n0.n, .slice n0.p n0.l n0.c, .bool n0.m, .slice n0.p2 n0.l2 n0.c2, .bool n1.n, .slice n1.p n1.l n1.c, .bool n1.m, .slice n1.p2 n1.l2 n1.c2] rfl
      generalize ((wz.setCells R 0 (#[.bool i0.n, .slice i0.p i0.l i0.c, .bool i0.m, .slice i0.p2 i0.l2 i0.c2, .bool i1.n, .slice i1.p i1.l i1.c, .bool i1.m, .slice i1.p2 i1.l2 i1.c2, .bool e0.n, .slice e0.p e0.l e0.c, .bool e0.m, .slice e0.p2 e0.l2 e0.c2, .bool e1.n, .slice e1.p e1.l e1.c, .bool e1.m, .slice e1.p2 e1.l2 e1.c2, .bool r0.n, .slice r0.p r0.l r0.c, .bool r0.m, .slice r0.p2 r0.l2 r0.c2, .bool r1.n, .slice r1.p r1.l r1.c, .bool r1.m, .slice r1.p2 r1.l2 r1.c2, .bool m0.n, .slice m0.p m0.l m0.c, .bool m0.m, .slice m0.p2 m0.l2 m0.c2, .bool m1.n, .slice m1.p m1.l m1.c, .bool m1.m, .slice m1.p2 m1.l2 m1.c2] : Array Value).toList).setCells R2 0 (#[.bool k0.n, .slice k0.p k0.l k0.c, .bool k0.m, .slice k0.p2 k0.l2 k0.c2, .bool k1.n, .slice k1.p k1.l k1.c, .bool k1.m, .slice k1.p2 k1.l2 k1.c2, .bool u0.n, .slice u0.p u0.l u0.c, .bool u0.m, .slice u0.p2 u0.l2 u0.c2, .bool u1.n, .slice u1.p u1.l u1.c, .bool u1.m, .slice u1.p2 u1.l2 u1.c2, .bool g0.n, .slice g0.p g0.l g0.c, .bool g0.m, .slice g0.p2 g0.l2 g0.c2, .bool g1.n, .slice g1.p g1.l g1.c, .bool g1.m, .slice g1.p2 g1.l2 g1.c2, .bool n0.n, .slice n0.p n0.l n0.c, .bool n0.m, .slice n0.p2 n0.l2 n0.c2, .bool n1.n, .slice n1.p n1.l n1.c, .bool n1.m, .slice n1.p2 n1.l2 n1.c2] : Array Value).toList) = wf at *
      have HF2 := zH (And.intro fin ex)
      clear fin ex o1 o2 XS1 XR1 XR XS HS1 HS2
      go_wp2_with fail
      refine bodyPost_ret (v := .tuple #[.agg #[.bool i0.n, .slice i0.p i0.l i0.c, .bool i0.m, .slice i0.p2 i0.l2 i0.c2, .bool i1.n, .slice i1.p i1.l i1.c, .bool i1.m, .slice i1.p2 i1.l2 i1.c2, .bool e0.n, .slice e0.p e0.l e0.c, .bool e0.m, .slice e0.p2 e0.l2 e0.c2, .bool e1.n, .slice e1.p e1.l e1.c, .bool e1.m, .slice e1.p2 e1.l2 e1.c2, .bool r0.n, .slice r0.p r0.l r0.c, .bool r0.m, .slice r0.p2 r0.l2 r0.c2, .bool r1.n, .slice r1.p r1.l r1.c, .bool r1.m, .slice r1.p2 r1.l2 r1.c2, .bool m0.n, .slice m0.p m0.l m0.c, .bool m0.m, .slice m0.p2 m0.l2 m0.c2, .bool m1.n, .slice m1.p m1.l m1.c, .bool m1.m, .slice m1.p2 m1.l2 m1.c2], .agg #[.bool k0.n, .slice k0.p k0.l k0.c, .bool k0.m, .slice k0.p2 k0.l2 k0.c2, .bool k1.n, .slice k1.p k1.l k1.c, .bool k1.m, .slice k1.p2 k1.l2 k1.c2, .bool u0.n, .slice u0.p u0.l u0.c, .bool u0.m, .slice u0.p2 u0.l2 u0.c2, .bool u1.n, .slice u1.p u1.l u1.c, .bool u1.m, .slice u1.p2 u1.l2 u1.c2, .bool g0.n, .slice g0.p g0.l g0.c, .bool g0.m, .slice g0.p2 g0.l2 g0.c2, .bool g1.n, .slice g1.p g1.l g1.c, .bool g1.m, .slice g1.p2 g1.l2 g1.c2, .bool n0.n, .slice n0.p n0.l n0.c, .bool n0.m, .slice n0.p2 n0.l2 n0.c2, .bool n1.n, .slice n1.p n1.l n1.c, .bool n1.m, .slice n1.p2 n1.l2 n1.c2]]) ?_ rfl ⟨i0, i1, e0, e1, r0, r1, m0, m1, k0, k1, u0, u1, g0, g1, n0, n1, rfl, ⟨HF2.out.1 _ _ (hi0.ext (hen2.trans hen3)), HF2.out.1 _ _ (hi1.ext (hen2.trans hen3)), HF2.out.1 _ _ (HPE.out.1.1.ext hx), HF2.out.1 _ _ (HPE.out.1.2.ext hx), HF2.out.1 _ _ (HPE.out.2.2.1.1.ext hx), HF2.out.1 _ _ (HPE.out.2.2.1.2.ext hx), HF2.out.1 _ _ (HPE.out.2.2.2.2.1.ext hx), HF2.out.1 _ _ (HPE.out.2.2.2.2.2.ext hx)⟩, ⟨HF2.out.1 _ _ (hk0.ext hen3), HF2.out.1 _ _ (hk1.ext hen3), HF2.out.1 _ _ (HPE.out.2.2.2.1.1.ext hx), HF2.out.1 _ _ (HPE.out.2.2.2.1.2.ext hx), HF2.out.1 _ _ (HPE.out.2.1.1.ext hx), HF2.out.1 _ _ (HPE.out.2.1.2.ext hx), HF2.out.1 _ _ (hn0), HF2.out.1 _ _ (hn1)⟩, HF2.out.2⟩
      exact results_cell2 rfl rfl rfl (BR.loadVar rfl rfl rfl) (BS.loadVar rfl rfl rfl)
end Go.Proofs.YtllpkoinjompcaaGreat

namespace Go.Proofs.YtllpkoinjompcaaGreat
open Go.RowKit
attribute [local go_sem ↓] Go.wp_at_zero Go.wp_at_succ run_max_ii run_min_ii

set_option maxHeartbeats 1000000 in
theorem sameInt_any (n m : Bool) (u v : Value) (z : Int) (w : World) (hu : IntC w n u z) (hv : IntC w m v z) (hL : Nm.nl z.natAbs ≤ 1000000) :
    Calls Tryz.prog 62 #[.agg #[.bool n, u], .agg #[.bool m, v]] w fun e w' => e = .returned (.bool true) ∧ Ext w w' := by
  obtain ⟨rfl, p, cp, rfl, _, _, h3⟩ := hu
  obtain ⟨rfl, q, cq, rfl, _, _, h4⟩ := hv
  unfold Nm.nl at hL
  generalize Nm.digs z.natAbs = xs at *
  generalize decide (z < 0) = s at *
  have H3 := zH h3
  have H4 := zH h4
  clear h3 h4
  have HG := zH (show ∀ x, Ext ((w.alloc (.cells #[.bool s, .slice p xs.length cp] 24)).alloc (.cells #[.bool s, .slice q xs.length cq] 24)) x →
      x.cell? ⟨w.heap.size, 0, none⟩ = some (.bool s) ∧ x.cell? ⟨w.heap.size, 1, none⟩ = some (.slice p xs.length cp) ∧ x.cell? ⟨w.heap.size + 1, 0, none⟩ = some (.bool s) ∧ x.cell? ⟨w.heap.size + 1, 1, none⟩ = some (.slice q xs.length cq) from fun x h =>
    ⟨h.get (by simp), h.get (by simp), h.get (by simp), h.get (by simp)⟩)
  have HW := zH (show Ext w ((w.alloc (.cells #[.bool s, .slice p xs.length cp] 24)).alloc (.cells #[.bool s, .slice q xs.length cq] 24)) from ((Ext.refl _).alloc _).alloc _)
  have hbb : (s != s) = false := by cases s <;> rfl
  go_enter Tryz.func62, Tryz.ntmps62
  go_wp2_with fail
  generalize ((w.alloc (.cells #[.bool s, .slice p xs.length cp] 24)).alloc (.cells #[.bool s, .slice q xs.length cq] 24)) = wa at *
  go_loopw [5] (fun i wr => ∃ k : Nat, k ≤ xs.length ∧ i = .int .i64 k ∧ Ext wa wr) (fun i _ => xs.length - (intOf i).toNat)
  case atStart => exact ⟨0, Nat.zero_le _, rfl, Ext.refl _⟩
  case round =>
    obtain ⟨k, hk, rfl, he⟩ := hrel
    have gl := HG.out _ he
    have HE := zH he
    clear he
    by_cases hlt : k < xs.length
    · obtain ⟨b, o, rfl, hb⟩ := H3.out (by omega)
      obtain ⟨b2, o2, rfl, hb2⟩ := H4.out (by omega)
      have c0 := (HW.out.trans HE.out).get (hb k hlt)
      have c1 := (HW.out.trans HE.out).get (hb2 k hlt)
      clear hb hb2
      generalize (xs.getD k 0 : Nat) = d at c0 c1
      go_wp2_with fail
      go_quiet (fail)
      go_wp2_with fail
      go_roundw
      case rel => exact ⟨k + 1, hlt, by go_num, HE.out.drewN _⟩
      case measure => simp [intOf]; omega
    · go_wp2_with fail
      go_ret
      exact ⟨rfl, HW.out.trans HE.out⟩

set_option maxHeartbeats 1000000 in
theorem same_any (a b : RV) (q : Rat) (L : Nat) (w : World) (ha : a.Is w q) (hb : b.Is w q) (hq : Nm.rl q ≤ L) (hL : L ≤ 1000000) :
    Calls Tryz.prog 34 #[.agg #[.bool a.n, .slice a.p a.l a.c, .bool a.m, .slice a.p2 a.l2 a.c2], .agg #[.bool b.n, .slice b.p b.l b.c, .bool b.m, .slice b.p2 b.l2 b.c2]] w fun e w' => e = .returned (.bool true) ∧ Ext w w' := by
  have H1 := zH (fun W (x : Ext w W) => sameInt_any a.n b.n _ _ q.num W (ha.1.ext x) (hb.1.ext x) (by have := Nat.le_max_left (Nm.nl q.num.natAbs) (Nm.nl q.den); unfold Nm.rl at hq; omega))
  have H2 := zH (fun W (x : Ext w W) => sameInt_any a.m b.m _ _ (q.den : Int) W (ha.2.ext x) (hb.2.ext x) (by have := Nat.le_max_right (Nm.nl q.num.natAbs) (Nm.nl q.den); unfold Nm.rl at hq; simp only [Int.natAbs_natCast]; omega))
  have HG := zH (show ∀ x, Ext ((w.alloc (.cells #[.bool a.n, .slice a.p a.l a.c, .bool a.m, .slice a.p2 a.l2 a.c2] 26)).alloc (.cells #[.bool b.n, .slice b.p b.l b.c, .bool b.m, .slice b.p2 b.l2 b.c2] 26)) x →
      x.cell? ⟨w.heap.size, 0, none⟩ = some (.bool a.n) ∧ x.cell? ⟨w.heap.size, 1, none⟩ = some (.slice a.p a.l a.c) ∧ x.cell? ⟨w.heap.size, 2, none⟩ = some (.bool a.m) ∧ x.cell? ⟨w.heap.size, 3, none⟩ = some (.slice a.p2 a.l2 a.c2) ∧
      x.cell? ⟨w.heap.size + 1, 0, none⟩ = some (.bool b.n) ∧ x.cell? ⟨w.heap.size + 1, 1, none⟩ = some (.slice b.p b.l b.c) ∧ x.cell? ⟨w.heap.size + 1, 2, none⟩ = some (.bool b.m) ∧ x.cell? ⟨w.heap.size + 1, 3, none⟩ = some (.slice b.p2 b.l2 b.c2) from fun x h =>
    ⟨h.get (by simp), h.get (by simp), h.get (by simp), h.get (by simp), h.get (by simp), h.get (by simp), h.get (by simp), h.get (by simp)⟩)
  have HW := zH (show Ext w ((w.alloc (.cells #[.bool a.n, .slice a.p a.l a.c, .bool a.m, .slice a.p2 a.l2 a.c2] 26)).alloc (.cells #[.bool b.n, .slice b.p b.l b.c, .bool b.m, .slice b.p2 b.l2 b.c2] 26)) from ((Ext.refl _).alloc _).alloc _)
  clear ha hb
  go_enter Tryz.func34, Tryz.ntmps34
  go_wp2_with fail
  generalize ((w.alloc (.cells #[.bool a.n, .slice a.p a.l a.c, .bool a.m, .slice a.p2 a.l2 a.c2] 26)).alloc (.cells #[.bool b.n, .slice b.p b.l b.c, .bool b.m, .slice b.p2 b.l2 b.c2] 26)) = wa at *
  have gl := HG.out _ (Ext.refl _)
  go_wp2_with fail
  refine (H1.out _ HW.out).mono ?_
  rintro e wx ⟨rfl, hx1⟩
  clear gl
  have gl := HG.out _ hx1
  go_wp2_with fail
  refine (H2.out _ (HW.out.trans hx1)).mono ?_
  rintro e wy ⟨rfl, hx2⟩
  go_wp2_with fail
  go_ret
  exact ⟨rfl, HW.out.trans (hx1.trans hx2)⟩
end Go.Proofs.YtllpkoinjompcaaGreat

namespace Go.Proofs.YtllpkoinjompcaaGreat
open Go.RowKit
attribute [local go_sem ↓] Go.wp_at_zero Go.wp_at_succ run_max_ii run_min_ii

def RV.short (a : RV) : Bool := decide (a.l ≤ 6) && decide (a.l2 ≤ 6)
theorem xshort_any (a : RV) (w : World) :
    Calls Tryz.prog 6 #[.agg #[.bool a.n, .slice a.p a.l a.c, .bool a.m, .slice a.p2 a.l2 a.c2]] w fun e w' => e = .returned (.bool a.short) ∧ Ext w w' := by
  have HG := zH (show ∀ x, Ext (w.alloc (.cells #[.bool a.n, .slice a.p a.l a.c, .bool a.m, .slice a.p2 a.l2 a.c2] 26)) x → x.cell? ⟨w.heap.size, 0, none⟩ = some (.bool a.n) ∧ x.cell? ⟨w.heap.size, 1, none⟩ = some (.slice a.p a.l a.c) ∧ x.cell? ⟨w.heap.size, 2, none⟩ = some (.bool a.m) ∧ x.cell? ⟨w.heap.size, 3, none⟩ = some (.slice a.p2 a.l2 a.c2) from fun x h => ⟨h.get (by simp), h.get (by simp), h.get (by simp), h.get (by simp)⟩)
  have gl := HG.out _ (Ext.refl _)
  by_cases hl : a.l ≤ 6
  · by_cases hl2 : a.l2 ≤ 6
    · have e1 : decide ((a.l : Int) ≤ 6) = true := by simp; omega
      have e2 : decide ((a.l2 : Int) ≤ 6) = true := by simp; omega
      have hr : a.short = true := by unfold RV.short; simp [hl, hl2]
      rw [hr]
      clear hr
      go_enter Tryz.func6, Tryz.ntmps6
      go_wp2_with fail
      go_ret
      exact ⟨rfl, (Ext.refl _).alloc _⟩
    · have e1 : decide ((a.l : Int) ≤ 6) = true := by simp; omega
      have e2 : decide ((a.l2 : Int) ≤ 6) = false := by simp; omega
      have hr : a.short = false := by unfold RV.short; simp [hl, hl2]
      rw [hr]
      clear hr
      go_enter Tryz.func6, Tryz.ntmps6
      go_wp2_with fail
      go_ret
      exact ⟨rfl, (Ext.refl _).alloc _⟩
  · have e1 : decide ((a.l : Int) ≤ 6) = false := by simp; omega
    have hr : a.short = false := by unfold RV.short; simp [hl]
    rw [hr]
    clear hr
    go_enter Tryz.func6, Tryz.ntmps6
    go_wp2_with fail
    go_ret
    exact ⟨rfl, (Ext.refl _).alloc _⟩

set_option maxRecDepth 20000 in
set_option maxHeartbeats 2000000 in
theorem exactQuad_any (a0 a1 b0 b1 c0 c1 d0 d1 : RV) (w : World) :
    Calls Tryz.prog 8 #[.agg #[.bool a0.n, .slice a0.p a0.l a0.c, .bool a0.m, .slice a0.p2 a0.l2 a0.c2, .bool a1.n, .slice a1.p a1.l a1.c, .bool a1.m, .slice a1.p2 a1.l2 a1.c2, .bool b0.n, .slice b0.p b0.l b0.c, .bool b0.m, .slice b0.p2 b0.l2 b0.c2, .bool b1.n, .slice b1.p b1.l b1.c, .bool b1.m, .slice b1.p2 b1.l2 b1.c2, .bool c0.n, .slice c0.p c0.l c0.c, .bool c0.m, .slice c0.p2 c0.l2 c0.c2, .bool c1.n, .slice c1.p c1.l c1.c, .bool c1.m, .slice c1.p2 c1.l2 c1.c2, .bool d0.n, .slice d0.p d0.l d0.c, .bool d0.m, .slice d0.p2 d0.l2 d0.c2, .bool d1.n, .slice d1.p d1.l d1.c, .bool d1.m, .slice d1.p2 d1.l2 d1.c2]] w fun e w' => e = .returned (.agg #[.bool a0.n, .slice a0.p a0.l a0.c, .bool a0.m, .slice a0.p2 a0.l2 a0.c2, .bool a1.n, .slice a1.p a1.l a1.c, .bool a1.m, .slice a1.p2 a1.l2 a1.c2, .bool b0.n, .slice b0.p b0.l b0.c, .bool b0.m, .slice b0.p2 b0.l2 b0.c2, .bool b1.n, .slice b1.p b1.l b1.c, .bool b1.m, .slice b1.p2 b1.l2 b1.c2, .bool c0.n, .slice c0.p c0.l c0.c, .bool c0.m, .slice c0.p2 c0.l2 c0.c2, .bool c1.n, .slice c1.p c1.l c1.c, .bool c1.m, .slice c1.p2 c1.l2 c1.c2]) ∧ Ext w w' := by
  have HG := zH (show ∀ x, Ext ((w.alloc (.cells #[.bool a0.n, .slice a0.p a0.l a0.c, .bool a0.m, .slice a0.p2 a0.l2 a0.c2, .bool a1.n, .slice a1.p a1.l a1.c, .bool a1.m, .slice a1.p2 a1.l2 a1.c2, .bool b0.n, .slice b0.p b0.l b0.c, .bool b0.m, .slice b0.p2 b0.l2 b0.c2, .bool b1.n, .slice b1.p b1.l b1.c, .bool b1.m, .slice b1.p2 b1.l2 b1.c2, .bool c0.n, .slice c0.p c0.l c0.c, .bool c0.m, .slice c0.p2 c0.l2 c0.c2, .bool c1.n, .slice c1.p c1.l c1.c, .bool c1.m, .slice c1.p2 c1.l2 c1.c2, .bool d0.n, .slice d0.p d0.l d0.c, .bool d0.m, .slice d0.p2 d0.l2 d0.c2, .bool d1.n, .slice d1.p d1.l d1.c, .bool d1.m, .slice d1.p2 d1.l2 d1.c2] 28)).alloc (.cells #[.bool RV.zero.n, .slice RV.zero.p RV.zero.l RV.zero.c, .bool RV.zero.m, .slice RV.zero.p2 RV.zero.l2 RV.zero.c2, .bool RV.zero.n, .slice RV.zero.p RV.zero.l RV.zero.c, .bool RV.zero.m, .slice RV.zero.p2 RV.zero.l2 RV.zero.c2, .bool RV.zero.n, .slice RV.zero.p RV.zero.l RV.zero.c, .bool RV.zero.m, .slice RV.zero.p2 RV.zero.l2 RV.zero.c2, .bool RV.zero.n, .slice RV.zero.p RV.zero.l RV.zero.c, .bool RV.zero.m, .slice RV.zero.p2 RV.zero.l2 RV.zero.c2, .bool RV.zero.n, .slice RV.zero.p RV.zero.l RV.zero.c, .bool RV.zero.m, .slice RV.zero.p2 RV.zero.l2 RV.zero.c2, .bool RV.zero.n, .slice RV.zero.p RV.zero.l RV.zero.c, .bool RV.zero.m, .slice RV.zero.p2 RV.zero.l2 RV.zero.c2] 32)) x → x.cell? ⟨w.heap.size, 0, none⟩ = some (.bool a0.n) ∧ x.cell? ⟨w.heap.size, 1, none⟩ = some (.slice a0.p a0.l a0.c) ∧ x.cell? ⟨w.heap.size, 2, none⟩ = some (.bool a0.m) ∧ x.cell? ⟨w.heap.size, 3, none⟩ = some (.slice a0.p2 a0.l2 a0.c2) ∧ x.cell? ⟨w.heap.size, 4, none⟩ = some (.bool a1.n) ∧ x.cell? ⟨w.heap.size, 5, none⟩ = some (.slice a1.p a1.l a1.c) ∧ x.cell? ⟨w.heap.size, 6, none⟩ = some (.bool a1.m) ∧ x.cell? ⟨w.heap.size, 7, none⟩ = some (.slice a1.p2 a1.l2 a1.c2) ∧ x.cell? ⟨w.heap.size, 8, none⟩ = some (.bool b0.n) ∧ x.cell? ⟨w.heap.size, 9, none⟩ = some (.slice b0.p b0.l b0.c) ∧ x.cell? ⟨w.heap.size, 10, none⟩ = some (.bool b0.m) ∧ x.cell? ⟨w.heap.size, 11, none⟩ = some (.slice b0.p2 b0.l2 b0.c2) ∧ x.cell? ⟨w.heap.size, 12, none⟩ = some (.bool b1.n) ∧ x.cell? ⟨w.heap.size, 13, none⟩ = some (.slice b1.p b1.l b1.c) ∧ x.cell? ⟨w.heap.size, 14, none⟩ = some (.bool b1.m) ∧ x.cell? ⟨w.heap.size, 15, none⟩ = some (.slice b1.p2 b1.l2 b1.c2) ∧ x.cell? ⟨w.heap.size, 16, none⟩ = some (.bool c0.n) ∧ x.cell? ⟨w.heap.size, 17, none⟩ = some (.slice c0.p c0.l c0.c) ∧ x.cell? ⟨w.heap.size, 18, none⟩ = some (.bool c0.m) ∧ x.cell? ⟨w.heap.size, 19, none⟩ = some (.slice c0.p2 c0.l2 c0.c2) ∧ x.cell? ⟨w.heap.size, 20, none⟩ = some (.bool c1.n) ∧ x.cell? ⟨w.heap.size, 21, none⟩ = some (.slice c1.p c1.l c1.c) ∧ x.cell? ⟨w.heap.size, 22, none⟩ = some (.bool c1.m) ∧ x.cell? ⟨w.heap.size, 23, none⟩ = some (.slice c1.p2 c1.l2 c1.c2) ∧ x.cell? ⟨w.heap.size, 24, none⟩ = some (.bool d0.n) ∧ x.cell? ⟨w.heap.size, 25, none⟩ = some (.slice d0.p d0.l d0.c) ∧ x.cell? ⟨w.heap.size, 26, none⟩ = some (.bool d0.m) ∧ x.cell? ⟨w.heap.size, 27, none⟩ = some (.slice d0.p2 d0.l2 d0.c2) ∧ x.cell? ⟨w.heap.size, 28, none⟩ = some (.bool d1.n) ∧ x.cell? ⟨w.heap.size, 29, none⟩ = some (.slice d1.p d1.l d1.c) ∧ x.cell? ⟨w.heap.size, 30, none⟩ = some (.bool d1.m) ∧ x.cell? ⟨w.heap.size, 31, none⟩ = some (.slice d1.p2 d1.l2 d1.c2) from fun x h => ⟨h.get (by simp), h.get (by simp), h.get (by simp), h.get (by simp), h.get (by simp), h.get (by simp), h.get (by simp), h.get (by simp), h.get (by simp), h.get (by simp), h.get (by simp), h.get (by simp), h.get (by simp), h.get (by simp), h.get (by simp), h.get (by simp), h.get (by simp), h.get (by simp), h.get (by simp), h.get (by simp), h.get (by simp), h.get (by simp), h.get (by simp), h.get (by simp), h.get (by simp), h.get (by simp), h.get (by simp), h.get (by simp), h.get (by simp), h.get (by simp), h.get (by simp), h.get (by simp)⟩)
  have gl := HG.out _ (Ext.refl _)
  have bR : Blk ((w.alloc (.cells #[.bool a0.n, .slice a0.p a0.l a0.c, .bool a0.m, .slice a0.p2 a0.l2 a0.c2, .bool a1.n, .slice a1.p a1.l a1.c, .bool a1.m, .slice a1.p2 a1.l2 a1.c2, .bool b0.n, .slice b0.p b0.l b0.c, .bool b0.m, .slice b0.p2 b0.l2 b0.c2, .bool b1.n, .slice b1.p b1.l b1.c, .bool b1.m, .slice b1.p2 b1.l2 b1.c2, .bool c0.n, .slice c0.p c0.l c0.c, .bool c0.m, .slice c0.p2 c0.l2 c0.c2, .bool c1.n, .slice c1.p c1.l c1.c, .bool c1.m, .slice c1.p2 c1.l2 c1.c2, .bool d0.n, .slice d0.p d0.l d0.c, .bool d0.m, .slice d0.p2 d0.l2 d0.c2, .bool d1.n, .slice d1.p d1.l d1.c, .bool d1.m, .slice d1.p2 d1.l2 d1.c2] 28)).alloc (.cells #[.bool RV.zero.n, .slice RV.zero.p RV.zero.l RV.zero.c, .bool RV.zero.m, .slice RV.zero.p2 RV.zero.l2 RV.zero.c2, .bool RV.zero.n, .slice RV.zero.p RV.zero.l RV.zero.c, .bool RV.zero.m, .slice RV.zero.p2 RV.zero.l2 RV.zero.c2, .bool RV.zero.n, .slice RV.zero.p RV.zero.l RV.zero.c, .bool RV.zero.m, .slice RV.zero.p2 RV.zero.l2 RV.zero.c2, .bool RV.zero.n, .slice RV.zero.p RV.zero.l RV.zero.c, .bool RV.zero.m, .slice RV.zero.p2 RV.zero.l2 RV.zero.c2, .bool RV.zero.n, .slice RV.zero.p RV.zero.l RV.zero.c, .bool RV.zero.m, .slice RV.zero.p2 RV.zero.l2 RV.zero.c2, .bool RV.zero.n, .slice RV.zero.p RV.zero.l RV.zero.c, .bool RV.zero.m, .slice RV.zero.p2 RV.zero.l2 RV.zero.c2] 32)) (w.heap.size + 1) 32 #[.bool RV.zero.n, .slice RV.zero.p RV.zero.l RV.zero.c, .bool RV.zero.m, .slice RV.zero.p2 RV.zero.l2 RV.zero.c2, .bool RV.zero.n, .slice RV.zero.p RV.zero.l RV.zero.c, .bool RV.zero.m, .slice RV.zero.p2 RV.zero.l2 RV.zero.c2, .bool RV.zero.n, .slice RV.zero.p RV.zero.l RV.zero.c, .bool RV.zero.m, .slice RV.zero.p2 RV.zero.l2 RV.zero.c2, .bool RV.zero.n, .slice RV.zero.p RV.zero.l RV.zero.c, .bool RV.zero.m, .slice RV.zero.p2 RV.zero.l2 RV.zero.c2, .bool RV.zero.n, .slice RV.zero.p RV.zero.l RV.zero.c, .bool RV.zero.m, .slice RV.zero.p2 RV.zero.l2 RV.zero.c2, .bool RV.zero.n, .slice RV.zero.p RV.zero.l RV.zero.c, .bool RV.zero.m, .slice RV.zero.p2 RV.zero.l2 RV.zero.c2] := Blk.new_at _ _ (by simp) _ _
  have hE : Ext w ((w.alloc (.cells #[.bool a0.n, .slice a0.p a0.l a0.c, .bool a0.m, .slice a0.p2 a0.l2 a0.c2, .bool a1.n, .slice a1.p a1.l a1.c, .bool a1.m, .slice a1.p2 a1.l2 a1.c2, .bool b0.n, .slice b0.p b0.l b0.c, .bool b0.m, .slice b0.p2 b0.l2 b0.c2, .bool b1.n, .slice b1.p b1.l b1.c, .bool b1.m, .slice b1.p2 b1.l2 b1.c2, .bool c0.n, .slice c0.p c0.l c0.c, .bool c0.m, .slice c0.p2 c0.l2 c0.c2, .bool c1.n, .slice c1.p c1.l c1.c, .bool c1.m, .slice c1.p2 c1.l2 c1.c2, .bool d0.n, .slice d0.p d0.l d0.c, .bool d0.m, .slice d0.p2 d0.l2 d0.c2, .bool d1.n, .slice d1.p d1.l d1.c, .bool d1.m, .slice d1.p2 d1.l2 d1.c2] 28)).alloc (.cells #[.bool RV.zero.n, .slice RV.zero.p RV.zero.l RV.zero.c, .bool RV.zero.m, .slice RV.zero.p2 RV.zero.l2 RV.zero.c2, .bool RV.zero.n, .slice RV.zero.p RV.zero.l RV.zero.c, .bool RV.zero.m, .slice RV.zero.p2 RV.zero.l2 RV.zero.c2, .bool RV.zero.n, .slice RV.zero.p RV.zero.l RV.zero.c, .bool RV.zero.m, .slice RV.zero.p2 RV.zero.l2 RV.zero.c2, .bool RV.zero.n, .slice RV.zero.p RV.zero.l RV.zero.c, .bool RV.zero.m, .slice RV.zero.p2 RV.zero.l2 RV.zero.c2, .bool RV.zero.n, .slice RV.zero.p RV.zero.l RV.zero.c, .bool RV.zero.m, .slice RV.zero.p2 RV.zero.l2 RV.zero.c2, .bool RV.zero.n, .slice RV.zero.p RV.zero.l RV.zero.c, .bool RV.zero.m, .slice RV.zero.p2 RV.zero.l2 RV.zero.c2] 32)) := ((Ext.refl _).alloc _).alloc _
  have hlt : w.heap.size ≤ w.heap.size + 1 := by omega
  go_enter Tryz.func8, Tryz.ntmps8
  go_upto_region 1 with fail
  obtain ⟨wa, hwa⟩ : ∃ wa, wa = ((w.alloc (.cells #[.bool a0.n, .slice a0.p a0.l a0.c, .bool a0.m, .slice a0.p2 a0.l2 a0.c2, .bool a1.n, .slice a1.p a1.l a1.c, .bool a1.m, .slice a1.p2 a1.l2 a1.c2, .bool b0.n, .slice b0.p b0.l b0.c, .bool b0.m, .slice b0.p2 b0.l2 b0.c2, .bool b1.n, .slice b1.p b1.l b1.c, .bool b1.m, .slice b1.p2 b1.l2 b1.c2, .bool c0.n, .slice c0.p c0.l c0.c, .bool c0.m, .slice c0.p2 c0.l2 c0.c2, .bool c1.n, .slice c1.p c1.l c1.c, .bool c1.m, .slice c1.p2 c1.l2 c1.c2, .bool d0.n, .slice d0.p d0.l d0.c, .bool d0.m, .slice d0.p2 d0.l2 d0.c2, .bool d1.n, .slice d1.p d1.l d1.c, .bool d1.m, .slice d1.p2 d1.l2 d1.c2] 28)).alloc (.cells #[.bool RV.zero.n, .slice RV.zero.p RV.zero.l RV.zero.c, .bool RV.zero.m, .slice RV.zero.p2 RV.zero.l2 RV.zero.c2, .bool RV.zero.n, .slice RV.zero.p RV.zero.l RV.zero.c, .bool RV.zero.m, .slice RV.zero.p2 RV.zero.l2 RV.zero.c2, .bool RV.zero.n, .slice RV.zero.p RV.zero.l RV.zero.c, .bool RV.zero.m, .slice RV.zero.p2 RV.zero.l2 RV.zero.c2, .bool RV.zero.n, .slice RV.zero.p RV.zero.l RV.zero.c, .bool RV.zero.m, .slice RV.zero.p2 RV.zero.l2 RV.zero.c2, .bool RV.zero.n, .slice RV.zero.p RV.zero.l RV.zero.c, .bool RV.zero.m, .slice RV.zero.p2 RV.zero.l2 RV.zero.c2, .bool RV.zero.n, .slice RV.zero.p RV.zero.l RV.zero.c, .bool RV.zero.m, .slice RV.zero.p2 RV.zero.l2 RV.zero.c2] 32)) := ⟨_, rfl⟩
  have hwa2 := hwa
  simp only [RV.zero] at hwa2
  rw [← hwa] at HG gl bR hE
  rw [← hwa2]
  clear hwa hwa2
  generalize w.heap.size + 1 = R at *
  refine wp_region_lit ?_
  refine wpList_val (v := ?v0) (w' := wa) rfl ?h0 ?r0
  case h0 => (go_simp <;> with_reducible rfl)
  (try simp only [Act.put, zA, zB, zC])
  refine wpList_val (v := ?v1) (w' := wa) rfl ?h1 ?r1
  case h1 => (go_simp <;> with_reducible rfl)
  (try simp only [Act.put, zA, zB, zC])
  refine wpList_val (v := ?v2) (w' := wa) rfl ?h2 ?r2
  case h2 => (go_simp <;> with_reducible rfl)
  (try simp only [Act.put, zA, zB, zC])
  refine wpList_val (v := ?v3) (w' := wa) rfl ?h3 ?r3
  case h3 => (go_simp <;> with_reducible rfl)
  (try simp only [Act.put, zA, zB, zC])
  refine wpList_val (v := ?v4) (w' := wa) rfl ?h4 ?r4
  case h4 => (go_simp <;> with_reducible rfl)
  (try simp only [Act.put, zA, zB, zC])
  refine wpList_val (v := ?v5) (w' := wa) rfl ?h5 ?r5
  case h5 => (go_simp <;> with_reducible rfl)
  (try simp only [Act.put, zA, zB, zC])
  refine wpList_val (v := ?v6) (w' := wa) rfl ?h6 ?r6
  case h6 => (go_simp <;> with_reducible rfl)
  (try simp only [Act.put, zA, zB, zC])
  refine wpList_store_blk rfl _ _ _ rfl R _ _ #[.bool a0.n, .slice a0.p a0.l a0.c, .bool a0.m, .slice a0.p2 a0.l2 a0.c2, .bool a1.n, .slice a1.p a1.l a1.c, .bool a1.m, .slice a1.p2 a1.l2 a1.c2, .bool b0.n, .slice b0.p b0.l b0.c, .bool b0.m, .slice b0.p2 b0.l2 b0.c2, .bool b1.n, .slice b1.p b1.l b1.c, .bool b1.m, .slice b1.p2 b1.l2 b1.c2, .bool c0.n, .slice c0.p c0.l c0.c, .bool c0.m, .slice c0.p2 c0.l2 c0.c2, .bool c1.n, .slice c1.p c1.l c1.c, .bool c1.m, .slice c1.p2 c1.l2 c1.c2] (by rfl) (by rfl) bR rfl (by kernel_rfl) (all_oneCell_toArray (by simp [Value.oneCell'])) ?_
  (try simp only [Act.put, zA, zB, zC])
  have hb := bR.setCells #[.bool a0.n, .slice a0.p a0.l a0.c, .bool a0.m, .slice a0.p2 a0.l2 a0.c2, .bool a1.n, .slice a1.p a1.l a1.c, .bool a1.m, .slice a1.p2 a1.l2 a1.c2, .bool b0.n, .slice b0.p b0.l b0.c, .bool b0.m, .slice b0.p2 b0.l2 b0.c2, .bool b1.n, .slice b1.p b1.l b1.c, .bool b1.m, .slice b1.p2 b1.l2 b1.c2, .bool c0.n, .slice c0.p c0.l c0.c, .bool c0.m, .slice c0.p2 c0.l2 c0.c2, .bool c1.n, .slice c1.p c1.l c1.c, .bool c1.m, .slice c1.p2 c1.l2 c1.c2] rfl
  have ho := Own.setCells wa R #[.bool a0.n, .slice a0.p a0.l a0.c, .bool a0.m, .slice a0.p2 a0.l2 a0.c2, .bool a1.n, .slice a1.p a1.l a1.c, .bool a1.m, .slice a1.p2 a1.l2 a1.c2, .bool b0.n, .slice b0.p b0.l b0.c, .bool b0.m, .slice b0.p2 b0.l2 b0.c2, .bool b1.n, .slice b1.p b1.l b1.c, .bool b1.m, .slice b1.p2 b1.l2 b1.c2, .bool c0.n, .slice c0.p c0.l c0.c, .bool c0.m, .slice c0.p2 c0.l2 c0.c2, .bool c1.n, .slice c1.p c1.l c1.c, .bool c1.m, .slice c1.p2 c1.l2 c1.c2]
  generalize wa.setCells R 0 (#[.bool a0.n, .slice a0.p a0.l a0.c, .bool a0.m, .slice a0.p2 a0.l2 a0.c2, .bool a1.n, .slice a1.p a1.l a1.c, .bool a1.m, .slice a1.p2 a1.l2 a1.c2, .bool b0.n, .slice b0.p b0.l b0.c, .bool b0.m, .slice b0.p2 b0.l2 b0.c2, .bool b1.n, .slice b1.p b1.l b1.c, .bool b1.m, .slice b1.p2 b1.l2 b1.c2, .bool c0.n, .slice c0.p c0.l c0.c, .bool c0.m, .slice c0.p2 c0.l2 c0.c2, .bool c1.n, .slice c1.p c1.l c1.c, .bool c1.m, .slice c1.p2 c1.l2 c1.c2] : Array Value).toList = wb at *
  go_wp2_with fail
  refine bodyPost_ret (v := .agg #[.bool a0.n, .slice a0.p a0.l a0.c, .bool a0.m, .slice a0.p2 a0.l2 a0.c2, .bool a1.n, .slice a1.p a1.l a1.c, .bool a1.m, .slice a1.p2 a1.l2 a1.c2, .bool b0.n, .slice b0.p b0.l b0.c, .bool b0.m, .slice b0.p2 b0.l2 b0.c2, .bool b1.n, .slice b1.p b1.l b1.c, .bool b1.m, .slice b1.p2 b1.l2 b1.c2, .bool c0.n, .slice c0.p c0.l c0.c, .bool c0.m, .slice c0.p2 c0.l2 c0.c2, .bool c1.n, .slice c1.p c1.l c1.c, .bool c1.m, .slice c1.p2 c1.l2 c1.c2]) ?_ rfl ⟨rfl, ho.ext hE hlt⟩
  exact results_cell1 rfl rfl (hb.loadVar rfl rfl rfl)

set_option maxHeartbeats 1000000 in
theorem samePoint_any (a b c d : RV) (x y : Rat) (L : Nat) (w : World) (ha : a.Is w x) (hb : b.Is w y) (hc : c.Is w x) (hd : d.Is w y) (hx : Nm.rl x ≤ L) (hy : Nm.rl y ≤ L) (hL : L ≤ 1000000) :
    Calls Tryz.prog 13 #[.agg #[.bool a.n, .slice a.p a.l a.c, .bool a.m, .slice a.p2 a.l2 a.c2, .bool b.n, .slice b.p b.l b.c, .bool b.m, .slice b.p2 b.l2 b.c2], .agg #[.bool c.n, .slice c.p c.l c.c, .bool c.m, .slice c.p2 c.l2 c.c2, .bool d.n, .slice d.p d.l d.c, .bool d.m, .slice d.p2 d.l2 d.c2]] w fun e w' => e = .returned (.bool true) ∧ Ext w w' := by
  have H1 := zH (fun W (e : Ext w W) => same_any a c x L W (ha.ext e) (hc.ext e) hx hL)
  have H2 := zH (fun W (e : Ext w W) => same_any b d y L W (hb.ext e) (hd.ext e) hy hL)
  have HG := zH (show ∀ x, Ext ((w.alloc (.cells #[.bool a.n, .slice a.p a.l a.c, .bool a.m, .slice a.p2 a.l2 a.c2, .bool b.n, .slice b.p b.l b.c, .bool b.m, .slice b.p2 b.l2 b.c2] 27)).alloc (.cells #[.bool c.n, .slice c.p c.l c.c, .bool c.m, .slice c.p2 c.l2 c.c2, .bool d.n, .slice d.p d.l d.c, .bool d.m, .slice d.p2 d.l2 d.c2] 27)) x → x.cell? ⟨w.heap.size, 0, none⟩ = some (.bool a.n) ∧ x.cell? ⟨w.heap.size, 1, none⟩ = some (.slice a.p a.l a.c) ∧ x.cell? ⟨w.heap.size, 2, none⟩ = some (.bool a.m) ∧ x.cell? ⟨w.heap.size, 3, none⟩ = some (.slice a.p2 a.l2 a.c2) ∧ x.cell? ⟨w.heap.size, 4, none⟩ = some (.bool b.n) ∧ x.cell? ⟨w.heap.size, 5, none⟩ = some (.slice b.p b.l b.c) ∧ x.cell? ⟨w.heap.size, 6, none⟩ = some (.bool b.m) ∧ x.cell? ⟨w.heap.size, 7, none⟩ = some (.slice b.p2 b.l2 b.c2) ∧ x.cell? ⟨w.heap.size + 1, 0, none⟩ = some (.bool c.n) ∧ x.cell? ⟨w.heap.size + 1, 1, none⟩ = some (.slice c.p c.l c.c) ∧ x.cell? ⟨w.heap.size + 1, 2, none⟩ = some (.bool c.m) ∧ x.cell? ⟨w.heap.size + 1, 3, none⟩ = some (.slice c.p2 c.l2 c.c2) ∧ x.cell? ⟨w.heap.size + 1, 4, none⟩ = some (.bool d.n) ∧ x.cell? ⟨w.heap.size + 1, 5, none⟩ = some (.slice d.p d.l d.c) ∧ x.cell? ⟨w.heap.size + 1, 6, none⟩ = some (.bool d.m) ∧ x.cell? ⟨w.heap.size + 1, 7, none⟩ = some (.slice d.p2 d.l2 d.c2) from fun x h => ⟨h.get (by simp), h.get (by simp), h.get (by simp), h.get (by simp), h.get (by simp), h.get (by simp), h.get (by simp), h.get (by simp), h.get (by simp), h.get (by simp), h.get (by simp), h.get (by simp), h.get (by simp), h.get (by simp), h.get (by simp), h.get (by simp)⟩)
  have HW := zH (show Ext w ((w.alloc (.cells #[.bool a.n, .slice a.p a.l a.c, .bool a.m, .slice a.p2 a.l2 a.c2, .bool b.n, .slice b.p b.l b.c, .bool b.m, .slice b.p2 b.l2 b.c2] 27)).alloc (.cells #[.bool c.n, .slice c.p c.l c.c, .bool c.m, .slice c.p2 c.l2 c.c2, .bool d.n, .slice d.p d.l d.c, .bool d.m, .slice d.p2 d.l2 d.c2] 27)) from ((Ext.refl _).alloc _).alloc _)
  clear ha hb hc hd hx hy
  go_enter Tryz.func13, Tryz.ntmps13
  go_wp2_with fail
  generalize ((w.alloc (.cells #[.bool a.n, .slice a.p a.l a.c, .bool a.m, .slice a.p2 a.l2 a.c2, .bool b.n, .slice b.p b.l b.c, .bool b.m, .slice b.p2 b.l2 b.c2] 27)).alloc (.cells #[.bool c.n, .slice c.p c.l c.c, .bool c.m, .slice c.p2 c.l2 c.c2, .bool d.n, .slice d.p d.l d.c, .bool d.m, .slice d.p2 d.l2 d.c2] 27)) = wa at *
  have gl := HG.out _ (Ext.refl _)
  go_wp2_with fail
  refine (H1.out _ HW.out).mono ?_
  rintro e wx ⟨rfl, hx1⟩
  clear gl
  have gl := HG.out _ hx1
  go_wp2_with fail
  refine (H2.out _ (HW.out.trans hx1)).mono ?_
  rintro e wy ⟨rfl, hx2⟩
  go_wp2_with fail
  go_ret
  exact ⟨rfl, HW.out.trans (hx1.trans hx2)⟩
end Go.Proofs.YtllpkoinjompcaaGreat

namespace Go.Proofs.YtllpkoinjompcaaGreat
open Go.RowKit
attribute [local go_sem ↓] Go.wp_at_zero Go.wp_at_succ run_max_ii run_min_ii

def shortC (a0 a1 b0 b1 c0 c1 d0 d1 : RV) : Bool := (a0.short && a1.short) && (b0.short && b1.short) && (c0.short && c1.short) && (d0.short && d1.short)
set_option maxRecDepth 20000 in
set_option maxHeartbeats 4000000 in
theorem shortCurve_any (a0 a1 b0 b1 c0 c1 d0 d1 : RV) (w : World) :
    Calls Tryz.prog 5 #[.agg #[.bool a0.n, .slice a0.p a0.l a0.c, .bool a0.m, .slice a0.p2 a0.l2 a0.c2, .bool a1.n, .slice a1.p a1.l a1.c, .bool a1.m, .slice a1.p2 a1.l2 a1.c2, .bool b0.n, .slice b0.p b0.l b0.c, .bool b0.m, .slice b0.p2 b0.l2 b0.c2, .bool b1.n, .slice b1.p b1.l b1.c, .bool b1.m, .slice b1.p2 b1.l2 b1.c2, .bool c0.n, .slice c0.p c0.l c0.c, .bool c0.m, .slice c0.p2 c0.l2 c0.c2, .bool c1.n, .slice c1.p c1.l c1.c, .bool c1.m, .slice c1.p2 c1.l2 c1.c2, .bool d0.n, .slice d0.p d0.l d0.c, .bool d0.m, .slice d0.p2 d0.l2 d0.c2, .bool d1.n, .slice d1.p d1.l d1.c, .bool d1.m, .slice d1.p2 d1.l2 d1.c2]] w fun e w' => e = .returned (.bool (shortC a0 a1 b0 b1 c0 c1 d0 d1)) ∧ Ext w w' := by
  have HG := zH (show ∀ x, Ext (w.alloc (.cells #[.bool a0.n, .slice a0.p a0.l a0.c, .bool a0.m, .slice a0.p2 a0.l2 a0.c2, .bool a1.n, .slice a1.p a1.l a1.c, .bool a1.m, .slice a1.p2 a1.l2 a1.c2, .bool b0.n, .slice b0.p b0.l b0.c, .bool b0.m, .slice b0.p2 b0.l2 b0.c2, .bool b1.n, .slice b1.p b1.l b1.c, .bool b1.m, .slice b1.p2 b1.l2 b1.c2, .bool c0.n, .slice c0.p c0.l c0.c, .bool c0.m, .slice c0.p2 c0.l2 c0.c2, .bool c1.n, .slice c1.p c1.l c1.c, .bool c1.m, .slice c1.p2 c1.l2 c1.c2, .bool d0.n, .slice d0.p d0.l d0.c, .bool d0.m, .slice d0.p2 d0.l2 d0.c2, .bool d1.n, .slice d1.p d1.l d1.c, .bool d1.m, .slice d1.p2 d1.l2 d1.c2] 28)) x → x.cell? ⟨w.heap.size, 0, none⟩ = some (.bool a0.n) ∧ x.cell? ⟨w.heap.size, 1, none⟩ = some (.slice a0.p a0.l a0.c) ∧ x.cell? ⟨w.heap.size, 2, none⟩ = some (.bool a0.m) ∧ x.cell? ⟨w.heap.size, 3, none⟩ = some (.slice a0.p2 a0.l2 a0.c2) ∧ x.cell? ⟨w.heap.size, 4, none⟩ = some (.bool a1.n) ∧ x.cell? ⟨w.heap.size, 5, none⟩ = some (.slice a1.p a1.l a1.c) ∧ x.cell? ⟨w.heap.size, 6, none⟩ = some (.bool a1.m) ∧ x.cell? ⟨w.heap.size, 7, none⟩ = some (.slice a1.p2 a1.l2 a1.c2) ∧ x.cell? ⟨w.heap.size, 8, none⟩ = some (.bool b0.n) ∧ x.cell? ⟨w.heap.size, 9, none⟩ = some (.slice b0.p b0.l b0.c) ∧ x.cell? ⟨w.heap.size, 10, none⟩ = some (.bool b0.m) ∧ x.cell? ⟨w.heap.size, 11, none⟩ = some (.slice b0.p2 b0.l2 b0.c2) ∧ x.cell? ⟨w.heap.size, 12, none⟩ = some (.bool b1.n) ∧ x.cell? ⟨w.heap.size, 13, none⟩ = some (.slice b1.p b1.l b1.c) ∧ x.cell? ⟨w.heap.size, 14, none⟩ = some (.bool b1.m) ∧ x.cell? ⟨w.heap.size, 15, none⟩ = some (.slice b1.p2 b1.l2 b1.c2) ∧ x.cell? ⟨w.heap.size, 16, none⟩ = some (.bool c0.n) ∧ x.cell? ⟨w.heap.size, 17, none⟩ = some (.slice c0.p c0.l c0.c) ∧ x.cell? ⟨w.heap.size, 18, none⟩ = some (.bool c0.m) ∧ x.cell? ⟨w.heap.size, 19, none⟩ = some (.slice c0.p2 c0.l2 c0.c2) ∧ x.cell? ⟨w.heap.size, 20, none⟩ = some (.bool c1.n) ∧ x.cell? ⟨w.heap.size, 21, none⟩ = some (.slice c1.p c1.l c1.c) ∧ x.cell? ⟨w.heap.size, 22, none⟩ = some (.bool c1.m) ∧ x.cell? ⟨w.heap.size, 23, none⟩ = some (.slice c1.p2 c1.l2 c1.c2) ∧ x.cell? ⟨w.heap.size, 24, none⟩ = some (.bool d0.n) ∧ x.cell? ⟨w.heap.size, 25, none⟩ = some (.slice d0.p d0.l d0.c) ∧ x.cell? ⟨w.heap.size, 26, none⟩ = some (.bool d0.m) ∧ x.cell? ⟨w.heap.size, 27, none⟩ = some (.slice d0.p2 d0.l2 d0.c2) ∧ x.cell? ⟨w.heap.size, 28, none⟩ = some (.bool d1.n) ∧ x.cell? ⟨w.heap.size, 29, none⟩ = some (.slice d1.p d1.l d1.c) ∧ x.cell? ⟨w.heap.size, 30, none⟩ = some (.bool d1.m) ∧ x.cell? ⟨w.heap.size, 31, none⟩ = some (.slice d1.p2 d1.l2 d1.c2) from fun x h => ⟨h.get (by simp), h.get (by simp), h.get (by simp), h.get (by simp), h.get (by simp), h.get (by simp), h.get (by simp), h.get (by simp), h.get (by simp), h.get (by simp), h.get (by simp), h.get (by simp), h.get (by simp), h.get (by simp), h.get (by simp), h.get (by simp), h.get (by simp), h.get (by simp), h.get (by simp), h.get (by simp), h.get (by simp), h.get (by simp), h.get (by simp), h.get (by simp), h.get (by simp), h.get (by simp), h.get (by simp), h.get (by simp), h.get (by simp), h.get (by simp), h.get (by simp), h.get (by simp)⟩)
  have HW := zH (show Ext w (w.alloc (.cells #[.bool a0.n, .slice a0.p a0.l a0.c, .bool a0.m, .slice a0.p2 a0.l2 a0.c2, .bool a1.n, .slice a1.p a1.l a1.c, .bool a1.m, .slice a1.p2 a1.l2 a1.c2, .bool b0.n, .slice b0.p b0.l b0.c, .bool b0.m, .slice b0.p2 b0.l2 b0.c2, .bool b1.n, .slice b1.p b1.l b1.c, .bool b1.m, .slice b1.p2 b1.l2 b1.c2, .bool c0.n, .slice c0.p c0.l c0.c, .bool c0.m, .slice c0.p2 c0.l2 c0.c2, .bool c1.n, .slice c1.p c1.l c1.c, .bool c1.m, .slice c1.p2 c1.l2 c1.c2, .bool d0.n, .slice d0.p d0.l d0.c, .bool d0.m, .slice d0.p2 d0.l2 d0.c2, .bool d1.n, .slice d1.p d1.l d1.c, .bool d1.m, .slice d1.p2 d1.l2 d1.c2] 28)) from (Ext.refl _).alloc _)
  have Ha0 := zH (fun W => xshort_any a0 W)
  have Ha1 := zH (fun W => xshort_any a1 W)
  have Hb0 := zH (fun W => xshort_any b0 W)
  have Hb1 := zH (fun W => xshort_any b1 W)
  have Hc0 := zH (fun W => xshort_any c0 W)
  have Hc1 := zH (fun W => xshort_any c1 W)
  have Hd0 := zH (fun W => xshort_any d0 W)
  have Hd1 := zH (fun W => xshort_any d1 W)
  obtain ⟨r, hr⟩ : ∃ r, r = shortC a0 a1 b0 b1 c0 c1 d0 d1 := ⟨_, rfl⟩
  rw [← hr]
  have HR := zH hr
  clear hr
  go_enter Tryz.func5, Tryz.ntmps5
  go_wp2_with fail
  generalize (w.alloc (.cells #[.bool a0.n, .slice a0.p a0.l a0.c, .bool a0.m, .slice a0.p2 a0.l2 a0.c2, .bool a1.n, .slice a1.p a1.l a1.c, .bool a1.m, .slice a1.p2 a1.l2 a1.c2, .bool b0.n, .slice b0.p b0.l b0.c, .bool b0.m, .slice b0.p2 b0.l2 b0.c2, .bool b1.n, .slice b1.p b1.l b1.c, .bool b1.m, .slice b1.p2 b1.l2 b1.c2, .bool c0.n, .slice c0.p c0.l c0.c, .bool c0.m, .slice c0.p2 c0.l2 c0.c2, .bool c1.n, .slice c1.p c1.l c1.c, .bool c1.m, .slice c1.p2 c1.l2 c1.c2, .bool d0.n, .slice d0.p d0.l d0.c, .bool d0.m, .slice d0.p2 d0.l2 d0.c2, .bool d1.n, .slice d1.p d1.l d1.c, .bool d1.m, .slice d1.p2 d1.l2 d1.c2] 28)) = wa at *
  generalize w.heap.size = BA at *
  go_loopw [4] (fun i wr => ∃ k : Nat, k ≤ 4 ∧ i = .int .i64 k ∧ (0 < k → a0.short = true ∧ a1.short = true) ∧ (1 < k → b0.short = true ∧ b1.short = true) ∧ (2 < k → c0.short = true ∧ c1.short = true) ∧ (3 < k → d0.short = true ∧ d1.short = true) ∧ Ext wa wr) (fun i _ => 4 - (intOf i).toNat)
  case atStart => exact ⟨0, by omega, rfl, by omega, by omega, by omega, by omega, Ext.refl _⟩
  case round =>
    obtain ⟨k, hk, rfl, h0, h1, h2, h3, he⟩ := hrel
    have HE := zH he
    have K0 := zH h0
    have K1 := zH h1
    have K2 := zH h2
    have K3 := zH h3
    have gl := HG.out _ he
    clear he h0 h1 h2 h3
    match k, hk, HE, K0, K1, K2, K3, gl with
    | 0, _, HE, K0, K1, K2, K3, gl =>
      go_wp2_with fail
      refine (Ha0.out _).mono ?_
      rintro e w1 ⟨rfl, he1⟩
      have HE1 := zH (HE.out.trans he1)
      clear gl
      have gl := HG.out _ HE1.out
      clear he1
      by_cases q0 : a0.short = true
      · rw [q0]
        go_wp2_with fail
        refine (Ha1.out _).mono ?_
        rintro e w2 ⟨rfl, he2⟩
        have HE2 := zH (HE1.out.trans he2)
        clear he2 gl
        by_cases q1 : a1.short = true
        · rw [q1]
          have Q := zH (And.intro q0 q1)
          clear q0 q1
          go_wp2_with fail
          go_roundw
          case rel => exact ⟨1, by omega, by go_num, fun _ => Q.out, by omega, by omega, by omega, HE2.out⟩
          case measure => simp [intOf]
        · rw [Bool.eq_false_iff.2 q1]
          have hr : r = false := by rw [HR.out]; unfold shortC; rw [Bool.eq_false_iff.2 q1]; simp
          clear q0 q1
          go_wp2_with fail
          go_ret
          exact ⟨ret_bool hr.symm, HW.out.trans HE2.out⟩
      · rw [Bool.eq_false_iff.2 q0]
        have hr : r = false := by rw [HR.out]; unfold shortC; rw [Bool.eq_false_iff.2 q0]; simp
        clear q0
        go_wp2_with fail
        go_ret
        exact ⟨ret_bool hr.symm, HW.out.trans HE1.out⟩
    | 1, _, HE, K0, K1, K2, K3, gl =>
      go_wp2_with fail
      refine (Hb0.out _).mono ?_
      rintro e w1 ⟨rfl, he1⟩
      have HE1 := zH (HE.out.trans he1)
      clear gl
      have gl := HG.out _ HE1.out
      clear he1
      by_cases q0 : b0.short = true
      · rw [q0]
        go_wp2_with fail
        refine (Hb1.out _).mono ?_
        rintro e w2 ⟨rfl, he2⟩
        have HE2 := zH (HE1.out.trans he2)
        clear he2 gl
        by_cases q1 : b1.short = true
        · rw [q1]
          have Q := zH (And.intro q0 q1)
          clear q0 q1
          go_wp2_with fail
          go_roundw
          case rel => exact ⟨2, by omega, by go_num, fun _ => K0.out (by omega), fun _ => Q.out, by omega, by omega, HE2.out⟩
          case measure => simp [intOf]
        · rw [Bool.eq_false_iff.2 q1]
          have hr : r = false := by rw [HR.out]; unfold shortC; rw [Bool.eq_false_iff.2 q1]; simp
          clear q0 q1
          go_wp2_with fail
          go_ret
          exact ⟨ret_bool hr.symm, HW.out.trans HE2.out⟩
      · rw [Bool.eq_false_iff.2 q0]
        have hr : r = false := by rw [HR.out]; unfold shortC; rw [Bool.eq_false_iff.2 q0]; simp
        clear q0
        go_wp2_with fail
        go_ret
        exact ⟨ret_bool hr.symm, HW.out.trans HE1.out⟩
    | 2, _, HE, K0, K1, K2, K3, gl =>
      go_wp2_with fail
      refine (Hc0.out _).mono ?_
      rintro e w1 ⟨rfl, he1⟩
      have HE1 := zH (HE.out.trans he1)
      clear gl
      have gl := HG.out _ HE1.out
      clear he1
      by_cases q0 : c0.short = true
      · rw [q0]
        go_wp2_with fail
        refine (Hc1.out _).mono ?_
        rintro e w2 ⟨rfl, he2⟩
        have HE2 := zH (HE1.out.trans he2)
        clear he2 gl
        by_cases q1 : c1.short = true
        · rw [q1]
          have Q := zH (And.intro q0 q1)
          clear q0 q1
          go_wp2_with fail
          go_roundw
          case rel => exact ⟨3, by omega, by go_num, fun _ => K0.out (by omega), fun _ => K1.out (by omega), fun _ => Q.out, by omega, HE2.out⟩
          case measure => simp [intOf]
        · rw [Bool.eq_false_iff.2 q1]
          have hr : r = false := by rw [HR.out]; unfold shortC; rw [Bool.eq_false_iff.2 q1]; simp
          clear q0 q1
          go_wp2_with fail
          go_ret
          exact ⟨ret_bool hr.symm, HW.out.trans HE2.out⟩
      · rw [Bool.eq_false_iff.2 q0]
        have hr : r = false := by rw [HR.out]; unfold shortC; rw [Bool.eq_false_iff.2 q0]; simp
        clear q0
        go_wp2_with fail
        go_ret
        exact ⟨ret_bool hr.symm, HW.out.trans HE1.out⟩
    | 3, _, HE, K0, K1, K2, K3, gl =>
      go_wp2_with fail
      refine (Hd0.out _).mono ?_
      rintro e w1 ⟨rfl, he1⟩
      have HE1 := zH (HE.out.trans he1)
      clear gl
      have gl := HG.out _ HE1.out
      clear he1
      by_cases q0 : d0.short = true
      · rw [q0]
        go_wp2_with fail
        refine (Hd1.out _).mono ?_
        rintro e w2 ⟨rfl, he2⟩
        have HE2 := zH (HE1.out.trans he2)
        clear he2 gl
        by_cases q1 : d1.short = true
        · rw [q1]
          have Q := zH (And.intro q0 q1)
          clear q0 q1
          go_wp2_with fail
          go_roundw
          case rel => exact ⟨4, by omega, by go_num, fun _ => K0.out (by omega), fun _ => K1.out (by omega), fun _ => K2.out (by omega), fun _ => Q.out, HE2.out⟩
          case measure => simp [intOf]
        · rw [Bool.eq_false_iff.2 q1]
          have hr : r = false := by rw [HR.out]; unfold shortC; rw [Bool.eq_false_iff.2 q1]; simp
          clear q0 q1
          go_wp2_with fail
          go_ret
          exact ⟨ret_bool hr.symm, HW.out.trans HE2.out⟩
      · rw [Bool.eq_false_iff.2 q0]
        have hr : r = false := by rw [HR.out]; unfold shortC; rw [Bool.eq_false_iff.2 q0]; simp
        clear q0
        go_wp2_with fail
        go_ret
        exact ⟨ret_bool hr.symm, HW.out.trans HE1.out⟩
    | 4, _, HE, K0, K1, K2, K3, gl =>
      have hr : r = true := by
        rw [HR.out]; unfold shortC
        rw [(K0.out (by omega)).1, (K0.out (by omega)).2, (K1.out (by omega)).1, (K1.out (by omega)).2, (K2.out (by omega)).1, (K2.out (by omega)).2, (K3.out (by omega)).1, (K3.out (by omega)).2]; rfl
      clear gl
      go_wp2_with fail
      go_ret
      exact ⟨ret_bool hr.symm, HW.out.trans HE.out⟩

theorem RetRE.v {q : Rat} {w w' : World} {e : Ending} (h : RetRE q 0 w e w') : ∃ a : RV, e = .returned (.tuple #[.agg #[.bool a.n, .slice a.p a.l a.c, .bool a.m, .slice a.p2 a.l2 a.c2], .int .i64 0]) ∧ a.Is w' q ∧ Ext w w' := by
  obtain ⟨n, u, m, v, rfl, hc, he⟩ := h
  obtain ⟨p, l, c, p2, l2, c2, rfl, rfl⟩ := hc.form
  exact ⟨⟨n, p, l, c, m, p2, l2, c2⟩, rfl, hc, he⟩
end Go.Proofs.YtllpkoinjompcaaGreat

namespace Go.Proofs.YtllpkoinjompcaaGreat
open Go.RowKit

def NIn (L : Nat) (w : World) (cs : Array Value) (q : Rat) : Prop := ∃ a : RV, cs = #[.bool a.n, .slice a.p a.l a.c, .bool a.m, .slice a.p2 a.l2 a.c2] ∧ a.In L w q
def NIs (w : World) (cs : Array Value) (q : Rat) : Prop := ∃ a : RV, cs = #[.bool a.n, .slice a.p a.l a.c, .bool a.m, .slice a.p2 a.l2 a.c2] ∧ a.Is w q
theorem NIn.ext {L : Nat} {w w' : World} {cs : Array Value} {q : Rat} (h : NIn L w cs q) (e : Ext w w') : NIn L w' cs q := by obtain ⟨a, h1, h2⟩ := h; exact ⟨a, h1, h2.ext e⟩
theorem NIs.ext {w w' : World} {cs : Array Value} {q : Rat} (h : NIs w cs q) (e : Ext w w') : NIs w' cs q := by obtain ⟨a, h1, h2⟩ := h; exact ⟨a, h1, h2.ext e⟩
theorem NIs.isIn {L : Nat} {w : World} {cs : Array Value} {q : Rat} (h : NIs w cs q) (hl : Nm.rl q ≤ L) : NIn L w cs q := by obtain ⟨a, h1, h2⟩ := h; exact ⟨a, h1, h2.isIn hl⟩
theorem NIn.mono {L M : Nat} {w : World} {cs : Array Value} {q : Rat} (h : NIn L w cs q) (hl : L ≤ M) : NIn M w cs q := by obtain ⟨a, h1, h2⟩ := h; exact ⟨a, h1, h2.mono hl⟩
theorem NIn.rl {L : Nat} {w : World} {cs : Array Value} {q : Rat} (h : NIn L w cs q) (h1 : 1 ≤ L) : Nm.rl q ≤ L := by obtain ⟨a, _, h2⟩ := h; have := h2.rl; omega
theorem NIn.size {L : Nat} {w : World} {cs : Array Value} {q : Rat} (h : NIn L w cs q) : cs.size = 4 := by obtain ⟨a, rfl, _⟩ := h; rfl
theorem NIs.size {w : World} {cs : Array Value} {q : Rat} (h : NIs w cs q) : cs.size = 4 := by obtain ⟨a, rfl, _⟩ := h; rfl
theorem NIs.one {w : World} {cs : Array Value} {q : Rat} (h : NIs w cs q) : cs.all (·.oneCell') = true := by obtain ⟨a, rfl, _⟩ := h; exact all_oneCell_toArray (by simp [Value.oneCell'])

def PtIn (L : Nat) (w : World) (cs : Array Value) (A0 A1 : Rat) : Prop := ∃ a0 a1 : RV, cs = #[.bool a0.n, .slice a0.p a0.l a0.c, .bool a0.m, .slice a0.p2 a0.l2 a0.c2, .bool a1.n, .slice a1.p a1.l a1.c, .bool a1.m, .slice a1.p2 a1.l2 a1.c2] ∧ a0.In L w A0 ∧ a1.In L w A1
theorem PtIn.ext {L : Nat} {w : World} {cs : Array Value} {A0 A1 : Rat} {w' : World} (h : PtIn L w cs A0 A1) (x : Ext w w') : PtIn L w' cs A0 A1 := by obtain ⟨a0, a1, e, h0, h1⟩ := h; exact ⟨a0, a1, e, h0.ext x, h1.ext x⟩
theorem PtIn.size {L : Nat} {w : World} {cs : Array Value} {A0 A1 : Rat} (h : PtIn L w cs A0 A1) : cs.size = 8 := by obtain ⟨a0, a1, e, h0, h1⟩ := h; rw [e]; rfl
theorem PtIn.one {L : Nat} {w : World} {cs : Array Value} {A0 A1 : Rat} (h : PtIn L w cs A0 A1) : cs.all (·.oneCell') = true := by obtain ⟨a0, a1, e, h0, h1⟩ := h; rw [e]; exact all_oneCell_toArray (by simp [Value.oneCell'])
theorem PtIn.c0 {L : Nat} {w : World} {cs : Array Value} {A0 A1 : Rat} (h : PtIn L w cs A0 A1) : NIn L w (cs.extract 0 (0 + 4)) A0 := by obtain ⟨a0, a1, e, h0, h1⟩ := h; exact ⟨a0, by rw [e]; rfl, h0⟩
theorem PtIn.c1 {L : Nat} {w : World} {cs : Array Value} {A0 A1 : Rat} (h : PtIn L w cs A0 A1) : NIn L w (cs.extract 4 (4 + 4)) A1 := by obtain ⟨a0, a1, e, h0, h1⟩ := h; exact ⟨a1, by rw [e]; rfl, h1⟩
theorem PtIn.mono {L : Nat} {w : World} {cs : Array Value} {A0 A1 : Rat} {M : Nat} (h : PtIn L w cs A0 A1) (hl : L ≤ M) : PtIn M w cs A0 A1 := by obtain ⟨a0, a1, e, h0, h1⟩ := h; exact ⟨a0, a1, e, h0.mono hl, h1.mono hl⟩
def PtIs (w : World) (cs : Array Value) (A0 A1 : Rat) : Prop := ∃ a0 a1 : RV, cs = #[.bool a0.n, .slice a0.p a0.l a0.c, .bool a0.m, .slice a0.p2 a0.l2 a0.c2, .bool a1.n, .slice a1.p a1.l a1.c, .bool a1.m, .slice a1.p2 a1.l2 a1.c2] ∧ a0.Is w A0 ∧ a1.Is w A1
theorem PtIs.ext {w : World} {cs : Array Value} {A0 A1 : Rat} {w' : World} (h : PtIs w cs A0 A1) (x : Ext w w') : PtIs w' cs A0 A1 := by obtain ⟨a0, a1, e, h0, h1⟩ := h; exact ⟨a0, a1, e, h0.ext x, h1.ext x⟩
theorem PtIs.size {w : World} {cs : Array Value} {A0 A1 : Rat} (h : PtIs w cs A0 A1) : cs.size = 8 := by obtain ⟨a0, a1, e, h0, h1⟩ := h; rw [e]; rfl
theorem PtIs.one {w : World} {cs : Array Value} {A0 A1 : Rat} (h : PtIs w cs A0 A1) : cs.all (·.oneCell') = true := by obtain ⟨a0, a1, e, h0, h1⟩ := h; rw [e]; exact all_oneCell_toArray (by simp [Value.oneCell'])
theorem PtIs.map {w : World} {cs : Array Value} {A0 A1 : Rat} {w' : World} (h : PtIs w cs A0 A1) (x : ∀ (r : RV) (q : Rat), r.Is w q → r.Is w' q) : PtIs w' cs A0 A1 := by obtain ⟨a0, a1, e, h0, h1⟩ := h; exact ⟨a0, a1, e, x _ _ h0, x _ _ h1⟩
theorem PtIs.c0 {w : World} {cs : Array Value} {A0 A1 : Rat} (h : PtIs w cs A0 A1) : NIs w (cs.extract 0 (0 + 4)) A0 := by obtain ⟨a0, a1, e, h0, h1⟩ := h; exact ⟨a0, by rw [e]; rfl, h0⟩
theorem PtIs.c1 {w : World} {cs : Array Value} {A0 A1 : Rat} (h : PtIs w cs A0 A1) : NIs w (cs.extract 4 (4 + 4)) A1 := by obtain ⟨a0, a1, e, h0, h1⟩ := h; exact ⟨a1, by rw [e]; rfl, h1⟩
def Q3In (L : Nat) (w : World) (cs : Array Value) (A0 A1 B0 B1 C0 C1 : Rat) : Prop := ∃ a0 a1 b0 b1 c0 c1 : RV, cs = #[.bool a0.n, .slice a0.p a0.l a0.c, .bool a0.m, .slice a0.p2 a0.l2 a0.c2, .bool a1.n, .slice a1.p a1.l a1.c, .bool a1.m, .slice a1.p2 a1.l2 a1.c2, .bool b0.n, .slice b0.p b0.l b0.c, .bool b0.m, .slice b0.p2 b0.l2 b0.c2, .bool b1.n, .slice b1.p b1.l b1.c, .bool b1.m, .slice b1.p2 b1.l2 b1.c2, .bool c0.n, .slice c0.p c0.l c0.c, .bool c0.m, .slice c0.p2 c0.l2 c0.c2, .bool c1.n, .slice c1.p c1.l c1.c, .bool c1.m, .slice c1.p2 c1.l2 c1.c2] ∧ a0.In L w A0 ∧ a1.In L w A1 ∧ b0.In L w B0 ∧ b1.In L w B1 ∧ c0.In L w C0 ∧ c1.In L w C1
theorem Q3In.ext {L : Nat} {w : World} {cs : Array Value} {A0 A1 B0 B1 C0 C1 : Rat} {w' : World} (h : Q3In L w cs A0 A1 B0 B1 C0 C1) (x : Ext w w') : Q3In L w' cs A0 A1 B0 B1 C0 C1 := by obtain ⟨a0, a1, b0, b1, c0, c1, e, h0, h1, h2, h3, h4, h5⟩ := h; exact ⟨a0, a1, b0, b1, c0, c1, e, h0.ext x, h1.ext x, h2.ext x, h3.ext x, h4.ext x, h5.ext x⟩
theorem Q3In.size {L : Nat} {w : World} {cs : Array Value} {A0 A1 B0 B1 C0 C1 : Rat} (h : Q3In L w cs A0 A1 B0 B1 C0 C1) : cs.size = 24 := by obtain ⟨a0, a1, b0, b1, c0, c1, e, h0, h1, h2, h3, h4, h5⟩ := h; rw [e]; rfl
theorem Q3In.one {L : Nat} {w : World} {cs : Array Value} {A0 A1 B0 B1 C0 C1 : Rat} (h : Q3In L w cs A0 A1 B0 B1 C0 C1) : cs.all (·.oneCell') = true := by obtain ⟨a0, a1, b0, b1, c0, c1, e, h0, h1, h2, h3, h4, h5⟩ := h; rw [e]; exact all_oneCell_toArray (by simp [Value.oneCell'])
theorem Q3In.e0 {L : Nat} {w : World} {cs : Array Value} {A0 A1 B0 B1 C0 C1 : Rat} (h : Q3In L w cs A0 A1 B0 B1 C0 C1) : NIn L w (cs.extract 0 (0 + 4)) A0 := by obtain ⟨a0, a1, b0, b1, c0, c1, e, h0, h1, h2, h3, h4, h5⟩ := h; exact ⟨a0, by rw [e]; rfl, h0⟩
theorem Q3In.e1 {L : Nat} {w : World} {cs : Array Value} {A0 A1 B0 B1 C0 C1 : Rat} (h : Q3In L w cs A0 A1 B0 B1 C0 C1) : NIn L w (cs.extract 4 (4 + 4)) A1 := by obtain ⟨a0, a1, b0, b1, c0, c1, e, h0, h1, h2, h3, h4, h5⟩ := h; exact ⟨a1, by rw [e]; rfl, h1⟩
theorem Q3In.e2 {L : Nat} {w : World} {cs : Array Value} {A0 A1 B0 B1 C0 C1 : Rat} (h : Q3In L w cs A0 A1 B0 B1 C0 C1) : NIn L w (cs.extract 8 (8 + 4)) B0 := by obtain ⟨a0, a1, b0, b1, c0, c1, e, h0, h1, h2, h3, h4, h5⟩ := h; exact ⟨b0, by rw [e]; rfl, h2⟩
theorem Q3In.e3 {L : Nat} {w : World} {cs : Array Value} {A0 A1 B0 B1 C0 C1 : Rat} (h : Q3In L w cs A0 A1 B0 B1 C0 C1) : NIn L w (cs.extract 12 (12 + 4)) B1 := by obtain ⟨a0, a1, b0, b1, c0, c1, e, h0, h1, h2, h3, h4, h5⟩ := h; exact ⟨b1, by rw [e]; rfl, h3⟩
theorem Q3In.e4 {L : Nat} {w : World} {cs : Array Value} {A0 A1 B0 B1 C0 C1 : Rat} (h : Q3In L w cs A0 A1 B0 B1 C0 C1) : NIn L w (cs.extract 16 (16 + 4)) C0 := by obtain ⟨a0, a1, b0, b1, c0, c1, e, h0, h1, h2, h3, h4, h5⟩ := h; exact ⟨c0, by rw [e]; rfl, h4⟩
theorem Q3In.e5 {L : Nat} {w : World} {cs : Array Value} {A0 A1 B0 B1 C0 C1 : Rat} (h : Q3In L w cs A0 A1 B0 B1 C0 C1) : NIn L w (cs.extract 20 (20 + 4)) C1 := by obtain ⟨a0, a1, b0, b1, c0, c1, e, h0, h1, h2, h3, h4, h5⟩ := h; exact ⟨c1, by rw [e]; rfl, h5⟩
theorem Q3In.p0 {L : Nat} {w : World} {cs : Array Value} {A0 A1 B0 B1 C0 C1 : Rat} (h : Q3In L w cs A0 A1 B0 B1 C0 C1) : PtIn L w (cs.extract 0 (0 + 8)) A0 A1 := by obtain ⟨a0, a1, b0, b1, c0, c1, e, h0, h1, h2, h3, h4, h5⟩ := h; exact ⟨a0, a1, by rw [e]; rfl, h0, h1⟩
theorem Q3In.p1 {L : Nat} {w : World} {cs : Array Value} {A0 A1 B0 B1 C0 C1 : Rat} (h : Q3In L w cs A0 A1 B0 B1 C0 C1) : PtIn L w (cs.extract 8 (8 + 8)) B0 B1 := by obtain ⟨a0, a1, b0, b1, c0, c1, e, h0, h1, h2, h3, h4, h5⟩ := h; exact ⟨b0, b1, by rw [e]; rfl, h2, h3⟩
theorem Q3In.p2 {L : Nat} {w : World} {cs : Array Value} {A0 A1 B0 B1 C0 C1 : Rat} (h : Q3In L w cs A0 A1 B0 B1 C0 C1) : PtIn L w (cs.extract 16 (16 + 8)) C0 C1 := by obtain ⟨a0, a1, b0, b1, c0, c1, e, h0, h1, h2, h3, h4, h5⟩ := h; exact ⟨c0, c1, by rw [e]; rfl, h4, h5⟩
theorem Q3In.mono {L : Nat} {w : World} {cs : Array Value} {A0 A1 B0 B1 C0 C1 : Rat} {M : Nat} (h : Q3In L w cs A0 A1 B0 B1 C0 C1) (hl : L ≤ M) : Q3In M w cs A0 A1 B0 B1 C0 C1 := by obtain ⟨a0, a1, b0, b1, c0, c1, e, h0, h1, h2, h3, h4, h5⟩ := h; exact ⟨a0, a1, b0, b1, c0, c1, e, h0.mono hl, h1.mono hl, h2.mono hl, h3.mono hl, h4.mono hl, h5.mono hl⟩
def Q3Is (w : World) (cs : Array Value) (A0 A1 B0 B1 C0 C1 : Rat) : Prop := ∃ a0 a1 b0 b1 c0 c1 : RV, cs = #[.bool a0.n, .slice a0.p a0.l a0.c, .bool a0.m, .slice a0.p2 a0.l2 a0.c2, .bool a1.n, .slice a1.p a1.l a1.c, .bool a1.m, .slice a1.p2 a1.l2 a1.c2, .bool b0.n, .slice b0.p b0.l b0.c, .bool b0.m, .slice b0.p2 b0.l2 b0.c2, .bool b1.n, .slice b1.p b1.l b1.c, .bool b1.m, .slice b1.p2 b1.l2 b1.c2, .bool c0.n, .slice c0.p c0.l c0.c, .bool c0.m, .slice c0.p2 c0.l2 c0.c2, .bool c1.n, .slice c1.p c1.l c1.c, .bool c1.m, .slice c1.p2 c1.l2 c1.c2] ∧ a0.Is w A0 ∧ a1.Is w A1 ∧ b0.Is w B0 ∧ b1.Is w B1 ∧ c0.Is w C0 ∧ c1.Is w C1
theorem Q3Is.ext {w : World} {cs : Array Value} {A0 A1 B0 B1 C0 C1 : Rat} {w' : World} (h : Q3Is w cs A0 A1 B0 B1 C0 C1) (x : Ext w w') : Q3Is w' cs A0 A1 B0 B1 C0 C1 := by obtain ⟨a0, a1, b0, b1, c0, c1, e, h0, h1, h2, h3, h4, h5⟩ := h; exact ⟨a0, a1, b0, b1, c0, c1, e, h0.ext x, h1.ext x, h2.ext x, h3.ext x, h4.ext x, h5.ext x⟩
theorem Q3Is.size {w : World} {cs : Array Value} {A0 A1 B0 B1 C0 C1 : Rat} (h : Q3Is w cs A0 A1 B0 B1 C0 C1) : cs.size = 24 := by obtain ⟨a0, a1, b0, b1, c0, c1, e, h0, h1, h2, h3, h4, h5⟩ := h; rw [e]; rfl
theorem Q3Is.one {w : World} {cs : Array Value} {A0 A1 B0 B1 C0 C1 : Rat} (h : Q3Is w cs A0 A1 B0 B1 C0 C1) : cs.all (·.oneCell') = true := by obtain ⟨a0, a1, b0, b1, c0, c1, e, h0, h1, h2, h3, h4, h5⟩ := h; rw [e]; exact all_oneCell_toArray (by simp [Value.oneCell'])
theorem Q3Is.map {w : World} {cs : Array Value} {A0 A1 B0 B1 C0 C1 : Rat} {w' : World} (h : Q3Is w cs A0 A1 B0 B1 C0 C1) (x : ∀ (r : RV) (q : Rat), r.Is w q → r.Is w' q) : Q3Is w' cs A0 A1 B0 B1 C0 C1 := by obtain ⟨a0, a1, b0, b1, c0, c1, e, h0, h1, h2, h3, h4, h5⟩ := h; exact ⟨a0, a1, b0, b1, c0, c1, e, x _ _ h0, x _ _ h1, x _ _ h2, x _ _ h3, x _ _ h4, x _ _ h5⟩
theorem Q3Is.e0 {w : World} {cs : Array Value} {A0 A1 B0 B1 C0 C1 : Rat} (h : Q3Is w cs A0 A1 B0 B1 C0 C1) : NIs w (cs.extract 0 (0 + 4)) A0 := by obtain ⟨a0, a1, b0, b1, c0, c1, e, h0, h1, h2, h3, h4, h5⟩ := h; exact ⟨a0, by rw [e]; rfl, h0⟩
theorem Q3Is.e1 {w : World} {cs : Array Value} {A0 A1 B0 B1 C0 C1 : Rat} (h : Q3Is w cs A0 A1 B0 B1 C0 C1) : NIs w (cs.extract 4 (4 + 4)) A1 := by obtain ⟨a0, a1, b0, b1, c0, c1, e, h0, h1, h2, h3, h4, h5⟩ := h; exact ⟨a1, by rw [e]; rfl, h1⟩
theorem Q3Is.e2 {w : World} {cs : Array Value} {A0 A1 B0 B1 C0 C1 : Rat} (h : Q3Is w cs A0 A1 B0 B1 C0 C1) : NIs w (cs.extract 8 (8 + 4)) B0 := by obtain ⟨a0, a1, b0, b1, c0, c1, e, h0, h1, h2, h3, h4, h5⟩ := h; exact ⟨b0, by rw [e]; rfl, h2⟩
theorem Q3Is.e3 {w : World} {cs : Array Value} {A0 A1 B0 B1 C0 C1 : Rat} (h : Q3Is w cs A0 A1 B0 B1 C0 C1) : NIs w (cs.extract 12 (12 + 4)) B1 := by obtain ⟨a0, a1, b0, b1, c0, c1, e, h0, h1, h2, h3, h4, h5⟩ := h; exact ⟨b1, by rw [e]; rfl, h3⟩
theorem Q3Is.e4 {w : World} {cs : Array Value} {A0 A1 B0 B1 C0 C1 : Rat} (h : Q3Is w cs A0 A1 B0 B1 C0 C1) : NIs w (cs.extract 16 (16 + 4)) C0 := by obtain ⟨a0, a1, b0, b1, c0, c1, e, h0, h1, h2, h3, h4, h5⟩ := h; exact ⟨c0, by rw [e]; rfl, h4⟩
theorem Q3Is.e5 {w : World} {cs : Array Value} {A0 A1 B0 B1 C0 C1 : Rat} (h : Q3Is w cs A0 A1 B0 B1 C0 C1) : NIs w (cs.extract 20 (20 + 4)) C1 := by obtain ⟨a0, a1, b0, b1, c0, c1, e, h0, h1, h2, h3, h4, h5⟩ := h; exact ⟨c1, by rw [e]; rfl, h5⟩
theorem Q3Is.p0 {w : World} {cs : Array Value} {A0 A1 B0 B1 C0 C1 : Rat} (h : Q3Is w cs A0 A1 B0 B1 C0 C1) : PtIs w (cs.extract 0 (0 + 8)) A0 A1 := by obtain ⟨a0, a1, b0, b1, c0, c1, e, h0, h1, h2, h3, h4, h5⟩ := h; exact ⟨a0, a1, by rw [e]; rfl, h0, h1⟩
theorem Q3Is.p1 {w : World} {cs : Array Value} {A0 A1 B0 B1 C0 C1 : Rat} (h : Q3Is w cs A0 A1 B0 B1 C0 C1) : PtIs w (cs.extract 8 (8 + 8)) B0 B1 := by obtain ⟨a0, a1, b0, b1, c0, c1, e, h0, h1, h2, h3, h4, h5⟩ := h; exact ⟨b0, b1, by rw [e]; rfl, h2, h3⟩
theorem Q3Is.p2 {w : World} {cs : Array Value} {A0 A1 B0 B1 C0 C1 : Rat} (h : Q3Is w cs A0 A1 B0 B1 C0 C1) : PtIs w (cs.extract 16 (16 + 8)) C0 C1 := by obtain ⟨a0, a1, b0, b1, c0, c1, e, h0, h1, h2, h3, h4, h5⟩ := h; exact ⟨c0, c1, by rw [e]; rfl, h4, h5⟩
def C4In (L : Nat) (w : World) (cs : Array Value) (A0 A1 B0 B1 C0 C1 D0 D1 : Rat) : Prop := ∃ a0 a1 b0 b1 c0 c1 d0 d1 : RV, cs = #[.bool a0.n, .slice a0.p a0.l a0.c, .bool a0.m, .slice a0.p2 a0.l2 a0.c2, .bool a1.n, .slice a1.p a1.l a1.c, .bool a1.m, .slice a1.p2 a1.l2 a1.c2, .bool b0.n, .slice b0.p b0.l b0.c, .bool b0.m, .slice b0.p2 b0.l2 b0.c2, .bool b1.n, .slice b1.p b1.l b1.c, .bool b1.m, .slice b1.p2 b1.l2 b1.c2, .bool c0.n, .slice c0.p c0.l c0.c, .bool c0.m, .slice c0.p2 c0.l2 c0.c2, .bool c1.n, .slice c1.p c1.l c1.c, .bool c1.m, .slice c1.p2 c1.l2 c1.c2, .bool d0.n, .slice d0.p d0.l d0.c, .bool d0.m, .slice d0.p2 d0.l2 d0.c2, .bool d1.n, .slice d1.p d1.l d1.c, .bool d1.m, .slice d1.p2 d1.l2 d1.c2] ∧ a0.In L w A0 ∧ a1.In L w A1 ∧ b0.In L w B0 ∧ b1.In L w B1 ∧ c0.In L w C0 ∧ c1.In L w C1 ∧ d0.In L w D0 ∧ d1.In L w D1
theorem C4In.ext {L : Nat} {w : World} {cs : Array Value} {A0 A1 B0 B1 C0 C1 D0 D1 : Rat} {w' : World} (h : C4In L w cs A0 A1 B0 B1 C0 C1 D0 D1) (x : Ext w w') : C4In L w' cs A0 A1 B0 B1 C0 C1 D0 D1 := by obtain ⟨a0, a1, b0, b1, c0, c1, d0, d1, e, h0, h1, h2, h3, h4, h5, h6, h7⟩ := h; exact ⟨a0, a1, b0, b1, c0, c1, d0, d1, e, h0.ext x, h1.ext x, h2.ext x, h3.ext x, h4.ext x, h5.ext x, h6.ext x, h7.ext x⟩
theorem C4In.size {L : Nat} {w : World} {cs : Array Value} {A0 A1 B0 B1 C0 C1 D0 D1 : Rat} (h : C4In L w cs A0 A1 B0 B1 C0 C1 D0 D1) : cs.size = 32 := by obtain ⟨a0, a1, b0, b1, c0, c1, d0, d1, e, h0, h1, h2, h3, h4, h5, h6, h7⟩ := h; rw [e]; rfl
theorem C4In.one {L : Nat} {w : World} {cs : Array Value} {A0 A1 B0 B1 C0 C1 D0 D1 : Rat} (h : C4In L w cs A0 A1 B0 B1 C0 C1 D0 D1) : cs.all (·.oneCell') = true := by obtain ⟨a0, a1, b0, b1, c0, c1, d0, d1, e, h0, h1, h2, h3, h4, h5, h6, h7⟩ := h; rw [e]; exact all_oneCell_toArray (by simp [Value.oneCell'])
theorem C4In.e0 {L : Nat} {w : World} {cs : Array Value} {A0 A1 B0 B1 C0 C1 D0 D1 : Rat} (h : C4In L w cs A0 A1 B0 B1 C0 C1 D0 D1) : NIn L w (cs.extract 0 (0 + 4)) A0 := by obtain ⟨a0, a1, b0, b1, c0, c1, d0, d1, e, h0, h1, h2, h3, h4, h5, h6, h7⟩ := h; exact ⟨a0, by rw [e]; rfl, h0⟩
theorem C4In.e1 {L : Nat} {w : World} {cs : Array Value} {A0 A1 B0 B1 C0 C1 D0 D1 : Rat} (h : C4In L w cs A0 A1 B0 B1 C0 C1 D0 D1) : NIn L w (cs.extract 4 (4 + 4)) A1 := by obtain ⟨a0, a1, b0, b1, c0, c1, d0, d1, e, h0, h1, h2, h3, h4, h5, h6, h7⟩ := h; exact ⟨a1, by rw [e]; rfl, h1⟩
theorem C4In.e2 {L : Nat} {w : World} {cs : Array Value} {A0 A1 B0 B1 C0 C1 D0 D1 : Rat} (h : C4In L w cs A0 A1 B0 B1 C0 C1 D0 D1) : NIn L w (cs.extract 8 (8 + 4)) B0 := by obtain ⟨a0, a1, b0, b1, c0, c1, d0, d1, e, h0, h1, h2, h3, h4, h5, h6, h7⟩ := h; exact ⟨b0, by rw [e]; rfl, h2⟩
theorem C4In.e3 {L : Nat} {w : World} {cs : Array Value} {A0 A1 B0 B1 C0 C1 D0 D1 : Rat} (h : C4In L w cs A0 A1 B0 B1 C0 C1 D0 D1) : NIn L w (cs.extract 12 (12 + 4)) B1 := by obtain ⟨a0, a1, b0, b1, c0, c1, d0, d1, e, h0, h1, h2, h3, h4, h5, h6, h7⟩ := h; exact ⟨b1, by rw [e]; rfl, h3⟩
theorem C4In.e4 {L : Nat} {w : World} {cs : Array Value} {A0 A1 B0 B1 C0 C1 D0 D1 : Rat} (h : C4In L w cs A0 A1 B0 B1 C0 C1 D0 D1) : NIn L w (cs.extract 16 (16 + 4)) C0 := by obtain ⟨a0, a1, b0, b1, c0, c1, d0, d1, e, h0, h1, h2, h3, h4, h5, h6, h7⟩ := h; exact ⟨c0, by rw [e]; rfl, h4⟩
theorem C4In.e5 {L : Nat} {w : World} {cs : Array Value} {A0 A1 B0 B1 C0 C1 D0 D1 : Rat} (h : C4In L w cs A0 A1 B0 B1 C0 C1 D0 D1) : NIn L w (cs.extract 20 (20 + 4)) C1 := by obtain ⟨a0, a1, b0, b1, c0, c1, d0, d1, e, h0, h1, h2, h3, h4, h5, h6, h7⟩ := h; exact ⟨c1, by rw [e]; rfl, h5⟩
theorem C4In.e6 {L : Nat} {w : World} {cs : Array Value} {A0 A1 B0 B1 C0 C1 D0 D1 : Rat} (h : C4In L w cs A0 A1 B0 B1 C0 C1 D0 D1) : NIn L w (cs.extract 24 (24 + 4)) D0 := by obtain ⟨a0, a1, b0, b1, c0, c1, d0, d1, e, h0, h1, h2, h3, h4, h5, h6, h7⟩ := h; exact ⟨d0, by rw [e]; rfl, h6⟩
theorem C4In.e7 {L : Nat} {w : World} {cs : Array Value} {A0 A1 B0 B1 C0 C1 D0 D1 : Rat} (h : C4In L w cs A0 A1 B0 B1 C0 C1 D0 D1) : NIn L w (cs.extract 28 (28 + 4)) D1 := by obtain ⟨a0, a1, b0, b1, c0, c1, d0, d1, e, h0, h1, h2, h3, h4, h5, h6, h7⟩ := h; exact ⟨d1, by rw [e]; rfl, h7⟩
theorem C4In.p0 {L : Nat} {w : World} {cs : Array Value} {A0 A1 B0 B1 C0 C1 D0 D1 : Rat} (h : C4In L w cs A0 A1 B0 B1 C0 C1 D0 D1) : PtIn L w (cs.extract 0 (0 + 8)) A0 A1 := by obtain ⟨a0, a1, b0, b1, c0, c1, d0, d1, e, h0, h1, h2, h3, h4, h5, h6, h7⟩ := h; exact ⟨a0, a1, by rw [e]; rfl, h0, h1⟩
theorem C4In.p1 {L : Nat} {w : World} {cs : Array Value} {A0 A1 B0 B1 C0 C1 D0 D1 : Rat} (h : C4In L w cs A0 A1 B0 B1 C0 C1 D0 D1) : PtIn L w (cs.extract 8 (8 + 8)) B0 B1 := by obtain ⟨a0, a1, b0, b1, c0, c1, d0, d1, e, h0, h1, h2, h3, h4, h5, h6, h7⟩ := h; exact ⟨b0, b1, by rw [e]; rfl, h2, h3⟩
theorem C4In.p2 {L : Nat} {w : World} {cs : Array Value} {A0 A1 B0 B1 C0 C1 D0 D1 : Rat} (h : C4In L w cs A0 A1 B0 B1 C0 C1 D0 D1) : PtIn L w (cs.extract 16 (16 + 8)) C0 C1 := by obtain ⟨a0, a1, b0, b1, c0, c1, d0, d1, e, h0, h1, h2, h3, h4, h5, h6, h7⟩ := h; exact ⟨c0, c1, by rw [e]; rfl, h4, h5⟩
theorem C4In.p3 {L : Nat} {w : World} {cs : Array Value} {A0 A1 B0 B1 C0 C1 D0 D1 : Rat} (h : C4In L w cs A0 A1 B0 B1 C0 C1 D0 D1) : PtIn L w (cs.extract 24 (24 + 8)) D0 D1 := by obtain ⟨a0, a1, b0, b1, c0, c1, d0, d1, e, h0, h1, h2, h3, h4, h5, h6, h7⟩ := h; exact ⟨d0, d1, by rw [e]; rfl, h6, h7⟩
theorem C4In.mono {L : Nat} {w : World} {cs : Array Value} {A0 A1 B0 B1 C0 C1 D0 D1 : Rat} {M : Nat} (h : C4In L w cs A0 A1 B0 B1 C0 C1 D0 D1) (hl : L ≤ M) : C4In M w cs A0 A1 B0 B1 C0 C1 D0 D1 := by obtain ⟨a0, a1, b0, b1, c0, c1, d0, d1, e, h0, h1, h2, h3, h4, h5, h6, h7⟩ := h; exact ⟨a0, a1, b0, b1, c0, c1, d0, d1, e, h0.mono hl, h1.mono hl, h2.mono hl, h3.mono hl, h4.mono hl, h5.mono hl, h6.mono hl, h7.mono hl⟩
def C4Is (w : World) (cs : Array Value) (A0 A1 B0 B1 C0 C1 D0 D1 : Rat) : Prop := ∃ a0 a1 b0 b1 c0 c1 d0 d1 : RV, cs = #[.bool a0.n, .slice a0.p a0.l a0.c, .bool a0.m, .slice a0.p2 a0.l2 a0.c2, .bool a1.n, .slice a1.p a1.l a1.c, .bool a1.m, .slice a1.p2 a1.l2 a1.c2, .bool b0.n, .slice b0.p b0.l b0.c, .bool b0.m, .slice b0.p2 b0.l2 b0.c2, .bool b1.n, .slice b1.p b1.l b1.c, .bool b1.m, .slice b1.p2 b1.l2 b1.c2, .bool c0.n, .slice c0.p c0.l c0.c, .bool c0.m, .slice c0.p2 c0.l2 c0.c2, .bool c1.n, .slice c1.p c1.l c1.c, .bool c1.m, .slice c1.p2 c1.l2 c1.c2, .bool d0.n, .slice d0.p d0.l d0.c, .bool d0.m, .slice d0.p2 d0.l2 d0.c2, .bool d1.n, .slice d1.p d1.l d1.c, .bool d1.m, .slice d1.p2 d1.l2 d1.c2] ∧ a0.Is w A0 ∧ a1.Is w A1 ∧ b0.Is w B0 ∧ b1.Is w B1 ∧ c0.Is w C0 ∧ c1.Is w C1 ∧ d0.Is w D0 ∧ d1.Is w D1
theorem C4Is.ext {w : World} {cs : Array Value} {A0 A1 B0 B1 C0 C1 D0 D1 : Rat} {w' : World} (h : C4Is w cs A0 A1 B0 B1 C0 C1 D0 D1) (x : Ext w w') : C4Is w' cs A0 A1 B0 B1 C0 C1 D0 D1 := by obtain ⟨a0, a1, b0, b1, c0, c1, d0, d1, e, h0, h1, h2, h3, h4, h5, h6, h7⟩ := h; exact ⟨a0, a1, b0, b1, c0, c1, d0, d1, e, h0.ext x, h1.ext x, h2.ext x, h3.ext x, h4.ext x, h5.ext x, h6.ext x, h7.ext x⟩
theorem C4Is.size {w : World} {cs : Array Value} {A0 A1 B0 B1 C0 C1 D0 D1 : Rat} (h : C4Is w cs A0 A1 B0 B1 C0 C1 D0 D1) : cs.size = 32 := by obtain ⟨a0, a1, b0, b1, c0, c1, d0, d1, e, h0, h1, h2, h3, h4, h5, h6, h7⟩ := h; rw [e]; rfl
theorem C4Is.one {w : World} {cs : Array Value} {A0 A1 B0 B1 C0 C1 D0 D1 : Rat} (h : C4Is w cs A0 A1 B0 B1 C0 C1 D0 D1) : cs.all (·.oneCell') = true := by obtain ⟨a0, a1, b0, b1, c0, c1, d0, d1, e, h0, h1, h2, h3, h4, h5, h6, h7⟩ := h; rw [e]; exact all_oneCell_toArray (by simp [Value.oneCell'])
theorem C4Is.map {w : World} {cs : Array Value} {A0 A1 B0 B1 C0 C1 D0 D1 : Rat} {w' : World} (h : C4Is w cs A0 A1 B0 B1 C0 C1 D0 D1) (x : ∀ (r : RV) (q : Rat), r.Is w q → r.Is w' q) : C4Is w' cs A0 A1 B0 B1 C0 C1 D0 D1 := by obtain ⟨a0, a1, b0, b1, c0, c1, d0, d1, e, h0, h1, h2, h3, h4, h5, h6, h7⟩ := h; exact ⟨a0, a1, b0, b1, c0, c1, d0, d1, e, x _ _ h0, x _ _ h1, x _ _ h2, x _ _ h3, x _ _ h4, x _ _ h5, x _ _ h6, x _ _ h7⟩
theorem C4Is.e0 {w : World} {cs : Array Value} {A0 A1 B0 B1 C0 C1 D0 D1 : Rat} (h : C4Is w cs A0 A1 B0 B1 C0 C1 D0 D1) : NIs w (cs.extract 0 (0 + 4)) A0 := by obtain ⟨a0, a1, b0, b1, c0, c1, d0, d1, e, h0, h1, h2, h3, h4, h5, h6, h7⟩ := h; exact ⟨a0, by rw [e]; rfl, h0⟩
theorem C4Is.e1 {w : World} {cs : Array Value} {A0 A1 B0 B1 C0 C1 D0 D1 : Rat} (h : C4Is w cs A0 A1 B0 B1 C0 C1 D0 D1) : NIs w (cs.extract 4 (4 + 4)) A1 := by obtain ⟨a0, a1, b0, b1, c0, c1, d0, d1, e, h0, h1, h2, h3, h4, h5, h6, h7⟩ := h; exact ⟨a1, by rw [e]; rfl, h1⟩
theorem C4Is.e2 {w : World} {cs : Array Value} {A0 A1 B0 B1 C0 C1 D0 D1 : Rat} (h : C4Is w cs A0 A1 B0 B1 C0 C1 D0 D1) : NIs w (cs.extract 8 (8 + 4)) B0 := by obtain ⟨a0, a1, b0, b1, c0, c1, d0, d1, e, h0, h1, h2, h3, h4, h5, h6, h7⟩ := h; exact ⟨b0, by rw [e]; rfl, h2⟩
theorem C4Is.e3 {w : World} {cs : Array Value} {A0 A1 B0 B1 C0 C1 D0 D1 : Rat} (h : C4Is w cs A0 A1 B0 B1 C0 C1 D0 D1) : NIs w (cs.extract 12 (12 + 4)) B1 := by obtain ⟨a0, a1, b0, b1, c0, c1, d0, d1, e, h0, h1, h2, h3, h4, h5, h6, h7⟩ := h; exact ⟨b1, by rw [e]; rfl, h3⟩
theorem C4Is.e4 {w : World} {cs : Array Value} {A0 A1 B0 B1 C0 C1 D0 D1 : Rat} (h : C4Is w cs A0 A1 B0 B1 C0 C1 D0 D1) : NIs w (cs.extract 16 (16 + 4)) C0 := by obtain ⟨a0, a1, b0, b1, c0, c1, d0, d1, e, h0, h1, h2, h3, h4, h5, h6, h7⟩ := h; exact ⟨c0, by rw [e]; rfl, h4⟩
theorem C4Is.e5 {w : World} {cs : Array Value} {A0 A1 B0 B1 C0 C1 D0 D1 : Rat} (h : C4Is w cs A0 A1 B0 B1 C0 C1 D0 D1) : NIs w (cs.extract 20 (20 + 4)) C1 := by obtain ⟨a0, a1, b0, b1, c0, c1, d0, d1, e, h0, h1, h2, h3, h4, h5, h6, h7⟩ := h; exact ⟨c1, by rw [e]; rfl, h5⟩
theorem C4Is.e6 {w : World} {cs : Array Value} {A0 A1 B0 B1 C0 C1 D0 D1 : Rat} (h : C4Is w cs A0 A1 B0 B1 C0 C1 D0 D1) : NIs w (cs.extract 24 (24 + 4)) D0 := by obtain ⟨a0, a1, b0, b1, c0, c1, d0, d1, e, h0, h1, h2, h3, h4, h5, h6, h7⟩ := h; exact ⟨d0, by rw [e]; rfl, h6⟩
theorem C4Is.e7 {w : World} {cs : Array Value} {A0 A1 B0 B1 C0 C1 D0 D1 : Rat} (h : C4Is w cs A0 A1 B0 B1 C0 C1 D0 D1) : NIs w (cs.extract 28 (28 + 4)) D1 := by obtain ⟨a0, a1, b0, b1, c0, c1, d0, d1, e, h0, h1, h2, h3, h4, h5, h6, h7⟩ := h; exact ⟨d1, by rw [e]; rfl, h7⟩
theorem C4Is.p0 {w : World} {cs : Array Value} {A0 A1 B0 B1 C0 C1 D0 D1 : Rat} (h : C4Is w cs A0 A1 B0 B1 C0 C1 D0 D1) : PtIs w (cs.extract 0 (0 + 8)) A0 A1 := by obtain ⟨a0, a1, b0, b1, c0, c1, d0, d1, e, h0, h1, h2, h3, h4, h5, h6, h7⟩ := h; exact ⟨a0, a1, by rw [e]; rfl, h0, h1⟩
theorem C4Is.p1 {w : World} {cs : Array Value} {A0 A1 B0 B1 C0 C1 D0 D1 : Rat} (h : C4Is w cs A0 A1 B0 B1 C0 C1 D0 D1) : PtIs w (cs.extract 8 (8 + 8)) B0 B1 := by obtain ⟨a0, a1, b0, b1, c0, c1, d0, d1, e, h0, h1, h2, h3, h4, h5, h6, h7⟩ := h; exact ⟨b0, b1, by rw [e]; rfl, h2, h3⟩
theorem C4Is.p2 {w : World} {cs : Array Value} {A0 A1 B0 B1 C0 C1 D0 D1 : Rat} (h : C4Is w cs A0 A1 B0 B1 C0 C1 D0 D1) : PtIs w (cs.extract 16 (16 + 8)) C0 C1 := by obtain ⟨a0, a1, b0, b1, c0, c1, d0, d1, e, h0, h1, h2, h3, h4, h5, h6, h7⟩ := h; exact ⟨c0, c1, by rw [e]; rfl, h4, h5⟩
theorem C4Is.p3 {w : World} {cs : Array Value} {A0 A1 B0 B1 C0 C1 D0 D1 : Rat} (h : C4Is w cs A0 A1 B0 B1 C0 C1 D0 D1) : PtIs w (cs.extract 24 (24 + 8)) D0 D1 := by obtain ⟨a0, a1, b0, b1, c0, c1, d0, d1, e, h0, h1, h2, h3, h4, h5, h6, h7⟩ := h; exact ⟨d0, d1, by rw [e]; rfl, h6, h7⟩

section
variable {L : Nat} {w : World} {cs ct : Array Value}

theorem oEvalQuad {A0 A1 B0 B1 C0 C1 S : Rat} (hp : Q3In L w cs A0 A1 B0 B1 C0 C1) (ht : NIn L w ct S) (h1 : 1 ≤ L) (hL : L ≤ 3000) :
    Calls Tryz.prog 14 #[.agg cs, .agg ct] w fun e w' => ∃ c, e = .returned (.agg c) ∧ PtIs w' c (quadV A0 B0 C0 S) (quadV A1 B1 C1 S) ∧ Ext w w' := by
  obtain ⟨a0, a1, b0, b1, c0, c1, rfl, ha0, ha1, hb0, hb1, hc0, hc1⟩ := hp
  obtain ⟨t, rfl, ht⟩ := ht
  refine (evalQuad_any a0 a1 b0 b1 c0 c1 t L A0 A1 B0 B1 C0 C1 S w ha0 ha1 hb0 hb1 hc0 hc1 ht h1 hL).mono ?_
  rintro e w' ⟨u, v, rfl, k1, k2, k3⟩
  exact ⟨_, rfl, ⟨u, v, rfl, k1, k2⟩, k3⟩

theorem iSplitCubic {A0 A1 B0 B1 C0 C1 D0 D1 S : Rat} (hp : C4In L w cs A0 A1 B0 B1 C0 C1 D0 D1) (ht : NIn L w ct S) (h1 : 1 ≤ L) (hL : L ≤ 200) :
    Calls Tryz.prog 11 #[.agg cs, .agg ct] w fun e w' => ∃ c1 c2, e = .returned (.tuple #[.agg c1, .agg c2]) ∧ C4Is w' c1 A0 A1 (lerpV A0 B0 S) (lerpV A1 B1 S) (lerpV (lerpV A0 B0 S) (lerpV B0 C0 S) S) (lerpV (lerpV A1 B1 S) (lerpV B1 C1 S) S) (lerpV (lerpV (lerpV A0 B0 S) (lerpV B0 C0 S) S) (lerpV (lerpV B0 C0 S) (lerpV C0 D0 S) S) S) (lerpV (lerpV (lerpV A1 B1 S) (lerpV B1 C1 S) S) (lerpV (lerpV B1 C1 S) (lerpV C1 D1 S) S) S) ∧ C4Is w' c2 (lerpV (lerpV (lerpV A0 B0 S) (lerpV B0 C0 S) S) (lerpV (lerpV B0 C0 S) (lerpV C0 D0 S) S) S) (lerpV (lerpV (lerpV A1 B1 S) (lerpV B1 C1 S) S) (lerpV (lerpV B1 C1 S) (lerpV C1 D1 S) S) S) (lerpV (lerpV B0 C0 S) (lerpV C0 D0 S) S) (lerpV (lerpV B1 C1 S) (lerpV C1 D1 S) S) (lerpV C0 D0 S) (lerpV C1 D1 S) D0 D1 ∧ Ext w w' := by
  obtain ⟨a0, a1, b0, b1, c0, c1, d0, d1, rfl, ha0, ha1, hb0, hb1, hc0, hc1, hd0, hd1⟩ := hp
  obtain ⟨t, rfl, ht⟩ := ht
  refine (splitCubic_any a0 a1 b0 b1 c0 c1 d0 d1 t L A0 A1 B0 B1 C0 C1 D0 D1 S w ha0 ha1 hb0 hb1 hc0 hc1 hd0 hd1 ht h1 hL).mono ?_
  rintro e w' ⟨u0, u1, u2, u3, u4, u5, u6, u7, v0, v1, v2, v3, v4, v5, v6, v7, rfl, ⟨xu0, xu1, xu2, xu3, xu4, xu5, xu6, xu7⟩, ⟨xv0, xv1, xv2, xv3, xv4, xv5, xv6, xv7⟩, hx⟩
  exact ⟨_, _, rfl, ⟨u0, u1, u2, u3, u4, u5, u6, u7, rfl, xu0, xu1, xu2, xu3, xu4, xu5, xu6, xu7⟩, ⟨v0, v1, v2, v3, v4, v5, v6, v7, rfl, xv0, xv1, xv2, xv3, xv4, xv5, xv6, xv7⟩, hx⟩

theorem oExactQuad {A0 A1 B0 B1 C0 C1 D0 D1 : Rat} (hp : C4In L w cs A0 A1 B0 B1 C0 C1 D0 D1) :
    Calls Tryz.prog 8 #[.agg cs] w fun e w' => ∃ c1, e = .returned (.agg c1) ∧ Q3In L w' c1 A0 A1 B0 B1 C0 C1 ∧ Ext w w' := by
  obtain ⟨a0, a1, b0, b1, c0, c1, d0, d1, rfl, ha0, ha1, hb0, hb1, hc0, hc1, hd0, hd1⟩ := hp
  refine (exactQuad_any a0 a1 b0 b1 c0 c1 d0 d1 w).mono ?_
  rintro e w' ⟨rfl, hx⟩
  exact ⟨_, rfl, ⟨a0, a1, b0, b1, c0, c1, rfl, ha0.ext hx, ha1.ext hx, hb0.ext hx, hb1.ext hx, hc0.ext hx, hc1.ext hx⟩, hx⟩

theorem oSamePoint {x y : Rat} (hp : PtIs w cs x y) (hq : PtIs w ct x y) (hx : Nm.rl x ≤ L) (hy : Nm.rl y ≤ L) (hL : L ≤ 1000000) :
    Calls Tryz.prog 13 #[.agg cs, .agg ct] w fun e w' => e = .returned (.bool true) ∧ Ext w w' := by
  obtain ⟨a, b, rfl, h1, h2⟩ := hp
  obtain ⟨c, d, rfl, h3, h4⟩ := hq
  exact samePoint_any a b c d x y L w h1 h2 h3 h4 hx hy hL

theorem r03Mul {q r : Rat} (hp : NIn L w cs q) (hq : NIn L w ct r) (hL : L ≤ 3000) :
    Calls Tryz.prog 37 #[.agg cs, .agg ct] w fun e w' => ∃ c, e = .returned (.agg c) ∧ NIs w' c (q * r) ∧ Ext w w' := by
  obtain ⟨a, rfl, h1⟩ := hp
  obtain ⟨b, rfl, h2⟩ := hq
  refine (r3mul_any _ _ _ _ _ _ _ _ L q r w h1 h2 (by omega)).mono ?_
  intro e w' h
  obtain ⟨x, rfl, k1, k2⟩ := RetR.v h
  exact ⟨_, rfl, ⟨x, rfl, k1⟩, k2⟩

theorem r03Add {q r : Rat} (hp : NIn L w cs q) (hq : NIn L w ct r) (hL : L ≤ 3000) :
    Calls Tryz.prog 63 #[.agg cs, .agg ct] w fun e w' => ∃ c, e = .returned (.agg c) ∧ NIs w' c (q + r) ∧ Ext w w' := by
  obtain ⟨a, rfl, h1⟩ := hp
  obtain ⟨b, rfl, h2⟩ := hq
  refine (r3add_any _ _ _ _ _ _ _ _ L q r w h1 h2 (by omega)).mono ?_
  intro e w' h
  obtain ⟨x, rfl, k1, k2⟩ := RetR.v h
  exact ⟨_, rfl, ⟨x, rfl, k1⟩, k2⟩

theorem r03Sub {q r : Rat} (hp : NIn L w cs q) (hq : NIn L w ct r) (hL : L ≤ 3000) :
    Calls Tryz.prog 35 #[.agg cs, .agg ct] w fun e w' => ∃ c, e = .returned (.agg c) ∧ NIs w' c (q - r) ∧ Ext w w' := by
  obtain ⟨a, rfl, h1⟩ := hp
  obtain ⟨b, rfl, h2⟩ := hq
  refine (r3sub_any _ _ _ _ _ _ _ _ L q r w h1 h2 (by omega)).mono ?_
  intro e w' h
  obtain ⟨x, rfl, k1, k2⟩ := RetR.v h
  exact ⟨_, rfl, ⟨x, rfl, k1⟩, k2⟩

theorem r03FromInt (a : Int) (w : World) (h1 : -9223372036854775808 ≤ a) (h2 : a ≤ 9223372036854775807) :
    Calls Tryz.prog 36 #[.int .i64 a] w fun e w' => ∃ c, e = .returned (.agg c) ∧ NIs w' c (a : Rat) ∧ Ext w w' := by
  refine (r3fromInt_any a w h1 h2).mono ?_
  intro e w' h
  obtain ⟨x, rfl, k1, k2⟩ := RetR.v h
  exact ⟨_, rfl, ⟨x, rfl, k1⟩, k2⟩

end
end Go.Proofs.YtllpkoinjompcaaGreat

namespace Go.Proofs.YtllpkoinjompcaaGreat
open Go.RowKit

theorem wp_call_op {P : Program} {op : Oper} {a : Act} {w : World} {K : Act → World → Prop} {Q : Exit → Act → World → Prop} {f : FuncId} {args : Array Value} {Φ : Ending → World → Prop}
    (hv : (execOp a.eval op).run P w = .ok (.enter f args) w) (hc : Calls P f args w Φ) (h : ∀ e w', Φ e w' → ∃ v, e = .returned v ∧ K (a.put op.dst v) w') : op.wp P a w K Q := by
  unfold Oper.wp
  rw [hv]
  simp only [Oper.upon]
  refine Calls.mono hc fun e w' he => ?_
  obtain ⟨v, rfl, hk⟩ := h e w' he
  exact hk

section
variable {P : Program} {ops : Array Oper} {rest : List Oper} {op : Oper} {a : Act} {w w' : World} {Q : Exit → Act → World → Prop} {v : Value}

theorem wpList_if (hw : Region.wanted op (yielded ops a.tmps) = true) (h : op.wp P a w (wpList P ops Q rest) Q) : wpList P ops Q (op :: rest) a w := by
  rw [wpList, if_pos hw]
  exact .inl h
theorem mv_skip (hw : Region.wanted op (yielded ops a.tmps) = false) (h : wpList P ops Q rest (a.put op.dst undef) w) : wpList P ops Q (op :: rest) a w := by
  rw [wpList, if_neg (by rw [hw]; exact Bool.false_ne_true)]
  exact h
theorem mv_val (hw : Region.wanted op (yielded ops a.tmps) = true) (hv : (execOp a.eval op).run P w = .ok (.value v) w') (h : wpList P ops Q rest (a.put op.dst v) w') : wpList P ops Q (op :: rest) a w :=
  wpList_if hw (by unfold Oper.wp; rw [hv]; exact h)
theorem mv_call {f : FuncId} {args : Array Value} {Φ : Ending → World → Prop} (hw : Region.wanted op (yielded ops a.tmps) = true) (hv : (execOp a.eval op).run P w = .ok (.enter f args) w) (hc : Calls P f args w Φ)
    (h : ∀ e w', Φ e w' → ∃ v, e = .returned v ∧ wpList P ops Q rest (a.put op.dst v) w') : wpList P ops Q (op :: rest) a w := wpList_if hw (wp_call_op hv hc h)
theorem mv_load (hw : Region.wanted op (yielded ops a.tmps) = true) (ty : TypeId) (x : Operand) (ho : op.op = .load ty x) (g : Nat) (t : TypeId) (cs : Array Value) (d : TypeDesc) (hx : a.eval x = .pointer (some ⟨g, 0, none⟩)) (hb : Blk w g t cs)
    (hu : P.underlying ty = some d) (hd : d.isRow = true) (hi : (P.info? ty).map (·.size) = some cs.size) (h : wpList P ops Q rest (a.put op.dst (.agg cs)) w) : wpList P ops Q (op :: rest) a w :=
  wpList_if hw (wp_load_mid ty x ho g 0 hx cs.toList d hb.range hu hd (by simpa using hi) (by simpa using h))
theorem mv_store (hw : Region.wanted op (yielded ops a.tmps) = true) (ty : TypeId) (x y : Operand) (ho : op.op = .store ty x y) (g : Nat) (t : TypeId) (cs0 cs : Array Value) (hx : a.eval x = .pointer (some ⟨g, 0, none⟩)) (hy : a.eval y = .agg cs)
    (hb : Blk w g t cs0) (hl : cs.size = cs0.size) (hi : (P.info? ty).map (·.size) = some cs.size) (h1 : cs.all (·.oneCell') = true)
    (h : wpList P ops Q rest (a.put op.dst undef) (w.setCells g 0 cs.toList)) : wpList P ops Q (op :: rest) a w :=
  wpList_if hw (wp_store_blk ty x y ho g t cs0 cs hx hy hb hl hi h1 h)
theorem Blk.part {w : World} {g : Nat} {t : TypeId} {cs : Array Value} (h : Blk w g t cs) (o n : Nat) : w.rangeAt g o (cs.extract o (o + n)).toList := World.rangeAt_of_block h o n
theorem mv_part (hw : Region.wanted op (yielded ops a.tmps) = true) (ty : TypeId) (x : Operand) (ho : op.op = .load ty x) (g o n : Nat) (t : TypeId) (cs : Array Value) (d : TypeDesc) (hx : a.eval x = .pointer (some ⟨g, o, none⟩)) (hb : Blk w g t cs)
    (hu : P.underlying ty = some d) (hd : d.isRow = true) (hi : (P.info? ty).map (·.size) = some n) (hn : o + n ≤ cs.size) (h : wpList P ops Q rest (a.put op.dst (.agg (cs.extract o (o + n)))) w) : wpList P ops Q (op :: rest) a w :=
  wpList_if hw (wp_load_mid ty x ho g o hx (cs.extract o (o + n)).toList d (hb.part o n) hu hd (by rw [hi]; congr 1; simp; omega) (by rw [Array.toArray_toList]; exact h))
end

section
variable {P : Program} {l : List Oper} {Q : Exit → Act → World → Prop} {md : Region.Mode} {S : World → Prop} {i : Nat} {oi : Oper} {fuel : Nat} {listed listed' : Array Bool} {a : Act} {w w' : World} {v : Value}

theorem stored_one {wb w : World} {T : TypeId} {X1 : Nat} {zs c1 : Array Value} (hn : NoU zs) (hx : Ext wb w) (B1 : Blk w X1 T zs) (z1 : wb.heap.size ≤ X1) (h1 : c1.size = zs.size) :
    Ext wb (w.setCells X1 0 c1.toList) ∧ Blk (w.setCells X1 0 c1.toList) X1 T c1 ∧ (∀ (r : RV) (q : Rat), r.Is w q → r.Is (w.setCells X1 0 c1.toList) q) := by
  have o1 := Own.setCells w X1 c1
  exact ⟨o1.ext hx z1, B1.setCells c1 h1, fun r q h => h.own B1 hn o1⟩
theorem stored_two {wb w : World} {T : TypeId} {X1 X2 : Nat} {zs c1 c2 : Array Value} (hn : NoU zs) (hx : Ext wb w) (B1 : Blk w X1 T zs) (B2 : Blk w X2 T zs) (z1 : wb.heap.size ≤ X1) (z2 : wb.heap.size ≤ X2) (n12 : X1 ≠ X2) (h1 : c1.size = zs.size) (h2 : c2.size = zs.size) :
    Blk (w.setCells X1 0 c1.toList) X2 T zs ∧ Ext wb ((w.setCells X1 0 c1.toList).setCells X2 0 c2.toList) ∧ Blk ((w.setCells X1 0 c1.toList).setCells X2 0 c2.toList) X1 T c1 ∧ Blk ((w.setCells X1 0 c1.toList).setCells X2 0 c2.toList) X2 T c2 ∧ Ext wb (w.setCells X1 0 c1.toList) ∧
    (∀ (r : RV) (q : Rat), r.Is w q → r.Is ((w.setCells X1 0 c1.toList).setCells X2 0 c2.toList) q) := by
  obtain ⟨e1, b1, f1⟩ := stored_one hn hx B1 z1 h1
  have B2' := B2.own (Own.setCells w X1 c1) (Ne.symm n12)
  obtain ⟨e2, b2, f2⟩ := stored_one hn e1 B2' z2 h2
  exact ⟨B2', e2, b1.own (Own.setCells _ X2 c2) n12, b2, e1, fun r q h => f2 r q (f1 r q h)⟩
theorem stored_three {wb w : World} {T : TypeId} {X1 X2 X3 : Nat} {zs c1 c2 c3 : Array Value} (hn : NoU zs) (hx : Ext wb w) (B1 : Blk w X1 T zs) (B2 : Blk w X2 T zs) (B3 : Blk w X3 T zs) (z1 : wb.heap.size ≤ X1) (z2 : wb.heap.size ≤ X2) (z3 : wb.heap.size ≤ X3)
    (n12 : X1 ≠ X2) (n13 : X1 ≠ X3) (n23 : X2 ≠ X3) (h1 : c1.size = zs.size) (h2 : c2.size = zs.size) (h3 : c3.size = zs.size) :
    Blk (w.setCells X1 0 c1.toList) X2 T zs ∧ Blk ((w.setCells X1 0 c1.toList).setCells X2 0 c2.toList) X3 T zs ∧ Ext wb (((w.setCells X1 0 c1.toList).setCells X2 0 c2.toList).setCells X3 0 c3.toList) ∧
    Blk (((w.setCells X1 0 c1.toList).setCells X2 0 c2.toList).setCells X3 0 c3.toList) X1 T c1 ∧ Blk (((w.setCells X1 0 c1.toList).setCells X2 0 c2.toList).setCells X3 0 c3.toList) X2 T c2 ∧ Blk (((w.setCells X1 0 c1.toList).setCells X2 0 c2.toList).setCells X3 0 c3.toList) X3 T c3 ∧
    Ext wb (w.setCells X1 0 c1.toList) ∧ Ext wb ((w.setCells X1 0 c1.toList).setCells X2 0 c2.toList) ∧
    (∀ (r : RV) (q : Rat), r.Is w q → r.Is (((w.setCells X1 0 c1.toList).setCells X2 0 c2.toList).setCells X3 0 c3.toList) q) := by
  obtain ⟨k1, e2, b1, b2, e1, f2⟩ := stored_two hn hx B1 B2 z1 z2 n12 h1 h2
  have B3' := (B3.own (Own.setCells w X1 c1) (Ne.symm n13)).own (Own.setCells (w.setCells X1 0 c1.toList) X2 c2) (Ne.symm n23)
  obtain ⟨e3, b3, f3⟩ := stored_one hn e2 B3' z3 h3
  exact ⟨k1, B3', e3, b1.own (Own.setCells _ X3 c3) n13, b2.own (Own.setCells _ X3 c3) n23, b3, e1, e2, fun r q h => f3 r q (f2 r q h)⟩

theorem new_var (w : World) (T : TypeId) (zs cs : Array Value) (hl : cs.size = zs.size) : Ext w ((w.alloc (.cells zs T)).setCells w.heap.size 0 cs.toList) ∧ Blk ((w.alloc (.cells zs T)).setCells w.heap.size 0 cs.toList) w.heap.size T cs :=
  ⟨(Own.setCells _ _ cs).ext ((Ext.refl w).alloc _) (Nat.le_refl _), Blk.setCells (Blk.new_at w _ rfl _ _) cs hl⟩

theorem new_var2 (w : World) (T : TypeId) (zs c1 c2 : Array Value) (h1 : c1.size = zs.size) (h2 : c2.size = zs.size) :
    Blk ((w.alloc (.cells zs T)).alloc (.cells zs T)) w.heap.size T zs ∧ Blk (((w.alloc (.cells zs T)).alloc (.cells zs T)).setCells w.heap.size 0 c1.toList) (w.alloc (.cells zs T)).heap.size T zs ∧
    Ext w ((((w.alloc (.cells zs T)).alloc (.cells zs T)).setCells w.heap.size 0 c1.toList).setCells (w.alloc (.cells zs T)).heap.size 0 c2.toList) ∧
    Blk ((((w.alloc (.cells zs T)).alloc (.cells zs T)).setCells w.heap.size 0 c1.toList).setCells (w.alloc (.cells zs T)).heap.size 0 c2.toList) w.heap.size T c1 ∧
    Blk ((((w.alloc (.cells zs T)).alloc (.cells zs T)).setCells w.heap.size 0 c1.toList).setCells (w.alloc (.cells zs T)).heap.size 0 c2.toList) (w.alloc (.cells zs T)).heap.size T c2 := by
  have b1 := (Blk.new w T zs).alloc (.cells zs T)
  have b2 := Blk.new (w.alloc (.cells zs T)) T zs
  have o1 := Own.setCells ((w.alloc (.cells zs T)).alloc (.cells zs T)) w.heap.size c1
  have o2 := Own.setCells (((w.alloc (.cells zs T)).alloc (.cells zs T)).setCells w.heap.size 0 c1.toList) (w.alloc (.cells zs T)).heap.size c2
  have ne : (w.alloc (.cells zs T)).heap.size ≠ w.heap.size := by simp
  have b2' := b2.own o1 ne
  exact ⟨b1, b2', o2.ext (o1.ext (((Ext.refl w).alloc _).alloc _) (Nat.le_refl _)) (by simp), (b1.setCells c1 h1).own o2 ne.symm, b2'.setCells c2 h2⟩

theorem md_val (hi : l[i]? = some oi) (hs : Region.noSelect l.toArray = true) (hf : Region.free md l.toArray listed i = true) (hr : (Region.ready md l.toArray listed).contains i = true)
    (hQ : ∀ c a w, Q (.panic c) (a.put oi.dst v) w → Q (.panic c) a w) (hw : Region.wanted oi (yielded l.toArray a.tmps) = true) (hv : ∀ w, S w → (execOp a.eval oi).run P w = .ok (.value v) w) (hS : S w)
    (hl : listed.setIfInBounds i true = listed') (h : wpAnyH P md l.toArray Q S fuel listed' (a.put oi.dst v) w) : wpAnyH P md l.toArray Q S (fuel + 1) listed a w :=
  wpAnyH_take_l hi hs hf hr hQ (Or.inl ⟨hw, hv⟩) hS (by rw [hl]; exact h)
theorem md_load (hi : l[i]? = some oi) (hs : Region.noSelect l.toArray = true) (hf : Region.free md l.toArray listed i = true) (hr : (Region.ready md l.toArray listed).contains i = true)
    (ty : TypeId) (x : Operand) (ho : oi.op = .load ty x) (g : Nat) (t : TypeId) (cs : Array Value) (d : TypeDesc)
    (hQ : ∀ c a w, Q (.panic c) (a.put oi.dst (.agg cs)) w → Q (.panic c) a w) (hw : Region.wanted oi (yielded l.toArray a.tmps) = true) (hx : a.eval x = .pointer (some ⟨g, 0, none⟩)) (hb : ∀ w, S w → Blk w g t cs)
    (hu : P.underlying ty = some d) (hd : d.isRow = true) (hz : (P.info? ty).map (·.size) = some cs.size) (hS : S w)
    (hl : listed.setIfInBounds i true = listed') (h : wpAnyH P md l.toArray Q S fuel listed' (a.put oi.dst (.agg cs)) w) : wpAnyH P md l.toArray Q S (fuel + 1) listed a w :=
  wpAnyH_take_l (v := .agg cs) hi hs hf hr hQ (by
    have h2 := yieldsIf_load_mid (P := P) (ops := l.toArray) (S := S) hw ty x ho g 0 hx cs.toList d (fun w hw => (hb w hw).range) hu hd (by simpa using hz)
    simpa using h2) hS (by rw [hl]; exact h)
theorem md_part (hi : l[i]? = some oi) (hs : Region.noSelect l.toArray = true) (hf : Region.free md l.toArray listed i = true) (hr : (Region.ready md l.toArray listed).contains i = true)
    (ty : TypeId) (x : Operand) (ho : oi.op = .load ty x) (g o n : Nat) (t : TypeId) (cs : Array Value) (d : TypeDesc)
    (hQ : ∀ c a w, Q (.panic c) (a.put oi.dst (.agg (cs.extract o (o + n)))) w → Q (.panic c) a w) (hw : Region.wanted oi (yielded l.toArray a.tmps) = true) (hx : a.eval x = .pointer (some ⟨g, o, none⟩)) (hb : ∀ w, S w → Blk w g t cs)
    (hu : P.underlying ty = some d) (hd : d.isRow = true) (hz : (P.info? ty).map (·.size) = some n) (hn : o + n ≤ cs.size) (hS : S w)
    (hl : listed.setIfInBounds i true = listed') (h : wpAnyH P md l.toArray Q S fuel listed' (a.put oi.dst (.agg (cs.extract o (o + n)))) w) : wpAnyH P md l.toArray Q S (fuel + 1) listed a w :=
  wpAnyH_take_l (v := .agg (cs.extract o (o + n))) hi hs hf hr hQ (by
    have h2 := yieldsIf_load_mid (P := P) (ops := l.toArray) (S := S) hw ty x ho g o hx (cs.extract o (o + n)).toList d (fun w hw => (hb w hw).part o n) hu hd (by rw [hz]; congr 1; simp; omega)
    rw [Array.toArray_toList] at h2
    exact h2) hS (by rw [hl]; exact h)
theorem md_skip (hi : l[i]? = some oi) (hs : Region.noSelect l.toArray = true) (hf : Region.free md l.toArray listed i = true) (hr : (Region.ready md l.toArray listed).contains i = true)
    (hQ : ∀ c a w, Q (.panic c) (a.put oi.dst undef) w → Q (.panic c) a w) (hn : Region.wanted oi (yielded l.toArray a.tmps) = false) (hS : S w)
    (hl : listed.setIfInBounds i true = listed') (h : wpAnyH P md l.toArray Q S fuel listed' (a.put oi.dst undef) w) : wpAnyH P md l.toArray Q S (fuel + 1) listed a w :=
  wpAnyH_skip_l hi hs hf hr hQ hn hS (by rw [hl]; exact h)
theorem md_call {f : FuncId} {args : Array Value} {Φ : Ending → World → Prop} (hi : l[i]? = some oi) (hr : Region.ready md l.toArray listed = [i]) (hw : Region.wanted oi (yielded l.toArray a.tmps) = true)
    (hv : (execOp a.eval oi).run P w = .ok (.enter f args) w) (hc : Calls P f args w Φ) (hl : listed.setIfInBounds i true = listed')
    (h : ∀ e w', Φ e w' → ∃ v, e = .returned v ∧ S w' ∧ wpAnyH P md l.toArray Q S fuel listed' (a.put oi.dst v) w') : wpAnyH P md l.toArray Q S (fuel + 1) listed a w :=
  wpAnyH_one_l hi hr (fun K hK => by
    rw [if_pos hw]
    refine wp_call_op hv hc fun e w' he => ?_
    obtain ⟨v, hv, hS, hh⟩ := h e w' he
    exact ⟨v, hv, hK.out _ _ hS (fun _ => by rw [hl]; exact hh)⟩)
theorem md_one (hi : l[i]? = some oi) (hr : Region.ready md l.toArray listed = [i]) (hw : Region.wanted oi (yielded l.toArray a.tmps) = true)
    (hv : (execOp a.eval oi).run P w = .ok (.value v) w') (hS : S w') (hl : listed.setIfInBounds i true = listed')
    (h : wpAnyH P md l.toArray Q S fuel listed' (a.put oi.dst v) w') : wpAnyH P md l.toArray Q S (fuel + 1) listed a w :=
  wpAnyH_one_l hi hr (fun K hK => by
    rw [if_pos hw]
    unfold Oper.wp
    rw [hv]
    exact hK.out _ _ hS (fun _ => by rw [hl]; exact h))
theorem md_store (hi : l[i]? = some oi) (hr : Region.ready md l.toArray listed = [i]) (hg : oi.guard = none) (ty : TypeId) (x y : Operand) (ho : oi.op = .store ty x y)
    (g : Nat) (t : TypeId) (cs0 cs : Array Value) (hx : a.eval x = .pointer (some ⟨g, 0, none⟩)) (hy : a.eval y = .agg cs) (hb : Blk w g t cs0) (hl0 : cs.size = cs0.size)
    (hz : (P.info? ty).map (·.size) = some cs.size) (h1 : cs.all (·.oneCell') = true) (hS : S (w.setCells g 0 cs.toList)) (hl : listed.setIfInBounds i true = listed')
    (h : wpAnyH P md l.toArray Q S fuel listed' (a.put oi.dst undef) (w.setCells g 0 cs.toList)) : wpAnyH P md l.toArray Q S (fuel + 1) listed a w :=
  wpAnyH_store_l hi hr hg ty x y ho g t cs0 cs hx hy hb hl0 hz h1 hS (by rw [hl]; exact h)
theorem md_call_or {f : FuncId} {args : Array Value} {Φ : Ending → World → Prop} {j : Nat} {oj : Oper} {u : Value} {wj : World} {lj : Array Bool} (hi : l[i]? = some oi) (hj : l[j]? = some oj) (hr : Region.ready md l.toArray listed = [i, j])
    (hw : Region.wanted oi (yielded l.toArray a.tmps) = true) (hv : (execOp a.eval oi).run P w = .ok (.enter f args) w) (hc : Calls P f args w Φ) (hl : listed.setIfInBounds i true = listed')
    (hwj : Region.wanted oj (yielded l.toArray a.tmps) = true) (hvj : (execOp a.eval oj).run P w = .ok (.value u) wj) (hSj : S wj) (hlj : listed.setIfInBounds j true = lj)
    (h : ∀ e w', Φ e w' → ∃ v, e = .returned v ∧ S w' ∧ wpAnyH P md l.toArray Q S fuel listed' (a.put oi.dst v) w') (h2 : wpAnyH P md l.toArray Q S fuel lj (a.put oj.dst u) wj) : wpAnyH P md l.toArray Q S (fuel + 1) listed a w :=
  wpAnyH_ready hr (by simp) (AllReadyH.cons (by rw [List.getElem?_toArray]; exact hi) (fun K hK => by
    rw [if_pos hw]
    refine wp_call_op hv hc fun e w' he => ?_
    obtain ⟨v, hv, hS, hh⟩ := h e w' he
    exact ⟨v, hv, hK.out _ _ hS (fun _ => by rw [hl]; exact hh)⟩) (AllReadyH.cons (by rw [List.getElem?_toArray]; exact hj) (fun K hK => by
    rw [if_pos hwj]
    unfold Oper.wp
    rw [hvj]
    exact hK.out _ _ hSj (fun _ => by rw [hlj]; exact h2)) AllReadyH.nil))
theorem md_two {j : Nat} {oj : Oper} {u : Value} {wi wj : World} {lj : Array Bool} (hi : l[i]? = some oi) (hj : l[j]? = some oj) (hr : Region.ready md l.toArray listed = [i, j])
    (hw : Region.wanted oi (yielded l.toArray a.tmps) = true) (hv : (execOp a.eval oi).run P w = .ok (.value v) wi) (hS : S wi) (hl : listed.setIfInBounds i true = listed')
    (hwj : Region.wanted oj (yielded l.toArray a.tmps) = true) (hvj : (execOp a.eval oj).run P w = .ok (.value u) wj) (hSj : S wj) (hlj : listed.setIfInBounds j true = lj)
    (h : wpAnyH P md l.toArray Q S fuel listed' (a.put oi.dst v) wi) (h2 : wpAnyH P md l.toArray Q S fuel lj (a.put oj.dst u) wj) : wpAnyH P md l.toArray Q S (fuel + 1) listed a w :=
  wpAnyH_ready hr (by simp) (AllReadyH.cons (by rw [List.getElem?_toArray]; exact hi) (fun K hK => by
    rw [if_pos hw]
    unfold Oper.wp
    rw [hv]
    exact hK.out _ _ hS (fun _ => by rw [hl]; exact h)) (AllReadyH.cons (by rw [List.getElem?_toArray]; exact hj) (fun K hK => by
    rw [if_pos hwj]
    unfold Oper.wp
    rw [hvj]
    exact hK.out _ _ hSj (fun _ => by rw [hlj]; exact h2)) AllReadyH.nil))
end
theorem Blk.setPart {w : World} {g : Nat} {t : TypeId} {cs : List Value} (h : Blk w g t cs.toArray) (o : Nat) (vs : List Value) (hl : o + vs.length ≤ cs.length) : Blk (w.setCells g o vs) g t (cs.take o ++ vs ++ cs.drop (o + vs.length)).toArray := heap_setCells g vs o w t cs h hl
theorem Blk.therePart {w : World} {g : Nat} {t : TypeId} {cs : List Value} (h : Blk w g t cs.toArray) (o n : Nat) (hl : o + n ≤ cs.length) : w.there g o n := fun j hj => by
  rw [h.cell, h.frozen]
  simp
  omega
theorem md_pstore {P : Program} {l : List Oper} {Q : Exit → Act → World → Prop} {md : Region.Mode} {S : World → Prop} {i : Nat} {oi : Oper} {fuel : Nat} {listed listed' : Array Bool} {a : Act} {w : World} (hi : l[i]? = some oi)
    (hr : Region.ready md l.toArray listed = [i]) (hw : Region.wanted oi (yielded l.toArray a.tmps) = true) (ty : TypeId) (x y : Operand) (ho : oi.op = .store ty x y)
    (g o : Nat) (t : TypeId) (cs0 : List Value) (cs : Array Value) (hx : a.eval x = .pointer (some ⟨g, o, none⟩)) (hy : a.eval y = .agg cs) (hb : Blk w g t cs0.toArray) (hl0 : o + cs.size ≤ cs0.length)
    (hz : (P.info? ty).map (·.size) = some cs.size) (h1 : cs.all (·.oneCell') = true) (hS : S (w.setCells g o cs.toList)) (hl : listed.setIfInBounds i true = listed')
    (h : wpAnyH P md l.toArray Q S fuel listed' (a.put oi.dst undef) (w.setCells g o cs.toList)) : wpAnyH P md l.toArray Q S (fuel + 1) listed a w :=
  wpAnyH_one_l hi hr (fun K hK => by
    rw [if_pos hw]
    exact wp_store_mid ty x y ho g o cs hx hy (hb.therePart o cs.size hl0) hz h1 (hK.out _ _ hS (fun _ => by rw [hl]; exact h)))
theorem run_storeVar_cell {P : Program} (w : World) (b o : Nat) (ty : TypeId) (v : Value) (ht : w.there b o 1) (hi : (P.info? ty).map (·.size) = some 1) (hc : v.cells = #[v]) (h1 : v.oneCell' = true) :
    (storeVar ty ⟨b, o, none⟩ v).run P w = .ok () (w.setCells b o [v]) := by
  have := run_storeCells_cells (P := P) b o [v] 0 w (fun j hj => by simpa using (ht j (by simpa using hj)).1) (fun j hj => by simpa using (ht j (by simpa using hj)).2)
    (fun u hu => by simp at hu; rw [hu]; exact h1)
  cases hq : P.info? ty with
  | none => simp [hq] at hi
  | some i =>
    have hs : i.size = 1 := by simpa [hq] using hi
    simp only [Nat.add_zero] at this
    simp [storeVar, sizeOf, typeInfo, hq, hc, hs, this]
theorem md_cell {P : Program} {l : List Oper} {Q : Exit → Act → World → Prop} {md : Region.Mode} {S : World → Prop} {i : Nat} {oi : Oper} {fuel : Nat} {listed listed' : Array Bool} {a : Act} {w : World} (hi : l[i]? = some oi)
    (hr : Region.ready md l.toArray listed = [i]) (hw : Region.wanted oi (yielded l.toArray a.tmps) = true) (ty : TypeId) (x y : Operand) (ho : oi.op = .store ty x y)
    (g o : Nat) (t : TypeId) (cs0 : List Value) (v : Value) (hx : a.eval x = .pointer (some ⟨g, o, none⟩)) (hy : a.eval y = v) (hb : Blk w g t cs0.toArray) (hl0 : o + 1 ≤ cs0.length)
    (hz : (P.info? ty).map (·.size) = some 1) (hc : v.cells = #[v]) (h1 : v.oneCell' = true) (hS : S (w.setCells g o [v])) (hl : listed.setIfInBounds i true = listed')
    (h : wpAnyH P md l.toArray Q S fuel listed' (a.put oi.dst undef) (w.setCells g o [v])) : wpAnyH P md l.toArray Q S (fuel + 1) listed a w :=
  wpAnyH_one_l hi hr (fun K hK => by
    rw [if_pos hw]
    unfold Oper.wp execOp
    simp only [ho, hx, hy, Instr.storeAt, Instr.sureAddr, Sem.run_bind, Sem.run_pure, Result.andThen_ok, run_storeVar_cell w g o ty v (hb.therePart o 1 hl0) hz hc h1]
    exact hK.out _ _ hS (fun _ => by rw [hl]; exact h))
def bl : Nat → Nat → List Bool
  | 0, _ => []
  | n + 1, m => (m % 2 == 1) :: bl n (m / 2)
abbrev bs (n m : Nat) : Array Bool := (bl n m).toArray
theorem mV {P : Program} {l : List Oper} {Q : Exit → Act → World → Prop} {md : Region.Mode} {S : World → Prop} {oi : Oper} {fuel : Nat} {listed : Array Bool} {a : Act} {w : World} {v : Value} (i : Nat) (listed' : Array Bool) (hS : S w) (h : wpAnyH P md l.toArray Q S fuel listed' (a.put oi.dst v) w) (hi : l[i]? = some oi := by rfl) (hs : Region.noSelect l.toArray = true := by kernel_rfl) (hf : Region.free md l.toArray listed i = true := by kernel_rfl) (hr : (Region.ready md l.toArray listed).contains i = true := by kernel_rfl) (hQ : ∀ c a w, Q (.panic c) (a.put oi.dst v) w → Q (.panic c) a w := by intro _ _ _ h; exact h) (hw : Region.wanted oi (yielded l.toArray a.tmps) = true := by rfl) (hv : ∀ w, S w → (execOp a.eval oi).run P w = .ok (.value v) w := by intro w hSw; (try dsimp only at hSw); go_simp <;> with_reducible rfl) (hl : listed.setIfInBounds i true = listed' := by kernel_rfl) : wpAnyH P md l.toArray Q S (fuel + 1) listed a w := md_val hi hs hf hr hQ hw hv hS hl h
theorem mS {P : Program} {l : List Oper} {Q : Exit → Act → World → Prop} {md : Region.Mode} {S : World → Prop} {oi : Oper} {fuel : Nat} {listed : Array Bool} {a : Act} {w : World} (i : Nat) (listed' : Array Bool) (hS : S w) (h : wpAnyH P md l.toArray Q S fuel listed' (a.put oi.dst undef) w) (hi : l[i]? = some oi := by rfl) (hs : Region.noSelect l.toArray = true := by kernel_rfl) (hf : Region.free md l.toArray listed i = true := by kernel_rfl) (hr : (Region.ready md l.toArray listed).contains i = true := by kernel_rfl) (hQ : ∀ c a w, Q (.panic c) (a.put oi.dst undef) w → Q (.panic c) a w := by intro _ _ _ h; exact h) (hn : Region.wanted oi (yielded l.toArray a.tmps) = false := by rfl) (hl : listed.setIfInBounds i true = listed' := by kernel_rfl) : wpAnyH P md l.toArray Q S (fuel + 1) listed a w := md_skip hi hs hf hr hQ hn hS hl h
theorem mL {P : Program} {l : List Oper} {Q : Exit → Act → World → Prop} {md : Region.Mode} {S : World → Prop} {oi : Oper} {fuel : Nat} {listed : Array Bool} {a : Act} {w : World} (i : Nat) (listed' : Array Bool) {ty : TypeId} {x : Operand} {t : TypeId} {d : TypeDesc} {g : Nat} {cs : Array Value} (hb : ∀ w, S w → Blk w g t cs) (hu : P.underlying ty = some d) (hz : (P.info? ty).map (·.size) = some cs.size) (hS : S w) (h : wpAnyH P md l.toArray Q S fuel listed' (a.put oi.dst (.agg cs)) w) (hi : l[i]? = some oi := by rfl) (hs : Region.noSelect l.toArray = true := by kernel_rfl) (hf : Region.free md l.toArray listed i = true := by kernel_rfl) (hr : (Region.ready md l.toArray listed).contains i = true := by kernel_rfl) (ho : oi.op = .load ty x := by rfl) (hQ : ∀ c a w, Q (.panic c) (a.put oi.dst (.agg cs)) w → Q (.panic c) a w := by intro _ _ _ h; exact h) (hw : Region.wanted oi (yielded l.toArray a.tmps) = true := by rfl) (hx : a.eval x = .pointer (some ⟨g, 0, none⟩) := by rfl) (hd : d.isRow = true := by rfl) (hl : listed.setIfInBounds i true = listed' := by kernel_rfl) : wpAnyH P md l.toArray Q S (fuel + 1) listed a w := md_load hi hs hf hr ty x ho g t cs d hQ hw hx hb hu hd hz hS hl h
theorem mP {P : Program} {l : List Oper} {Q : Exit → Act → World → Prop} {md : Region.Mode} {S : World → Prop} {oi : Oper} {fuel : Nat} {listed : Array Bool} {a : Act} {w : World} (i : Nat) (listed' : Array Bool) {ty : TypeId} {x : Operand} {t : TypeId} {d : TypeDesc} {g : Nat} (o n : Nat) {cs : Array Value} (hb : ∀ w, S w → Blk w g t cs) (hu : P.underlying ty = some d) (hn : o + n ≤ cs.size) (hS : S w) (h : wpAnyH P md l.toArray Q S fuel listed' (a.put oi.dst (.agg (cs.extract o (o + n)))) w) (hi : l[i]? = some oi := by rfl) (hs : Region.noSelect l.toArray = true := by kernel_rfl) (hf : Region.free md l.toArray listed i = true := by kernel_rfl) (hr : (Region.ready md l.toArray listed).contains i = true := by kernel_rfl) (ho : oi.op = .load ty x := by rfl) (hQ : ∀ c a w, Q (.panic c) (a.put oi.dst (.agg (cs.extract o (o + n)))) w → Q (.panic c) a w := by intro _ _ _ h; exact h) (hw : Region.wanted oi (yielded l.toArray a.tmps) = true := by rfl) (hx : a.eval x = .pointer (some ⟨g, o, none⟩) := by rfl) (hd : d.isRow = true := by rfl) (hz : (P.info? ty).map (·.size) = some n := by kernel_rfl) (hl : listed.setIfInBounds i true = listed' := by kernel_rfl) : wpAnyH P md l.toArray Q S (fuel + 1) listed a w := md_part hi hs hf hr ty x ho g o n t cs d hQ hw hx hb hu hd hz hn hS hl h
theorem mC {P : Program} {l : List Oper} {Q : Exit → Act → World → Prop} {md : Region.Mode} {S : World → Prop} {oi : Oper} {fuel : Nat} {listed : Array Bool} {a : Act} {w : World} {f : FuncId} {args : Array Value} {Φ : Ending → World → Prop} (i : Nat) (listed' : Array Bool) (hc : Calls P f args w Φ) (h : ∀ e w', Φ e w' → ∃ v, e = .returned v ∧ S w' ∧ wpAnyH P md l.toArray Q S fuel listed' (a.put oi.dst v) w') (hi : l[i]? = some oi := by rfl) (hr : Region.ready md l.toArray listed = [i] := by kernel_rfl) (hw : Region.wanted oi (yielded l.toArray a.tmps) = true := by rfl) (hv : (execOp a.eval oi).run P w = .ok (.enter f args) w := by go_simp) (hl : listed.setIfInBounds i true = listed' := by kernel_rfl) : wpAnyH P md l.toArray Q S (fuel + 1) listed a w := md_call hi hr hw hv hc hl h
theorem pV {P : Program} {ops : Array Oper} {rest : List Oper} {op : Oper} {a : Act} {w w' : World} {Q : Exit → Act → World → Prop} {v : Value} (h : wpList P ops Q rest (a.put op.dst v) w') (hw : Region.wanted op (yielded ops a.tmps) = true := by rfl) (hv : (execOp a.eval op).run P w = .ok (.value v) w' := by go_simp <;> with_reducible rfl) : wpList P ops Q (op :: rest) a w := mv_val hw hv h
abbrev z4 : Array Value := #[.bool false, .slice none 0 0, .bool false, .slice none 0 0]
abbrev z8 : Array Value := #[.bool false, .slice none 0 0, .bool false, .slice none 0 0, .bool false, .slice none 0 0, .bool false, .slice none 0 0]
abbrev z24 : Array Value := #[.bool false, .slice none 0 0, .bool false, .slice none 0 0, .bool false, .slice none 0 0, .bool false, .slice none 0 0, .bool false, .slice none 0 0, .bool false, .slice none 0 0, .bool false, .slice none 0 0, .bool false, .slice none 0 0, .bool false, .slice none 0 0, .bool false, .slice none 0 0, .bool false, .slice none 0 0, .bool false, .slice none 0 0]
abbrev z32 : Array Value := #[.bool false, .slice none 0 0, .bool false, .slice none 0 0, .bool false, .slice none 0 0, .bool false, .slice none 0 0, .bool false, .slice none 0 0, .bool false, .slice none 0 0, .bool false, .slice none 0 0, .bool false, .slice none 0 0, .bool false, .slice none 0 0, .bool false, .slice none 0 0, .bool false, .slice none 0 0, .bool false, .slice none 0 0, .bool false, .slice none 0 0, .bool false, .slice none 0 0, .bool false, .slice none 0 0, .bool false, .slice none 0 0]
theorem mU {P : Program} {l : List Oper} {Q : Exit → Act → World → Prop} {md : Region.Mode} {S : World → Prop} {oi : Oper} {fuel : Nat} {listed : Array Bool} {a : Act} {w : World} {w' : World} {v : Value} (i : Nat) (listed' : Array Bool) (hS : S w') (h : wpAnyH P md l.toArray Q S fuel listed' (a.put oi.dst v) w') (hi : l[i]? = some oi := by rfl) (hr : Region.ready md l.toArray listed = [i] := by kernel_rfl) (hw : Region.wanted oi (yielded l.toArray a.tmps) = true := by rfl) (hv : (execOp a.eval oi).run P w = .ok (.value v) w' := by go_simp) (hl : listed.setIfInBounds i true = listed' := by kernel_rfl) : wpAnyH P md l.toArray Q S (fuel + 1) listed a w := md_one hi hr hw hv hS hl h
theorem mB {P : Program} {l : List Oper} {Q : Exit → Act → World → Prop} {md : Region.Mode} {S : World → Prop} {oi : Oper} {fuel : Nat} {listed : Array Bool} {a : Act} {w : World} {f : FuncId} {args : Array Value} {Φ : Ending → World → Prop} {oj : Oper} {u : Value} {wj : World} (i j : Nat) (listed' lj : Array Bool) (hc : Calls P f args w Φ) (hSj : S wj) (h : ∀ e w', Φ e w' → ∃ v, e = .returned v ∧ S w' ∧ wpAnyH P md l.toArray Q S fuel listed' (a.put oi.dst v) w') (h2 : wpAnyH P md l.toArray Q S fuel lj (a.put oj.dst u) wj) (hi : l[i]? = some oi := by rfl) (hj : l[j]? = some oj := by rfl) (hr : Region.ready md l.toArray listed = [i, j] := by kernel_rfl) (hw : Region.wanted oi (yielded l.toArray a.tmps) = true := by rfl) (hv : (execOp a.eval oi).run P w = .ok (.enter f args) w := by go_simp) (hl : listed.setIfInBounds i true = listed' := by kernel_rfl) (hwj : Region.wanted oj (yielded l.toArray a.tmps) = true := by rfl) (hvj : (execOp a.eval oj).run P w = .ok (.value u) wj := by go_simp) (hlj : listed.setIfInBounds j true = lj := by kernel_rfl) : wpAnyH P md l.toArray Q S (fuel + 1) listed a w := md_call_or hi hj hr hw hv hc hl hwj hvj hSj hlj h h2
theorem mO {P : Program} {l : List Oper} {Q : Exit → Act → World → Prop} {md : Region.Mode} {S : World → Prop} {oi : Oper} {fuel : Nat} {listed : Array Bool} {a : Act} {w : World} (i : Nat) (listed' : Array Bool) {ty : TypeId} {x y : Operand} {g : Nat} {t : TypeId} {cs0 : Array Value} (cs : Array Value) (hb : Blk w g t cs0) (hl0 : cs.size = cs0.size) (hz : (P.info? ty).map (·.size) = some cs.size) (h1 : cs.all (·.oneCell') = true) (hS : S (w.setCells g 0 cs.toList)) (h : wpAnyH P md l.toArray Q S fuel listed' (a.put oi.dst undef) (w.setCells g 0 cs.toList)) (hi : l[i]? = some oi := by rfl) (hr : Region.ready md l.toArray listed = [i] := by kernel_rfl) (hg : oi.guard = none := by rfl) (ho : oi.op = .store ty x y := by rfl) (hx : a.eval x = .pointer (some ⟨g, 0, none⟩) := by rfl) (hy : a.eval y = .agg cs := by rfl) (hl : listed.setIfInBounds i true = listed' := by kernel_rfl) : wpAnyH P md l.toArray Q S (fuel + 1) listed a w := md_store hi hr hg ty x y ho g t cs0 cs hx hy hb hl0 hz h1 hS hl h
theorem pL {P : Program} {ops : Array Oper} {rest : List Oper} {op : Oper} {a : Act} {w : World} {Q : Exit → Act → World → Prop} {ty : TypeId} {x : Operand} {g : Nat} {t : TypeId} {cs : Array Value} {d : TypeDesc} (hb : Blk w g t cs) (hu : P.underlying ty = some d) (hi : (P.info? ty).map (·.size) = some cs.size) (h : wpList P ops Q rest (a.put op.dst (.agg cs)) w) (hw : Region.wanted op (yielded ops a.tmps) = true := by rfl) (ho : op.op = .load ty x := by rfl) (hx : a.eval x = .pointer (some ⟨g, 0, none⟩) := by rfl) (hd : d.isRow = true := by rfl) : wpList P ops Q (op :: rest) a w := mv_load hw ty x ho g t cs d hx hb hu hd hi h
theorem pP {P : Program} {ops : Array Oper} {rest : List Oper} {op : Oper} {a : Act} {w : World} {Q : Exit → Act → World → Prop} {ty : TypeId} {x : Operand} {g : Nat} (o n : Nat) {t : TypeId} {cs : Array Value} {d : TypeDesc} (hb : Blk w g t cs) (hu : P.underlying ty = some d) (hn : o + n ≤ cs.size) (h : wpList P ops Q rest (a.put op.dst (.agg (cs.extract o (o + n)))) w) (hw : Region.wanted op (yielded ops a.tmps) = true := by rfl) (ho : op.op = .load ty x := by rfl) (hx : a.eval x = .pointer (some ⟨g, o, none⟩) := by rfl) (hd : d.isRow = true := by rfl) (hi : (P.info? ty).map (·.size) = some n := by kernel_rfl) : wpList P ops Q (op :: rest) a w := mv_part hw ty x ho g o n t cs d hx hb hu hd hi hn h
theorem pO {P : Program} {ops : Array Oper} {rest : List Oper} {op : Oper} {a : Act} {w : World} {Q : Exit → Act → World → Prop} {ty : TypeId} {x y : Operand} {g : Nat} {t : TypeId} {cs0 : Array Value} (cs : Array Value) (hb : Blk w g t cs0) (hl : cs.size = cs0.size) (hi : (P.info? ty).map (·.size) = some cs.size) (h1 : cs.all (·.oneCell') = true) (h : wpList P ops Q rest (a.put op.dst undef) (w.setCells g 0 cs.toList)) (hw : Region.wanted op (yielded ops a.tmps) = true := by rfl) (ho : op.op = .store ty x y := by rfl) (hx : a.eval x = .pointer (some ⟨g, 0, none⟩) := by rfl) (hy : a.eval y = .agg cs := by rfl) : wpList P ops Q (op :: rest) a w := mv_store hw ty x y ho g t cs0 cs hx hy hb hl hi h1 h
theorem tr {a b c : World} (h : Hid (Ext a b)) (k : Hid (Ext b c)) : Hid (Ext a c) := zH (h.out.trans k.out)
end Go.Proofs.YtllpkoinjompcaaGreat
