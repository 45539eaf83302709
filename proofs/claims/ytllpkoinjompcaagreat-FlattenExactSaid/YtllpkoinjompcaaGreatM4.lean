/- In order: Exact curves of the program: SplitQuad. · Exact curves of the program: SplitCubic. · The reference's SameInt and Same: two normalized numbers of one value are equal in all fields. · The law's helpers short, shortCurve, exactQuad; the reference's SamePoint. -/
import Derived.Test.YtllpkoinjompcaaGreatM3
namespace Go.Proofs.YtllpkoinjompcaaGreat
open Go.RowKit
attribute [local go_sem ↓] Go.wp_at_zero Go.wp_at_succ run_max_ii run_min_ii

/-- Every block of w but g and h stands in w' as it stood; w' may have more. -/
def Own2 (g h : Nat) (w w' : World) : Prop := ∃ x, Own g w x ∧ Own h x w'
theorem Own2.refl (g h : Nat) (w : World) : Own2 g h w w := ⟨w, Own.refl _ _, Own.refl _ _⟩
theorem Own2.drew {g h : Nat} {a w : World} (k : Own2 g h a w) : Own2 g h a w.drew := by obtain ⟨x, h1, h2⟩ := k; exact ⟨x, h1, h2.drew⟩
theorem Own2.of_ext {g h : Nat} {a b : World} (k : Ext a b) : Own2 g h a b := ⟨b, Own.of_ext k, Own.refl _ _⟩
theorem Own2.one {g h : Nat} {a b : World} (k : Own g a b) : Own2 g h a b := ⟨b, k, Own.refl _ _⟩
theorem Own2.setR {g h : Nat} {a w : World} (k : Own2 g h a w) (o : Nat) (s : Option Nat) (u : Value) : Own2 g h a (w.setCell ⟨h, o, s⟩ u) := by obtain ⟨x, h1, h2⟩ := k; exact ⟨x, h1, h2.set_at o s u⟩
theorem Blk.own2 {g h : Nat} {w w' : World} {b : Nat} {t : TypeId} {cs : Array Value} (k : Blk w b t cs) (o : Own2 g h w w') (n1 : b ≠ g) (n2 : b ≠ h) : Blk w' b t cs := by
  obtain ⟨x, h1, h2⟩ := o
  exact (Blk.own k h1 n1).own h2 n2
theorem noU24 : NoU #[.bool false, .slice none 0 0, .bool false, .slice none 0 0, .bool false, .slice none 0 0, .bool false, .slice none 0 0, .bool false, .slice none 0 0, .bool false, .slice none 0 0, .bool false, .slice none 0 0, .bool false, .slice none 0 0, .bool false, .slice none 0 0, .bool false, .slice none 0 0, .bool false, .slice none 0 0, .bool false, .slice none 0 0] := noU_of _ (by simp)
/-- Two quadratic curves, normalized. -/
def RetSQ (x1 y1 x2 y2 x3 y3 u1 v1 u2 v2 u3 v3 : Rat) (w : World) (e : Ending) (w' : World) : Prop :=
  ∃ a b c d f g h i j k l m : RV, e = .returned (.tuple #[.agg #[.bool a.n, .slice a.p a.l a.c, .bool a.m, .slice a.p2 a.l2 a.c2, .bool b.n, .slice b.p b.l b.c, .bool b.m, .slice b.p2 b.l2 b.c2, .bool c.n, .slice c.p c.l c.c, .bool c.m, .slice c.p2 c.l2 c.c2, .bool d.n, .slice d.p d.l d.c, .bool d.m, .slice d.p2 d.l2 d.c2, .bool f.n, .slice f.p f.l f.c, .bool f.m, .slice f.p2 f.l2 f.c2, .bool g.n, .slice g.p g.l g.c, .bool g.m, .slice g.p2 g.l2 g.c2], .agg #[.bool h.n, .slice h.p h.l h.c, .bool h.m, .slice h.p2 h.l2 h.c2, .bool i.n, .slice i.p i.l i.c, .bool i.m, .slice i.p2 i.l2 i.c2, .bool j.n, .slice j.p j.l j.c, .bool j.m, .slice j.p2 j.l2 j.c2, .bool k.n, .slice k.p k.l k.c, .bool k.m, .slice k.p2 k.l2 k.c2, .bool l.n, .slice l.p l.l l.c, .bool l.m, .slice l.p2 l.l2 l.c2, .bool m.n, .slice m.p m.l m.c, .bool m.m, .slice m.p2 m.l2 m.c2]]) ∧
    (a.Is w' x1 ∧ b.Is w' y1 ∧ c.Is w' x2 ∧ d.Is w' y2 ∧ f.Is w' x3 ∧ g.Is w' y3) ∧ (h.Is w' u1 ∧ i.Is w' v1 ∧ j.Is w' u2 ∧ k.Is w' v2 ∧ l.Is w' u3 ∧ m.Is w' v3) ∧ Ext w w'

set_option maxRecDepth 20000 in
set_option maxHeartbeats 8000000 in
theorem splitQuad_any (a0 a1 b0 b1 c0 c1 t : RV) (L : Nat) (A0 A1 B0 B1 C0 C1 S : Rat) (w : World) (hA0 : a0.In L w A0) (hA1 : a1.In L w A1) (hB0 : b0.In L w B0) (hB1 : b1.In L w B1) (hC0 : c0.In L w C0) (hC1 : c1.In L w C1) (hS : t.In L w S) (h1 : 1 ≤ L) (hL : L ≤ 800) :
      Calls Tryz.prog 9 #[.agg #[.bool a0.n, .slice a0.p a0.l a0.c, .bool a0.m, .slice a0.p2 a0.l2 a0.c2, .bool a1.n, .slice a1.p a1.l a1.c, .bool a1.m, .slice a1.p2 a1.l2 a1.c2, .bool b0.n, .slice b0.p b0.l b0.c, .bool b0.m, .slice b0.p2 b0.l2 b0.c2, .bool b1.n, .slice b1.p b1.l b1.c, .bool b1.m, .slice b1.p2 b1.l2 b1.c2, .bool c0.n, .slice c0.p c0.l c0.c, .bool c0.m, .slice c0.p2 c0.l2 c0.c2, .bool c1.n, .slice c1.p c1.l c1.c, .bool c1.m, .slice c1.p2 c1.l2 c1.c2], .agg #[.bool t.n, .slice t.p t.l t.c, .bool t.m, .slice t.p2 t.l2 t.c2]] w (RetSQ A0 A1 (lerpV A0 B0 S) (lerpV A1 B1 S) (lerpV (lerpV A0 B0 S) (lerpV B0 C0 S) S) (lerpV (lerpV A1 B1 S) (lerpV B1 C1 S) S) (lerpV (lerpV A0 B0 S) (lerpV B0 C0 S) S) (lerpV (lerpV A1 B1 S) (lerpV B1 C1 S) S) (lerpV B0 C0 S) (lerpV B1 C1 S) C0 C1 w) := by
  have q00 := rl_lerpV (a := A0) (b := B0) (t := S) (L := L) (by have := hA0.rl; omega) (by have := hB0.rl; omega) (by have := hS.rl; omega)
  have q01 := rl_lerpV (a := A1) (b := B1) (t := S) (L := L) (by have := hA1.rl; omega) (by have := hB1.rl; omega) (by have := hS.rl; omega)
  have q10 := rl_lerpV (a := B0) (b := C0) (t := S) (L := L) (by have := hB0.rl; omega) (by have := hC0.rl; omega) (by have := hS.rl; omega)
  have q11 := rl_lerpV (a := B1) (b := C1) (t := S) (L := L) (by have := hB1.rl; omega) (by have := hC1.rl; omega) (by have := hS.rl; omega)
  have r00 := rl_lerpV (a := (lerpV A0 B0 S)) (b := (lerpV B0 C0 S)) (t := S) (L := 4 * L + 2) q00 q10 (by have := hS.rl; omega)
  have r01 := rl_lerpV (a := (lerpV A1 B1 S)) (b := (lerpV B1 C1 S)) (t := S) (L := 4 * L + 2) q01 q11 (by have := hS.rl; omega)
  have H1 := Lib.hid (fun W (x : Ext w W) => mix_any a0 a1 b0 b1 t L A0 A1 B0 B1 S W (hA0.ext x) (hA1.ext x) (hB0.ext x) (hB1.ext x) (hS.ext x) h1 (by omega))
  have H2 := Lib.hid (fun W (x : Ext w W) => mix_any b0 b1 c0 c1 t L B0 B1 C0 C1 S W (hB0.ext x) (hB1.ext x) (hC0.ext x) (hC1.ext x) (hS.ext x) h1 (by omega))
  have H3 := Lib.hid (fun W (x : Ext w W) (e0 e1 f0 f1 : RV) (k0 : e0.Is W (lerpV A0 B0 S)) (k1 : e1.Is W (lerpV A1 B1 S)) (k2 : f0.Is W (lerpV B0 C0 S)) (k3 : f1.Is W (lerpV B1 C1 S)) => mix_any e0 e1 f0 f1 t (4 * L + 2) _ _ _ _ S W (k0.isIn q00) (k1.isIn q01) (k2.isIn q10) (k3.isIn q11) ((hS.ext x).mono (by omega)) (by omega) (by omega))
  have HR1 := Lib.hid (fun W (x : Ext w W) => reduced_any a0 a1 L A0 A1 W (hA0.ext x) (hA1.ext x) (by omega))
  have HR2 := Lib.hid (fun W (g0 g1 : RV) (k0 : g0.Is W (lerpV (lerpV A0 B0 S) (lerpV B0 C0 S) S)) (k1 : g1.Is W (lerpV (lerpV A1 B1 S) (lerpV B1 C1 S) S)) => reduced_any g0 g1 (4 * (4 * L + 2) + 2) _ _ W (k0.isIn r00) (k1.isIn r01) (by omega))
  have HR3 := Lib.hid (fun W (x : Ext w W) => reduced_any c0 c1 L C0 C1 W (hC0.ext x) (hC1.ext x) (by omega))
  clear hA0 hA1 hB0 hB1 hC0 hC1 hS q00 q01 q10 q11 r00 r01
  go_enter Tryz.func9, Tryz.ntmps9
  go_wp2_with fail
  have bx0 : Blk ((((w.alloc (.cells #[.bool a0.n, .slice a0.p a0.l a0.c, .bool a0.m, .slice a0.p2 a0.l2 a0.c2, .bool a1.n, .slice a1.p a1.l a1.c, .bool a1.m, .slice a1.p2 a1.l2 a1.c2, .bool b0.n, .slice b0.p b0.l b0.c, .bool b0.m, .slice b0.p2 b0.l2 b0.c2, .bool b1.n, .slice b1.p b1.l b1.c, .bool b1.m, .slice b1.p2 b1.l2 b1.c2, .bool c0.n, .slice c0.p c0.l c0.c, .bool c0.m, .slice c0.p2 c0.l2 c0.c2, .bool c1.n, .slice c1.p c1.l c1.c, .bool c1.m, .slice c1.p2 c1.l2 c1.c2] 32)).alloc (.cells #[.bool t.n, .slice t.p t.l t.c, .bool t.m, .slice t.p2 t.l2 t.c2] 26)).alloc (.cells #[.bool RV.zero.n, .slice RV.zero.p RV.zero.l RV.zero.c, .bool RV.zero.m, .slice RV.zero.p2 RV.zero.l2 RV.zero.c2, .bool RV.zero.n, .slice RV.zero.p RV.zero.l RV.zero.c, .bool RV.zero.m, .slice RV.zero.p2 RV.zero.l2 RV.zero.c2, .bool RV.zero.n, .slice RV.zero.p RV.zero.l RV.zero.c, .bool RV.zero.m, .slice RV.zero.p2 RV.zero.l2 RV.zero.c2, .bool RV.zero.n, .slice RV.zero.p RV.zero.l RV.zero.c, .bool RV.zero.m, .slice RV.zero.p2 RV.zero.l2 RV.zero.c2, .bool RV.zero.n, .slice RV.zero.p RV.zero.l RV.zero.c, .bool RV.zero.m, .slice RV.zero.p2 RV.zero.l2 RV.zero.c2, .bool RV.zero.n, .slice RV.zero.p RV.zero.l RV.zero.c, .bool RV.zero.m, .slice RV.zero.p2 RV.zero.l2 RV.zero.c2] 32)).alloc (.cells #[.bool RV.zero.n, .slice RV.zero.p RV.zero.l RV.zero.c, .bool RV.zero.m, .slice RV.zero.p2 RV.zero.l2 RV.zero.c2, .bool RV.zero.n, .slice RV.zero.p RV.zero.l RV.zero.c, .bool RV.zero.m, .slice RV.zero.p2 RV.zero.l2 RV.zero.c2, .bool RV.zero.n, .slice RV.zero.p RV.zero.l RV.zero.c, .bool RV.zero.m, .slice RV.zero.p2 RV.zero.l2 RV.zero.c2, .bool RV.zero.n, .slice RV.zero.p RV.zero.l RV.zero.c, .bool RV.zero.m, .slice RV.zero.p2 RV.zero.l2 RV.zero.c2, .bool RV.zero.n, .slice RV.zero.p RV.zero.l RV.zero.c, .bool RV.zero.m, .slice RV.zero.p2 RV.zero.l2 RV.zero.c2, .bool RV.zero.n, .slice RV.zero.p RV.zero.l RV.zero.c, .bool RV.zero.m, .slice RV.zero.p2 RV.zero.l2 RV.zero.c2] 32)) (w.heap.size) 32 #[.bool a0.n, .slice a0.p a0.l a0.c, .bool a0.m, .slice a0.p2 a0.l2 a0.c2, .bool a1.n, .slice a1.p a1.l a1.c, .bool a1.m, .slice a1.p2 a1.l2 a1.c2, .bool b0.n, .slice b0.p b0.l b0.c, .bool b0.m, .slice b0.p2 b0.l2 b0.c2, .bool b1.n, .slice b1.p b1.l b1.c, .bool b1.m, .slice b1.p2 b1.l2 b1.c2, .bool c0.n, .slice c0.p c0.l c0.c, .bool c0.m, .slice c0.p2 c0.l2 c0.c2, .bool c1.n, .slice c1.p c1.l c1.c, .bool c1.m, .slice c1.p2 c1.l2 c1.c2] := Blk.ext (Blk.new_at w _ (by simp) _ _) ((((Ext.refl _).alloc _).alloc _).alloc _)
  have bx1 : Blk ((((w.alloc (.cells #[.bool a0.n, .slice a0.p a0.l a0.c, .bool a0.m, .slice a0.p2 a0.l2 a0.c2, .bool a1.n, .slice a1.p a1.l a1.c, .bool a1.m, .slice a1.p2 a1.l2 a1.c2, .bool b0.n, .slice b0.p b0.l b0.c, .bool b0.m, .slice b0.p2 b0.l2 b0.c2, .bool b1.n, .slice b1.p b1.l b1.c, .bool b1.m, .slice b1.p2 b1.l2 b1.c2, .bool c0.n, .slice c0.p c0.l c0.c, .bool c0.m, .slice c0.p2 c0.l2 c0.c2, .bool c1.n, .slice c1.p c1.l c1.c, .bool c1.m, .slice c1.p2 c1.l2 c1.c2] 32)).alloc (.cells #[.bool t.n, .slice t.p t.l t.c, .bool t.m, .slice t.p2 t.l2 t.c2] 26)).alloc (.cells #[.bool RV.zero.n, .slice RV.zero.p RV.zero.l RV.zero.c, .bool RV.zero.m, .slice RV.zero.p2 RV.zero.l2 RV.zero.c2, .bool RV.zero.n, .slice RV.zero.p RV.zero.l RV.zero.c, .bool RV.zero.m, .slice RV.zero.p2 RV.zero.l2 RV.zero.c2, .bool RV.zero.n, .slice RV.zero.p RV.zero.l RV.zero.c, .bool RV.zero.m, .slice RV.zero.p2 RV.zero.l2 RV.zero.c2, .bool RV.zero.n, .slice RV.zero.p RV.zero.l RV.zero.c, .bool RV.zero.m, .slice RV.zero.p2 RV.zero.l2 RV.zero.c2, .bool RV.zero.n, .slice RV.zero.p RV.zero.l RV.zero.c, .bool RV.zero.m, .slice RV.zero.p2 RV.zero.l2 RV.zero.c2, .bool RV.zero.n, .slice RV.zero.p RV.zero.l RV.zero.c, .bool RV.zero.m, .slice RV.zero.p2 RV.zero.l2 RV.zero.c2] 32)).alloc (.cells #[.bool RV.zero.n, .slice RV.zero.p RV.zero.l RV.zero.c, .bool RV.zero.m, .slice RV.zero.p2 RV.zero.l2 RV.zero.c2, .bool RV.zero.n, .slice RV.zero.p RV.zero.l RV.zero.c, .bool RV.zero.m, .slice RV.zero.p2 RV.zero.l2 RV.zero.c2, .bool RV.zero.n, .slice RV.zero.p RV.zero.l RV.zero.c, .bool RV.zero.m, .slice RV.zero.p2 RV.zero.l2 RV.zero.c2, .bool RV.zero.n, .slice RV.zero.p RV.zero.l RV.zero.c, .bool RV.zero.m, .slice RV.zero.p2 RV.zero.l2 RV.zero.c2, .bool RV.zero.n, .slice RV.zero.p RV.zero.l RV.zero.c, .bool RV.zero.m, .slice RV.zero.p2 RV.zero.l2 RV.zero.c2, .bool RV.zero.n, .slice RV.zero.p RV.zero.l RV.zero.c, .bool RV.zero.m, .slice RV.zero.p2 RV.zero.l2 RV.zero.c2] 32)) (w.heap.size + 1) 26 #[.bool t.n, .slice t.p t.l t.c, .bool t.m, .slice t.p2 t.l2 t.c2] := Blk.ext (Blk.new_at (w.alloc (.cells #[.bool a0.n, .slice a0.p a0.l a0.c, .bool a0.m, .slice a0.p2 a0.l2 a0.c2, .bool a1.n, .slice a1.p a1.l a1.c, .bool a1.m, .slice a1.p2 a1.l2 a1.c2, .bool b0.n, .slice b0.p b0.l b0.c, .bool b0.m, .slice b0.p2 b0.l2 b0.c2, .bool b1.n, .slice b1.p b1.l b1.c, .bool b1.m, .slice b1.p2 b1.l2 b1.c2, .bool c0.n, .slice c0.p c0.l c0.c, .bool c0.m, .slice c0.p2 c0.l2 c0.c2, .bool c1.n, .slice c1.p c1.l c1.c, .bool c1.m, .slice c1.p2 c1.l2 c1.c2] 32)) _ (by simp) _ _) (((Ext.refl _).alloc _).alloc _)
  have bx2 : Blk ((((w.alloc (.cells #[.bool a0.n, .slice a0.p a0.l a0.c, .bool a0.m, .slice a0.p2 a0.l2 a0.c2, .bool a1.n, .slice a1.p a1.l a1.c, .bool a1.m, .slice a1.p2 a1.l2 a1.c2, .bool b0.n, .slice b0.p b0.l b0.c, .bool b0.m, .slice b0.p2 b0.l2 b0.c2, .bool b1.n, .slice b1.p b1.l b1.c, .bool b1.m, .slice b1.p2 b1.l2 b1.c2, .bool c0.n, .slice c0.p c0.l c0.c, .bool c0.m, .slice c0.p2 c0.l2 c0.c2, .bool c1.n, .slice c1.p c1.l c1.c, .bool c1.m, .slice c1.p2 c1.l2 c1.c2] 32)).alloc (.cells #[.bool t.n, .slice t.p t.l t.c, .bool t.m, .slice t.p2 t.l2 t.c2] 26)).alloc (.cells #[.bool RV.zero.n, .slice RV.zero.p RV.zero.l RV.zero.c, .bool RV.zero.m, .slice RV.zero.p2 RV.zero.l2 RV.zero.c2, .bool RV.zero.n, .slice RV.zero.p RV.zero.l RV.zero.c, .bool RV.zero.m, .slice RV.zero.p2 RV.zero.l2 RV.zero.c2, .bool RV.zero.n, .slice RV.zero.p RV.zero.l RV.zero.c, .bool RV.zero.m, .slice RV.zero.p2 RV.zero.l2 RV.zero.c2, .bool RV.zero.n, .slice RV.zero.p RV.zero.l RV.zero.c, .bool RV.zero.m, .slice RV.zero.p2 RV.zero.l2 RV.zero.c2, .bool RV.zero.n, .slice RV.zero.p RV.zero.l RV.zero.c, .bool RV.zero.m, .slice RV.zero.p2 RV.zero.l2 RV.zero.c2, .bool RV.zero.n, .slice RV.zero.p RV.zero.l RV.zero.c, .bool RV.zero.m, .slice RV.zero.p2 RV.zero.l2 RV.zero.c2] 32)).alloc (.cells #[.bool RV.zero.n, .slice RV.zero.p RV.zero.l RV.zero.c, .bool RV.zero.m, .slice RV.zero.p2 RV.zero.l2 RV.zero.c2, .bool RV.zero.n, .slice RV.zero.p RV.zero.l RV.zero.c, .bool RV.zero.m, .slice RV.zero.p2 RV.zero.l2 RV.zero.c2, .bool RV.zero.n, .slice RV.zero.p RV.zero.l RV.zero.c, .bool RV.zero.m, .slice RV.zero.p2 RV.zero.l2 RV.zero.c2, .bool RV.zero.n, .slice RV.zero.p RV.zero.l RV.zero.c, .bool RV.zero.m, .slice RV.zero.p2 RV.zero.l2 RV.zero.c2, .bool RV.zero.n, .slice RV.zero.p RV.zero.l RV.zero.c, .bool RV.zero.m, .slice RV.zero.p2 RV.zero.l2 RV.zero.c2, .bool RV.zero.n, .slice RV.zero.p RV.zero.l RV.zero.c, .bool RV.zero.m, .slice RV.zero.p2 RV.zero.l2 RV.zero.c2] 32)) (w.heap.size + 1 + 1) 32 #[.bool RV.zero.n, .slice RV.zero.p RV.zero.l RV.zero.c, .bool RV.zero.m, .slice RV.zero.p2 RV.zero.l2 RV.zero.c2, .bool RV.zero.n, .slice RV.zero.p RV.zero.l RV.zero.c, .bool RV.zero.m, .slice RV.zero.p2 RV.zero.l2 RV.zero.c2, .bool RV.zero.n, .slice RV.zero.p RV.zero.l RV.zero.c, .bool RV.zero.m, .slice RV.zero.p2 RV.zero.l2 RV.zero.c2, .bool RV.zero.n, .slice RV.zero.p RV.zero.l RV.zero.c, .bool RV.zero.m, .slice RV.zero.p2 RV.zero.l2 RV.zero.c2, .bool RV.zero.n, .slice RV.zero.p RV.zero.l RV.zero.c, .bool RV.zero.m, .slice RV.zero.p2 RV.zero.l2 RV.zero.c2, .bool RV.zero.n, .slice RV.zero.p RV.zero.l RV.zero.c, .bool RV.zero.m, .slice RV.zero.p2 RV.zero.l2 RV.zero.c2] := Blk.ext (Blk.new_at ((w.alloc (.cells #[.bool a0.n, .slice a0.p a0.l a0.c, .bool a0.m, .slice a0.p2 a0.l2 a0.c2, .bool a1.n, .slice a1.p a1.l a1.c, .bool a1.m, .slice a1.p2 a1.l2 a1.c2, .bool b0.n, .slice b0.p b0.l b0.c, .bool b0.m, .slice b0.p2 b0.l2 b0.c2, .bool b1.n, .slice b1.p b1.l b1.c, .bool b1.m, .slice b1.p2 b1.l2 b1.c2, .bool c0.n, .slice c0.p c0.l c0.c, .bool c0.m, .slice c0.p2 c0.l2 c0.c2, .bool c1.n, .slice c1.p c1.l c1.c, .bool c1.m, .slice c1.p2 c1.l2 c1.c2] 32)).alloc (.cells #[.bool t.n, .slice t.p t.l t.c, .bool t.m, .slice t.p2 t.l2 t.c2] 26)) _ (by simp) _ _) ((Ext.refl _).alloc _)
  have bx3 : Blk ((((w.alloc (.cells #[.bool a0.n, .slice a0.p a0.l a0.c, .bool a0.m, .slice a0.p2 a0.l2 a0.c2, .bool a1.n, .slice a1.p a1.l a1.c, .bool a1.m, .slice a1.p2 a1.l2 a1.c2, .bool b0.n, .slice b0.p b0.l b0.c, .bool b0.m, .slice b0.p2 b0.l2 b0.c2, .bool b1.n, .slice b1.p b1.l b1.c, .bool b1.m, .slice b1.p2 b1.l2 b1.c2, .bool c0.n, .slice c0.p c0.l c0.c, .bool c0.m, .slice c0.p2 c0.l2 c0.c2, .bool c1.n, .slice c1.p c1.l c1.c, .bool c1.m, .slice c1.p2 c1.l2 c1.c2] 32)).alloc (.cells #[.bool t.n, .slice t.p t.l t.c, .bool t.m, .slice t.p2 t.l2 t.c2] 26)).alloc (.cells #[.bool RV.zero.n, .slice RV.zero.p RV.zero.l RV.zero.c, .bool RV.zero.m, .slice RV.zero.p2 RV.zero.l2 RV.zero.c2, .bool RV.zero.n, .slice RV.zero.p RV.zero.l RV.zero.c, .bool RV.zero.m, .slice RV.zero.p2 RV.zero.l2 RV.zero.c2, .bool RV.zero.n, .slice RV.zero.p RV.zero.l RV.zero.c, .bool RV.zero.m, .slice RV.zero.p2 RV.zero.l2 RV.zero.c2, .bool RV.zero.n, .slice RV.zero.p RV.zero.l RV.zero.c, .bool RV.zero.m, .slice RV.zero.p2 RV.zero.l2 RV.zero.c2, .bool RV.zero.n, .slice RV.zero.p RV.zero.l RV.zero.c, .bool RV.zero.m, .slice RV.zero.p2 RV.zero.l2 RV.zero.c2, .bool RV.zero.n, .slice RV.zero.p RV.zero.l RV.zero.c, .bool RV.zero.m, .slice RV.zero.p2 RV.zero.l2 RV.zero.c2] 32)).alloc (.cells #[.bool RV.zero.n, .slice RV.zero.p RV.zero.l RV.zero.c, .bool RV.zero.m, .slice RV.zero.p2 RV.zero.l2 RV.zero.c2, .bool RV.zero.n, .slice RV.zero.p RV.zero.l RV.zero.c, .bool RV.zero.m, .slice RV.zero.p2 RV.zero.l2 RV.zero.c2, .bool RV.zero.n, .slice RV.zero.p RV.zero.l RV.zero.c, .bool RV.zero.m, .slice RV.zero.p2 RV.zero.l2 RV.zero.c2, .bool RV.zero.n, .slice RV.zero.p RV.zero.l RV.zero.c, .bool RV.zero.m, .slice RV.zero.p2 RV.zero.l2 RV.zero.c2, .bool RV.zero.n, .slice RV.zero.p RV.zero.l RV.zero.c, .bool RV.zero.m, .slice RV.zero.p2 RV.zero.l2 RV.zero.c2, .bool RV.zero.n, .slice RV.zero.p RV.zero.l RV.zero.c, .bool RV.zero.m, .slice RV.zero.p2 RV.zero.l2 RV.zero.c2] 32)) (w.heap.size + 1 + 1 + 1) 32 #[.bool RV.zero.n, .slice RV.zero.p RV.zero.l RV.zero.c, .bool RV.zero.m, .slice RV.zero.p2 RV.zero.l2 RV.zero.c2, .bool RV.zero.n, .slice RV.zero.p RV.zero.l RV.zero.c, .bool RV.zero.m, .slice RV.zero.p2 RV.zero.l2 RV.zero.c2, .bool RV.zero.n, .slice RV.zero.p RV.zero.l RV.zero.c, .bool RV.zero.m, .slice RV.zero.p2 RV.zero.l2 RV.zero.c2, .bool RV.zero.n, .slice RV.zero.p RV.zero.l RV.zero.c, .bool RV.zero.m, .slice RV.zero.p2 RV.zero.l2 RV.zero.c2, .bool RV.zero.n, .slice RV.zero.p RV.zero.l RV.zero.c, .bool RV.zero.m, .slice RV.zero.p2 RV.zero.l2 RV.zero.c2, .bool RV.zero.n, .slice RV.zero.p RV.zero.l RV.zero.c, .bool RV.zero.m, .slice RV.zero.p2 RV.zero.l2 RV.zero.c2] := Blk.ext (Blk.new_at (((w.alloc (.cells #[.bool a0.n, .slice a0.p a0.l a0.c, .bool a0.m, .slice a0.p2 a0.l2 a0.c2, .bool a1.n, .slice a1.p a1.l a1.c, .bool a1.m, .slice a1.p2 a1.l2 a1.c2, .bool b0.n, .slice b0.p b0.l b0.c, .bool b0.m, .slice b0.p2 b0.l2 b0.c2, .bool b1.n, .slice b1.p b1.l b1.c, .bool b1.m, .slice b1.p2 b1.l2 b1.c2, .bool c0.n, .slice c0.p c0.l c0.c, .bool c0.m, .slice c0.p2 c0.l2 c0.c2, .bool c1.n, .slice c1.p c1.l c1.c, .bool c1.m, .slice c1.p2 c1.l2 c1.c2] 32)).alloc (.cells #[.bool t.n, .slice t.p t.l t.c, .bool t.m, .slice t.p2 t.l2 t.c2] 26)).alloc (.cells #[.bool RV.zero.n, .slice RV.zero.p RV.zero.l RV.zero.c, .bool RV.zero.m, .slice RV.zero.p2 RV.zero.l2 RV.zero.c2, .bool RV.zero.n, .slice RV.zero.p RV.zero.l RV.zero.c, .bool RV.zero.m, .slice RV.zero.p2 RV.zero.l2 RV.zero.c2, .bool RV.zero.n, .slice RV.zero.p RV.zero.l RV.zero.c, .bool RV.zero.m, .slice RV.zero.p2 RV.zero.l2 RV.zero.c2, .bool RV.zero.n, .slice RV.zero.p RV.zero.l RV.zero.c, .bool RV.zero.m, .slice RV.zero.p2 RV.zero.l2 RV.zero.c2, .bool RV.zero.n, .slice RV.zero.p RV.zero.l RV.zero.c, .bool RV.zero.m, .slice RV.zero.p2 RV.zero.l2 RV.zero.c2, .bool RV.zero.n, .slice RV.zero.p RV.zero.l RV.zero.c, .bool RV.zero.m, .slice RV.zero.p2 RV.zero.l2 RV.zero.c2] 32)) _ (by simp) _ _) (Ext.refl _)
  have hE : Ext w ((((w.alloc (.cells #[.bool a0.n, .slice a0.p a0.l a0.c, .bool a0.m, .slice a0.p2 a0.l2 a0.c2, .bool a1.n, .slice a1.p a1.l a1.c, .bool a1.m, .slice a1.p2 a1.l2 a1.c2, .bool b0.n, .slice b0.p b0.l b0.c, .bool b0.m, .slice b0.p2 b0.l2 b0.c2, .bool b1.n, .slice b1.p b1.l b1.c, .bool b1.m, .slice b1.p2 b1.l2 b1.c2, .bool c0.n, .slice c0.p c0.l c0.c, .bool c0.m, .slice c0.p2 c0.l2 c0.c2, .bool c1.n, .slice c1.p c1.l c1.c, .bool c1.m, .slice c1.p2 c1.l2 c1.c2] 32)).alloc (.cells #[.bool t.n, .slice t.p t.l t.c, .bool t.m, .slice t.p2 t.l2 t.c2] 26)).alloc (.cells #[.bool RV.zero.n, .slice RV.zero.p RV.zero.l RV.zero.c, .bool RV.zero.m, .slice RV.zero.p2 RV.zero.l2 RV.zero.c2, .bool RV.zero.n, .slice RV.zero.p RV.zero.l RV.zero.c, .bool RV.zero.m, .slice RV.zero.p2 RV.zero.l2 RV.zero.c2, .bool RV.zero.n, .slice RV.zero.p RV.zero.l RV.zero.c, .bool RV.zero.m, .slice RV.zero.p2 RV.zero.l2 RV.zero.c2, .bool RV.zero.n, .slice RV.zero.p RV.zero.l RV.zero.c, .bool RV.zero.m, .slice RV.zero.p2 RV.zero.l2 RV.zero.c2, .bool RV.zero.n, .slice RV.zero.p RV.zero.l RV.zero.c, .bool RV.zero.m, .slice RV.zero.p2 RV.zero.l2 RV.zero.c2, .bool RV.zero.n, .slice RV.zero.p RV.zero.l RV.zero.c, .bool RV.zero.m, .slice RV.zero.p2 RV.zero.l2 RV.zero.c2] 32)).alloc (.cells #[.bool RV.zero.n, .slice RV.zero.p RV.zero.l RV.zero.c, .bool RV.zero.m, .slice RV.zero.p2 RV.zero.l2 RV.zero.c2, .bool RV.zero.n, .slice RV.zero.p RV.zero.l RV.zero.c, .bool RV.zero.m, .slice RV.zero.p2 RV.zero.l2 RV.zero.c2, .bool RV.zero.n, .slice RV.zero.p RV.zero.l RV.zero.c, .bool RV.zero.m, .slice RV.zero.p2 RV.zero.l2 RV.zero.c2, .bool RV.zero.n, .slice RV.zero.p RV.zero.l RV.zero.c, .bool RV.zero.m, .slice RV.zero.p2 RV.zero.l2 RV.zero.c2, .bool RV.zero.n, .slice RV.zero.p RV.zero.l RV.zero.c, .bool RV.zero.m, .slice RV.zero.p2 RV.zero.l2 RV.zero.c2, .bool RV.zero.n, .slice RV.zero.p RV.zero.l RV.zero.c, .bool RV.zero.m, .slice RV.zero.p2 RV.zero.l2 RV.zero.c2] 32)) := (((((Ext.refl _).alloc _).alloc _).alloc _).alloc _)
  have hz : ((((w.alloc (.cells #[.bool a0.n, .slice a0.p a0.l a0.c, .bool a0.m, .slice a0.p2 a0.l2 a0.c2, .bool a1.n, .slice a1.p a1.l a1.c, .bool a1.m, .slice a1.p2 a1.l2 a1.c2, .bool b0.n, .slice b0.p b0.l b0.c, .bool b0.m, .slice b0.p2 b0.l2 b0.c2, .bool b1.n, .slice b1.p b1.l b1.c, .bool b1.m, .slice b1.p2 b1.l2 b1.c2, .bool c0.n, .slice c0.p c0.l c0.c, .bool c0.m, .slice c0.p2 c0.l2 c0.c2, .bool c1.n, .slice c1.p c1.l c1.c, .bool c1.m, .slice c1.p2 c1.l2 c1.c2] 32)).alloc (.cells #[.bool t.n, .slice t.p t.l t.c, .bool t.m, .slice t.p2 t.l2 t.c2] 26)).alloc (.cells #[.bool RV.zero.n, .slice RV.zero.p RV.zero.l RV.zero.c, .bool RV.zero.m, .slice RV.zero.p2 RV.zero.l2 RV.zero.c2, .bool RV.zero.n, .slice RV.zero.p RV.zero.l RV.zero.c, .bool RV.zero.m, .slice RV.zero.p2 RV.zero.l2 RV.zero.c2, .bool RV.zero.n, .slice RV.zero.p RV.zero.l RV.zero.c, .bool RV.zero.m, .slice RV.zero.p2 RV.zero.l2 RV.zero.c2, .bool RV.zero.n, .slice RV.zero.p RV.zero.l RV.zero.c, .bool RV.zero.m, .slice RV.zero.p2 RV.zero.l2 RV.zero.c2, .bool RV.zero.n, .slice RV.zero.p RV.zero.l RV.zero.c, .bool RV.zero.m, .slice RV.zero.p2 RV.zero.l2 RV.zero.c2, .bool RV.zero.n, .slice RV.zero.p RV.zero.l RV.zero.c, .bool RV.zero.m, .slice RV.zero.p2 RV.zero.l2 RV.zero.c2] 32)).alloc (.cells #[.bool RV.zero.n, .slice RV.zero.p RV.zero.l RV.zero.c, .bool RV.zero.m, .slice RV.zero.p2 RV.zero.l2 RV.zero.c2, .bool RV.zero.n, .slice RV.zero.p RV.zero.l RV.zero.c, .bool RV.zero.m, .slice RV.zero.p2 RV.zero.l2 RV.zero.c2, .bool RV.zero.n, .slice RV.zero.p RV.zero.l RV.zero.c, .bool RV.zero.m, .slice RV.zero.p2 RV.zero.l2 RV.zero.c2, .bool RV.zero.n, .slice RV.zero.p RV.zero.l RV.zero.c, .bool RV.zero.m, .slice RV.zero.p2 RV.zero.l2 RV.zero.c2, .bool RV.zero.n, .slice RV.zero.p RV.zero.l RV.zero.c, .bool RV.zero.m, .slice RV.zero.p2 RV.zero.l2 RV.zero.c2, .bool RV.zero.n, .slice RV.zero.p RV.zero.l RV.zero.c, .bool RV.zero.m, .slice RV.zero.p2 RV.zero.l2 RV.zero.c2] 32)).heap.size = w.heap.size + 1 + 1 + 1 + 1 := by simp
  obtain ⟨wa, hwa⟩ : ∃ wa, wa = ((((w.alloc (.cells #[.bool a0.n, .slice a0.p a0.l a0.c, .bool a0.m, .slice a0.p2 a0.l2 a0.c2, .bool a1.n, .slice a1.p a1.l a1.c, .bool a1.m, .slice a1.p2 a1.l2 a1.c2, .bool b0.n, .slice b0.p b0.l b0.c, .bool b0.m, .slice b0.p2 b0.l2 b0.c2, .bool b1.n, .slice b1.p b1.l b1.c, .bool b1.m, .slice b1.p2 b1.l2 b1.c2, .bool c0.n, .slice c0.p c0.l c0.c, .bool c0.m, .slice c0.p2 c0.l2 c0.c2, .bool c1.n, .slice c1.p c1.l c1.c, .bool c1.m, .slice c1.p2 c1.l2 c1.c2] 32)).alloc (.cells #[.bool t.n, .slice t.p t.l t.c, .bool t.m, .slice t.p2 t.l2 t.c2] 26)).alloc (.cells #[.bool RV.zero.n, .slice RV.zero.p RV.zero.l RV.zero.c, .bool RV.zero.m, .slice RV.zero.p2 RV.zero.l2 RV.zero.c2, .bool RV.zero.n, .slice RV.zero.p RV.zero.l RV.zero.c, .bool RV.zero.m, .slice RV.zero.p2 RV.zero.l2 RV.zero.c2, .bool RV.zero.n, .slice RV.zero.p RV.zero.l RV.zero.c, .bool RV.zero.m, .slice RV.zero.p2 RV.zero.l2 RV.zero.c2, .bool RV.zero.n, .slice RV.zero.p RV.zero.l RV.zero.c, .bool RV.zero.m, .slice RV.zero.p2 RV.zero.l2 RV.zero.c2, .bool RV.zero.n, .slice RV.zero.p RV.zero.l RV.zero.c, .bool RV.zero.m, .slice RV.zero.p2 RV.zero.l2 RV.zero.c2, .bool RV.zero.n, .slice RV.zero.p RV.zero.l RV.zero.c, .bool RV.zero.m, .slice RV.zero.p2 RV.zero.l2 RV.zero.c2] 32)).alloc (.cells #[.bool RV.zero.n, .slice RV.zero.p RV.zero.l RV.zero.c, .bool RV.zero.m, .slice RV.zero.p2 RV.zero.l2 RV.zero.c2, .bool RV.zero.n, .slice RV.zero.p RV.zero.l RV.zero.c, .bool RV.zero.m, .slice RV.zero.p2 RV.zero.l2 RV.zero.c2, .bool RV.zero.n, .slice RV.zero.p RV.zero.l RV.zero.c, .bool RV.zero.m, .slice RV.zero.p2 RV.zero.l2 RV.zero.c2, .bool RV.zero.n, .slice RV.zero.p RV.zero.l RV.zero.c, .bool RV.zero.m, .slice RV.zero.p2 RV.zero.l2 RV.zero.c2, .bool RV.zero.n, .slice RV.zero.p RV.zero.l RV.zero.c, .bool RV.zero.m, .slice RV.zero.p2 RV.zero.l2 RV.zero.c2, .bool RV.zero.n, .slice RV.zero.p RV.zero.l RV.zero.c, .bool RV.zero.m, .slice RV.zero.p2 RV.zero.l2 RV.zero.c2] 32)) := ⟨_, rfl⟩
  have hwa2 := hwa
  simp only [RV.zero] at hwa2
  rw [← hwa] at hE hz bx0 bx1 bx2 bx3
  rw [← hwa2]
  have HE := Lib.hid hE
  clear hwa hwa2 hE
  have HB := Lib.hid (And.intro bx0 (And.intro bx1 (And.intro bx2 bx3)))
  clear bx0 bx1 bx2 bx3
  have hlt : w.heap.size < w.heap.size + 1 + 1 ∧ w.heap.size + 1 < w.heap.size + 1 + 1 ∧ w.heap.size + 1 + 1 < w.heap.size + 1 + 1 + 1 ∧ w.heap.size + 1 + 1 + 1 < w.heap.size + 1 + 1 + 1 + 1 := by omega
  generalize hR2 : w.heap.size + 1 + 1 + 1 = R2 at *
  generalize hR : w.heap.size + 1 + 1 = R at *
  generalize hB : w.heap.size + 1 = BB at *
  generalize hA : w.heap.size = BA at *
  have HLT := Lib.hid hlt
  have HZ := Lib.hid hz
  have HAA := Lib.hid hA
  clear hR2 hR hB hA hlt hz
  have gl : ∀ x, Ext wa x → x.cell? ⟨BA, 0, none⟩ = some (.bool a0.n) ∧ x.cell? ⟨BA, 1, none⟩ = some (.slice a0.p a0.l a0.c) ∧ x.cell? ⟨BA, 2, none⟩ = some (.bool a0.m) ∧ x.cell? ⟨BA, 3, none⟩ = some (.slice a0.p2 a0.l2 a0.c2) ∧ x.cell? ⟨BA, 4, none⟩ = some (.bool a1.n) ∧ x.cell? ⟨BA, 5, none⟩ = some (.slice a1.p a1.l a1.c) ∧ x.cell? ⟨BA, 6, none⟩ = some (.bool a1.m) ∧ x.cell? ⟨BA, 7, none⟩ = some (.slice a1.p2 a1.l2 a1.c2) ∧ x.cell? ⟨BA, 8, none⟩ = some (.bool b0.n) ∧ x.cell? ⟨BA, 9, none⟩ = some (.slice b0.p b0.l b0.c) ∧ x.cell? ⟨BA, 10, none⟩ = some (.bool b0.m) ∧ x.cell? ⟨BA, 11, none⟩ = some (.slice b0.p2 b0.l2 b0.c2) ∧ x.cell? ⟨BA, 12, none⟩ = some (.bool b1.n) ∧ x.cell? ⟨BA, 13, none⟩ = some (.slice b1.p b1.l b1.c) ∧ x.cell? ⟨BA, 14, none⟩ = some (.bool b1.m) ∧ x.cell? ⟨BA, 15, none⟩ = some (.slice b1.p2 b1.l2 b1.c2) ∧ x.cell? ⟨BA, 16, none⟩ = some (.bool c0.n) ∧ x.cell? ⟨BA, 17, none⟩ = some (.slice c0.p c0.l c0.c) ∧ x.cell? ⟨BA, 18, none⟩ = some (.bool c0.m) ∧ x.cell? ⟨BA, 19, none⟩ = some (.slice c0.p2 c0.l2 c0.c2) ∧ x.cell? ⟨BA, 20, none⟩ = some (.bool c1.n) ∧ x.cell? ⟨BA, 21, none⟩ = some (.slice c1.p c1.l c1.c) ∧ x.cell? ⟨BA, 22, none⟩ = some (.bool c1.m) ∧ x.cell? ⟨BA, 23, none⟩ = some (.slice c1.p2 c1.l2 c1.c2) ∧ x.cell? ⟨BB, 0, none⟩ = some (.bool t.n) ∧ x.cell? ⟨BB, 1, none⟩ = some (.slice t.p t.l t.c) ∧ x.cell? ⟨BB, 2, none⟩ = some (.bool t.m) ∧ x.cell? ⟨BB, 3, none⟩ = some (.slice t.p2 t.l2 t.c2) := fun x h => by
    have k0 := HB.out.1.ext h
    have k1 := HB.out.2.1.ext h
    exact ⟨k0.cell 0, k0.cell 1, k0.cell 2, k0.cell 3, k0.cell 4, k0.cell 5, k0.cell 6, k0.cell 7, k0.cell 8, k0.cell 9, k0.cell 10, k0.cell 11, k0.cell 12, k0.cell 13, k0.cell 14, k0.cell 15, k0.cell 16, k0.cell 17, k0.cell 18, k0.cell 19, k0.cell 20, k0.cell 21, k0.cell 22, k0.cell 23, k1.cell 0, k1.cell 1, k1.cell 2, k1.cell 3⟩
  refine wp_region_held_drew (S := fun x => Ext wa x) (by kernel_rfl) (Ext.refl _).drew (fun hHt => ?_)
  refine wpAnyH_take_l (i := 0) (v := ?vt_0) rfl (by kernel_rfl) (by kernel_rfl) (by kernel_rfl) (fun _ _ _ h => h) (Or.inl ⟨by rfl, ?yt_0⟩) (by assumption) ?rt_0
  case yt_0 => (intro w hSw; (try dsimp only at hSw); go_simp <;> with_reducible rfl)
  (try simp only [Act.put, List.setIfInBounds_toArray, List.set_cons_zero, List.set_cons_succ])
  refine wpAnyH_take_l (i := 1) (v := ?vt_1) rfl (by kernel_rfl) (by kernel_rfl) (by kernel_rfl) (fun _ _ _ h => h) (Or.inl ⟨by rfl, ?yt_1⟩) (by assumption) ?rt_1
  case yt_1 => (intro w hSw; (try dsimp only at hSw); go_simp <;> with_reducible rfl)
  (try simp only [Act.put, List.setIfInBounds_toArray, List.set_cons_zero, List.set_cons_succ])
  refine wpAnyH_take_l (i := 2) (v := ?vt_2) rfl (by kernel_rfl) (by kernel_rfl) (by kernel_rfl) (fun _ _ _ h => h) (Or.inl ⟨by rfl, ?yt_2⟩) (by assumption) ?rt_2
  case yt_2 => (intro w hSw; (try dsimp only at hSw); go_simp <;> with_reducible rfl)
  (try simp only [Act.put, List.setIfInBounds_toArray, List.set_cons_zero, List.set_cons_succ])
  refine wpAnyH_take_l (i := 3) (v := ?vt_3) rfl (by kernel_rfl) (by kernel_rfl) (by kernel_rfl) (fun _ _ _ h => h) (Or.inl ⟨by rfl, ?yt_3⟩) (by assumption) ?rt_3
  case yt_3 => (intro w hSw; (try dsimp only at hSw); go_simp <;> with_reducible rfl)
  (try simp only [Act.put, List.setIfInBounds_toArray, List.set_cons_zero, List.set_cons_succ])
  refine wpAnyH_take_l (i := 4) (v := ?vt_4) rfl (by kernel_rfl) (by kernel_rfl) (by kernel_rfl) (fun _ _ _ h => h) (Or.inl ⟨by rfl, ?yt_4⟩) (by assumption) ?rt_4
  case yt_4 => (intro w hSw; (try dsimp only at hSw); go_simp <;> with_reducible rfl)
  (try simp only [Act.put, List.setIfInBounds_toArray, List.set_cons_zero, List.set_cons_succ])
  refine wpAnyH_take_l (i := 6) (v := ?vt_6) rfl (by kernel_rfl) (by kernel_rfl) (by kernel_rfl) (fun _ _ _ h => h) (Or.inl ⟨by rfl, ?yt_6⟩) (by assumption) ?rt_6
  case yt_6 => (intro w hSw; (try dsimp only at hSw); go_simp <;> with_reducible rfl)
  (try simp only [Act.put, List.setIfInBounds_toArray, List.set_cons_zero, List.set_cons_succ])
  refine wpAnyH_take_l (i := 7) (v := ?vt_7) rfl (by kernel_rfl) (by kernel_rfl) (by kernel_rfl) (fun _ _ _ h => h) (Or.inl ⟨by rfl, ?yt_7⟩) (by assumption) ?rt_7
  case yt_7 => (intro w hSw; (try dsimp only at hSw); go_simp <;> with_reducible rfl)
  (try simp only [Act.put, List.setIfInBounds_toArray, List.set_cons_zero, List.set_cons_succ])
  refine wpAnyH_take_l (i := 8) (v := ?vt_8) rfl (by kernel_rfl) (by kernel_rfl) (by kernel_rfl) (fun _ _ _ h => h) (Or.inl ⟨by rfl, ?yt_8⟩) (by assumption) ?rt_8
  case yt_8 => (intro w hSw; (try dsimp only at hSw); go_simp <;> with_reducible rfl)
  (try simp only [Act.put, List.setIfInBounds_toArray, List.set_cons_zero, List.set_cons_succ])
  refine wpAnyH_take_l (i := 9) (v := ?vt_9) rfl (by kernel_rfl) (by kernel_rfl) (by kernel_rfl) (fun _ _ _ h => h) (Or.inl ⟨by rfl, ?yt_9⟩) (by assumption) ?rt_9
  case yt_9 => (intro w hSw; (try dsimp only at hSw); go_simp <;> with_reducible rfl)
  (try simp only [Act.put, List.setIfInBounds_toArray, List.set_cons_zero, List.set_cons_succ])
  refine wpAnyH_take_l (i := 10) (v := ?vt_10) rfl (by kernel_rfl) (by kernel_rfl) (by kernel_rfl) (fun _ _ _ h => h) (Or.inl ⟨by rfl, ?yt_10⟩) (by assumption) ?rt_10
  case yt_10 => (intro w hSw; (try dsimp only at hSw); go_simp <;> with_reducible rfl)
  (try simp only [Act.put, List.setIfInBounds_toArray, List.set_cons_zero, List.set_cons_succ])
  refine tuple2 (f := 2) 5 11 12 13 14 20 6 7 27 #[.bool false, .slice none 0 0, .bool false, .slice none 0 0, .bool false, .slice none 0 0, .bool false, .slice none 0 0] (PtV (lerpV A0 B0 S) (lerpV A1 B1 S)) (PtV (lerpV B0 C0 S) (lerpV B1 C1 S)) rfl rfl rfl rfl (by decide) (by decide) (by kernel_rfl) (fun _ hx => hHt.trans hx) PtV.ext PtV.ext ?htc1 ?htc2 ?htc3 ?htc4 ?hte undef undef undef undef (by kernel_rfl) rfl
  case htc1 =>
    intro v1 v2 v3 v4 w1 K hx hSw hK
    (try simp only [Act.put, List.setIfInBounds_toArray, List.set_cons_zero, List.set_cons_succ])
    go_simp
    (go_at_call 30; ((with_reducible refine (H1.out _ (HE.out.trans hSw)).mono ?_)); intro e w' hp; obtain ⟨v, rfl, hv, he⟩ := RetP.v hp)
    have hk := hK.out _ _ hv he
    simp only [Act.put, List.setIfInBounds_toArray, List.set_cons_zero, List.set_cons_succ] at hk
    exact hk
  case htc2 =>
    intro v1 v2 v3 v4 w1 K hx hSw hK
    (try simp only [Act.put, List.setIfInBounds_toArray, List.set_cons_zero, List.set_cons_succ])
    go_simp
    (go_at_call 30; ((with_reducible refine (H2.out _ (HE.out.trans hSw)).mono ?_)); intro e w' hp; obtain ⟨v, rfl, hv, he⟩ := RetP.v hp)
    have hk := hK.out _ _ hv he
    simp only [Act.put, List.setIfInBounds_toArray, List.set_cons_zero, List.set_cons_succ] at hk
    exact hk
  case htc3 =>
    intro v1 v2 v3 v4 w1 K hx hSw hK
    (try simp only [Act.put, List.setIfInBounds_toArray, List.set_cons_zero, List.set_cons_succ])
    go_simp
    have hk := hK.out
    simp only [Act.put, List.setIfInBounds_toArray, List.set_cons_zero, List.set_cons_succ] at hk
    exact hk
  case htc4 =>
    intro v1 v2 v3 v4 w1 K hx hSw hK
    (try simp only [Act.put, List.setIfInBounds_toArray, List.set_cons_zero, List.set_cons_succ])
    go_simp
    have hk := hK.out
    simp only [Act.put, List.setIfInBounds_toArray, List.set_cons_zero, List.set_cons_succ] at hk
    exact hk
  case hte =>
    intro v1 v2 X1 X2 w1 hx hSw p1 p2 B1 B2 z1 z2 n12
    obtain ⟨e0, e1, rfl, s1, s2⟩ := p1
    obtain ⟨f0, f1, rfl, s3, s4⟩ := p2
    (try simp only [Act.put, List.setIfInBounds_toArray, List.set_cons_zero, List.set_cons_succ])
    have y1 : wa.heap.size ≤ X1 := z1
    have y2 : wa.heap.size ≤ X2 := z2
    have hE1 : Ext wa w1 := hSw
    have HST := Lib.hid (stored8_2 hE1 B1 y1 s1 s2 B2 y2 s3 s4 n12)
    have m12 := n12.symm
    clear gl hx hSw z1 z2 s1 s2 s3 s4 hHt
    have c1_0 := B1.cell 0
    have f1_0 := B1.frozen 0
    have c1_1 := B1.cell 1
    have f1_1 := B1.frozen 1
    have c1_2 := B1.cell 2
    have f1_2 := B1.frozen 2
    have c1_3 := B1.cell 3
    have f1_3 := B1.frozen 3
    have c1_4 := B1.cell 4
    have f1_4 := B1.frozen 4
    have c1_5 := B1.cell 5
    have f1_5 := B1.frozen 5
    have c1_6 := B1.cell 6
    have f1_6 := B1.frozen 6
    have c1_7 := B1.cell 7
    have f1_7 := B1.frozen 7
    have c2_0 := B2.cell 0
    have f2_0 := B2.frozen 0
    have c2_1 := B2.cell 1
    have f2_1 := B2.frozen 1
    have c2_2 := B2.cell 2
    have f2_2 := B2.frozen 2
    have c2_3 := B2.cell 3
    have f2_3 := B2.frozen 3
    have c2_4 := B2.cell 4
    have f2_4 := B2.frozen 4
    have c2_5 := B2.cell 5
    have f2_5 := B2.frozen 5
    have c2_6 := B2.cell 6
    have f2_6 := B2.frozen 6
    have c2_7 := B2.cell 7
    have f2_7 := B2.frozen 7
    simp at c1_0 c1_1 c1_2 c1_3 c1_4 c1_5 c1_6 c1_7 c2_0 c2_1 c2_2 c2_3 c2_4 c2_5 c2_6 c2_7
    refine wpAnyH_one_l (i := 14) rfl (by kernel_rfl) (fun K hK => ?_)
    go_simp
    refine hK.out _ _ ?_ (fun hHs => ?_)
    · ((try dsimp only); (repeat (first | (with_reducible assumption) | ((with_reducible refine Ext.setCell ?_ ?_ _); rotate_left; focus (first | exact y1 | exact y2)))); done)
    clear hK K hHs
    (try simp only [Act.put, List.setIfInBounds_toArray, List.set_cons_zero, List.set_cons_succ])
    refine wpAnyH_one_l (i := 15) rfl (by kernel_rfl) (fun K hK => ?_)
    go_simp
    refine hK.out _ _ ?_ (fun hHs => ?_)
    · ((try dsimp only); (repeat (first | (with_reducible assumption) | ((with_reducible refine Ext.setCell ?_ ?_ _); rotate_left; focus (first | exact y1 | exact y2)))); done)
    clear hK K hHs
    (try simp only [Act.put, List.setIfInBounds_toArray, List.set_cons_zero, List.set_cons_succ])
    refine wpAnyH_done (by kernel_rfl) ?_ _
    clear c1_0 f1_0 c1_1 f1_1 c1_2 f1_2 c1_3 f1_3 c1_4 f1_4 c1_5 f1_5 c1_6 f1_6 c1_7 f1_7 c2_0 f2_0 c2_1 f2_1 c2_2 f2_2 c2_3 f2_3 c2_4 f2_4 c2_5 f2_5 c2_6 f2_6 c2_7 f2_7 B1 B2
    have hst := HST.out
    obtain ⟨wc, hwc⟩ : ∃ wc, wc = put8 (put8 w1 X1 e0 e1) X2 f0 f1 := ⟨_, rfl⟩
    rw [← hwc] at hst
    simp only [put8] at hwc
    rw [← hwc]
    have HSC := Lib.hid hst
    clear hst hwc hE1 HST n12 m12
    have HY := Lib.hid (And.intro y1 y2)
    clear y1 y2
    have gl : wc.cell? ⟨X1, 0, none⟩ = some (.bool e0.n) ∧ wc.cell? ⟨X1, 1, none⟩ = some (.slice e0.p e0.l e0.c) ∧ wc.cell? ⟨X1, 2, none⟩ = some (.bool e0.m) ∧ wc.cell? ⟨X1, 3, none⟩ = some (.slice e0.p2 e0.l2 e0.c2) ∧ wc.cell? ⟨X1, 4, none⟩ = some (.bool e1.n) ∧ wc.cell? ⟨X1, 5, none⟩ = some (.slice e1.p e1.l e1.c) ∧ wc.cell? ⟨X1, 6, none⟩ = some (.bool e1.m) ∧ wc.cell? ⟨X1, 7, none⟩ = some (.slice e1.p2 e1.l2 e1.c2) ∧ wc.cell? ⟨X2, 0, none⟩ = some (.bool f0.n) ∧ wc.cell? ⟨X2, 1, none⟩ = some (.slice f0.p f0.l f0.c) ∧ wc.cell? ⟨X2, 2, none⟩ = some (.bool f0.m) ∧ wc.cell? ⟨X2, 3, none⟩ = some (.slice f0.p2 f0.l2 f0.c2) ∧ wc.cell? ⟨X2, 4, none⟩ = some (.bool f1.n) ∧ wc.cell? ⟨X2, 5, none⟩ = some (.slice f1.p f1.l f1.c) ∧ wc.cell? ⟨X2, 6, none⟩ = some (.bool f1.m) ∧ wc.cell? ⟨X2, 7, none⟩ = some (.slice f1.p2 f1.l2 f1.c2) ∧ wc.cell? ⟨BB, 0, none⟩ = some (.bool t.n) ∧ wc.cell? ⟨BB, 1, none⟩ = some (.slice t.p t.l t.c) ∧ wc.cell? ⟨BB, 2, none⟩ = some (.bool t.m) ∧ wc.cell? ⟨BB, 3, none⟩ = some (.slice t.p2 t.l2 t.c2) := by
      have k1 := HSC.out.2.1
      have k2 := HSC.out.2.2.1
      have k4 := HB.out.2.1.ext HSC.out.1
      exact ⟨k1.cell 0, k1.cell 1, k1.cell 2, k1.cell 3, k1.cell 4, k1.cell 5, k1.cell 6, k1.cell 7, k2.cell 0, k2.cell 1, k2.cell 2, k2.cell 3, k2.cell 4, k2.cell 5, k2.cell 6, k2.cell 7, k4.cell 0, k4.cell 1, k4.cell 2, k4.cell 3⟩
    go_wp2_with fail
    refine (H3.out _ (HE.out.trans HSC.out.1) _ _ _ _ HSC.out.2.2.2.1.1 HSC.out.2.2.2.1.2 HSC.out.2.2.2.2.1 HSC.out.2.2.2.2.2).mono ?_
    rintro e wd ⟨g0, g1, rfl, hg0, hg1, hed⟩
    have HG := Lib.hid (And.intro hg0 hg1)
    clear hg0 hg1 gl
    go_wp2_with fail
    have HEE := Lib.hid (show Ext w (wd.alloc (.cells #[.bool g0.n, .slice g0.p g0.l g0.c, .bool g0.m, .slice g0.p2 g0.l2 g0.c2, .bool g1.n, .slice g1.p g1.l g1.c, .bool g1.m, .slice g1.p2 g1.l2 g1.c2] 27)) from ((HE.out.trans HSC.out.1).trans hed).alloc _)
    have ke : Ext wc (wd.alloc (.cells #[.bool g0.n, .slice g0.p g0.l g0.c, .bool g0.m, .slice g0.p2 g0.l2 g0.c2, .bool g1.n, .slice g1.p g1.l g1.c, .bool g1.m, .slice g1.p2 g1.l2 g1.c2] 27)) := hed.alloc _
    have z3 : wa.heap.size ≤ wd.heap.size := Nat.le_trans HSC.out.1.size hed.size
    have j0 := (HB.out.1.ext HSC.out.1).ext ke
    have j1 := HSC.out.2.1.ext ke
    have j2 := HSC.out.2.2.1.ext ke
    have j3 : Blk (wd.alloc (.cells #[.bool g0.n, .slice g0.p g0.l g0.c, .bool g0.m, .slice g0.p2 g0.l2 g0.c2, .bool g1.n, .slice g1.p g1.l g1.c, .bool g1.m, .slice g1.p2 g1.l2 g1.c2] 27)) wd.heap.size 27 #[.bool g0.n, .slice g0.p g0.l g0.c, .bool g0.m, .slice g0.p2 g0.l2 g0.c2, .bool g1.n, .slice g1.p g1.l g1.c, .bool g1.m, .slice g1.p2 g1.l2 g1.c2] := Blk.new_at wd _ rfl _ _
    have j4 := (HB.out.2.2.1.ext HSC.out.1).ext ke
    have j5 := (HB.out.2.2.2.ext HSC.out.1).ext ke
    have HPE := Lib.hid (show (e0.Is (wd.alloc (.cells #[.bool g0.n, .slice g0.p g0.l g0.c, .bool g0.m, .slice g0.p2 g0.l2 g0.c2, .bool g1.n, .slice g1.p g1.l g1.c, .bool g1.m, .slice g1.p2 g1.l2 g1.c2] 27)) _ ∧ e1.Is (wd.alloc (.cells #[.bool g0.n, .slice g0.p g0.l g0.c, .bool g0.m, .slice g0.p2 g0.l2 g0.c2, .bool g1.n, .slice g1.p g1.l g1.c, .bool g1.m, .slice g1.p2 g1.l2 g1.c2] 27)) _) ∧ (f0.Is (wd.alloc (.cells #[.bool g0.n, .slice g0.p g0.l g0.c, .bool g0.m, .slice g0.p2 g0.l2 g0.c2, .bool g1.n, .slice g1.p g1.l g1.c, .bool g1.m, .slice g1.p2 g1.l2 g1.c2] 27)) _ ∧ f1.Is (wd.alloc (.cells #[.bool g0.n, .slice g0.p g0.l g0.c, .bool g0.m, .slice g0.p2 g0.l2 g0.c2, .bool g1.n, .slice g1.p g1.l g1.c, .bool g1.m, .slice g1.p2 g1.l2 g1.c2] 27)) _) ∧ (g0.Is (wd.alloc (.cells #[.bool g0.n, .slice g0.p g0.l g0.c, .bool g0.m, .slice g0.p2 g0.l2 g0.c2, .bool g1.n, .slice g1.p g1.l g1.c, .bool g1.m, .slice g1.p2 g1.l2 g1.c2] 27)) _ ∧ g1.Is (wd.alloc (.cells #[.bool g0.n, .slice g0.p g0.l g0.c, .bool g0.m, .slice g0.p2 g0.l2 g0.c2, .bool g1.n, .slice g1.p g1.l g1.c, .bool g1.m, .slice g1.p2 g1.l2 g1.c2] 27)) _) from ⟨⟨HSC.out.2.2.2.1.1.ext ke, HSC.out.2.2.2.1.2.ext ke⟩, ⟨HSC.out.2.2.2.2.1.ext ke, HSC.out.2.2.2.2.2.ext ke⟩, ⟨HG.out.1.ext ((Ext.refl _).alloc _), HG.out.2.ext ((Ext.refl _).alloc _)⟩⟩)
    clear ke hed
    generalize (wd.alloc (.cells #[.bool g0.n, .slice g0.p g0.l g0.c, .bool g0.m, .slice g0.p2 g0.l2 g0.c2, .bool g1.n, .slice g1.p g1.l g1.c, .bool g1.m, .slice g1.p2 g1.l2 g1.c2] 27)) = we at *
    generalize hX3 : wd.heap.size = X3 at *
    have hne : (BA ≠ R ∧ BA ≠ R2) ∧ (X1 ≠ R ∧ X1 ≠ R2) ∧ (X2 ≠ R ∧ X2 ≠ R2) ∧ (X3 ≠ R ∧ X3 ≠ R2) ∧ R2 ≠ R := by
      have h1 := HLT.out
      have h2 := HZ.out
      have h3 := HY.out.1
      have h4 := HY.out.2
      omega
    have HNE := Lib.hid hne
    have HJ := Lib.hid (And.intro j4 j5)
    have gl : ∀ x, Own2 R R2 we x → x.cell? ⟨BA, 0, none⟩ = some (.bool a0.n) ∧ x.cell? ⟨BA, 1, none⟩ = some (.slice a0.p a0.l a0.c) ∧ x.cell? ⟨BA, 2, none⟩ = some (.bool a0.m) ∧ x.cell? ⟨BA, 3, none⟩ = some (.slice a0.p2 a0.l2 a0.c2) ∧ x.cell? ⟨BA, 4, none⟩ = some (.bool a1.n) ∧ x.cell? ⟨BA, 5, none⟩ = some (.slice a1.p a1.l a1.c) ∧ x.cell? ⟨BA, 6, none⟩ = some (.bool a1.m) ∧ x.cell? ⟨BA, 7, none⟩ = some (.slice a1.p2 a1.l2 a1.c2) ∧ x.cell? ⟨BA, 8, none⟩ = some (.bool b0.n) ∧ x.cell? ⟨BA, 9, none⟩ = some (.slice b0.p b0.l b0.c) ∧ x.cell? ⟨BA, 10, none⟩ = some (.bool b0.m) ∧ x.cell? ⟨BA, 11, none⟩ = some (.slice b0.p2 b0.l2 b0.c2) ∧ x.cell? ⟨BA, 12, none⟩ = some (.bool b1.n) ∧ x.cell? ⟨BA, 13, none⟩ = some (.slice b1.p b1.l b1.c) ∧ x.cell? ⟨BA, 14, none⟩ = some (.bool b1.m) ∧ x.cell? ⟨BA, 15, none⟩ = some (.slice b1.p2 b1.l2 b1.c2) ∧ x.cell? ⟨BA, 16, none⟩ = some (.bool c0.n) ∧ x.cell? ⟨BA, 17, none⟩ = some (.slice c0.p c0.l c0.c) ∧ x.cell? ⟨BA, 18, none⟩ = some (.bool c0.m) ∧ x.cell? ⟨BA, 19, none⟩ = some (.slice c0.p2 c0.l2 c0.c2) ∧ x.cell? ⟨BA, 20, none⟩ = some (.bool c1.n) ∧ x.cell? ⟨BA, 21, none⟩ = some (.slice c1.p c1.l c1.c) ∧ x.cell? ⟨BA, 22, none⟩ = some (.bool c1.m) ∧ x.cell? ⟨BA, 23, none⟩ = some (.slice c1.p2 c1.l2 c1.c2) ∧ x.cell? ⟨X1, 0, none⟩ = some (.bool e0.n) ∧ x.cell? ⟨X1, 1, none⟩ = some (.slice e0.p e0.l e0.c) ∧ x.cell? ⟨X1, 2, none⟩ = some (.bool e0.m) ∧ x.cell? ⟨X1, 3, none⟩ = some (.slice e0.p2 e0.l2 e0.c2) ∧ x.cell? ⟨X1, 4, none⟩ = some (.bool e1.n) ∧ x.cell? ⟨X1, 5, none⟩ = some (.slice e1.p e1.l e1.c) ∧ x.cell? ⟨X1, 6, none⟩ = some (.bool e1.m) ∧ x.cell? ⟨X1, 7, none⟩ = some (.slice e1.p2 e1.l2 e1.c2) ∧ x.cell? ⟨X2, 0, none⟩ = some (.bool f0.n) ∧ x.cell? ⟨X2, 1, none⟩ = some (.slice f0.p f0.l f0.c) ∧ x.cell? ⟨X2, 2, none⟩ = some (.bool f0.m) ∧ x.cell? ⟨X2, 3, none⟩ = some (.slice f0.p2 f0.l2 f0.c2) ∧ x.cell? ⟨X2, 4, none⟩ = some (.bool f1.n) ∧ x.cell? ⟨X2, 5, none⟩ = some (.slice f1.p f1.l f1.c) ∧ x.cell? ⟨X2, 6, none⟩ = some (.bool f1.m) ∧ x.cell? ⟨X2, 7, none⟩ = some (.slice f1.p2 f1.l2 f1.c2) ∧ x.cell? ⟨X3, 0, none⟩ = some (.bool g0.n) ∧ x.cell? ⟨X3, 1, none⟩ = some (.slice g0.p g0.l g0.c) ∧ x.cell? ⟨X3, 2, none⟩ = some (.bool g0.m) ∧ x.cell? ⟨X3, 3, none⟩ = some (.slice g0.p2 g0.l2 g0.c2) ∧ x.cell? ⟨X3, 4, none⟩ = some (.bool g1.n) ∧ x.cell? ⟨X3, 5, none⟩ = some (.slice g1.p g1.l g1.c) ∧ x.cell? ⟨X3, 6, none⟩ = some (.bool g1.m) ∧ x.cell? ⟨X3, 7, none⟩ = some (.slice g1.p2 g1.l2 g1.c2) := fun x h => by
      have k0 := j0.own2 h hne.1.1 hne.1.2
      have k1 := j1.own2 h hne.2.1.1 hne.2.1.2
      have k2 := j2.own2 h hne.2.2.1.1 hne.2.2.1.2
      have k3 := j3.own2 h hne.2.2.2.1.1 hne.2.2.2.1.2
      exact ⟨k0.cell 0, k0.cell 1, k0.cell 2, k0.cell 3, k0.cell 4, k0.cell 5, k0.cell 6, k0.cell 7, k0.cell 8, k0.cell 9, k0.cell 10, k0.cell 11, k0.cell 12, k0.cell 13, k0.cell 14, k0.cell 15, k0.cell 16, k0.cell 17, k0.cell 18, k0.cell 19, k0.cell 20, k0.cell 21, k0.cell 22, k0.cell 23, k1.cell 0, k1.cell 1, k1.cell 2, k1.cell 3, k1.cell 4, k1.cell 5, k1.cell 6, k1.cell 7, k2.cell 0, k2.cell 1, k2.cell 2, k2.cell 3, k2.cell 4, k2.cell 5, k2.cell 6, k2.cell 7, k3.cell 0, k3.cell 1, k3.cell 2, k3.cell 3, k3.cell 4, k3.cell 5, k3.cell 6, k3.cell 7⟩
    have hrr : R2 ≠ R := hne.2.2.2.2
    have hrs : R ≠ R2 := hrr.symm
    clear j0 j1 j2 j3 j4 j5 hne hX3 z3
    refine wp_region_held_drew (S := (fun x => Own2 R R2 we x)) (by kernel_rfl) (by (try dsimp only); (first | (with_reducible assumption) | (with_reducible exact Own2.drew (Own2.refl _ _ _)) | (with_reducible (apply Own2.of_ext; assumption)) | ((repeat (with_reducible apply Own2.setR)); (with_reducible apply Own2.one); (repeat (with_reducible apply Own.set_at)); (with_reducible apply Own.of_ext); assumption))) (fun hH1_0 => ?_)
    refine wpAnyH_take_l (i := 0) (v := ?v1_0) rfl (by kernel_rfl) (by kernel_rfl) (by kernel_rfl) (fun _ _ _ h => h) (Or.inl ⟨by rfl, ?y1_0⟩) (by assumption) ?r1_0
    case y1_0 => (intro w hSw; (try dsimp only at hSw); go_simp <;> with_reducible rfl)
    (try simp only [Act.put, List.setIfInBounds_toArray, List.set_cons_zero, List.set_cons_succ])
    refine wpAnyH_take_l (i := 1) (v := ?v1_1) rfl (by kernel_rfl) (by kernel_rfl) (by kernel_rfl) (fun _ _ _ h => h) (Or.inl ⟨by rfl, ?y1_1⟩) (by assumption) ?r1_1
    case y1_1 => (intro w hSw; (try dsimp only at hSw); go_simp <;> with_reducible rfl)
    (try simp only [Act.put, List.setIfInBounds_toArray, List.set_cons_zero, List.set_cons_succ])
    refine wpAnyH_take_l (i := 3) (v := ?v1_3) rfl (by kernel_rfl) (by kernel_rfl) (by kernel_rfl) (fun _ _ _ h => h) (Or.inl ⟨by rfl, ?y1_3⟩) (by assumption) ?r1_3
    case y1_3 => (intro w hSw; (try dsimp only at hSw); go_simp <;> with_reducible rfl)
    (try simp only [Act.put, List.setIfInBounds_toArray, List.set_cons_zero, List.set_cons_succ])
    refine wpAnyH_take_l (i := 4) (v := ?v1_4) rfl (by kernel_rfl) (by kernel_rfl) (by kernel_rfl) (fun _ _ _ h => h) (Or.inl ⟨by rfl, ?y1_4⟩) (by assumption) ?r1_4
    case y1_4 => (intro w hSw; (try dsimp only at hSw); go_simp <;> with_reducible rfl)
    (try simp only [Act.put, List.setIfInBounds_toArray, List.set_cons_zero, List.set_cons_succ])
    refine wpAnyH_take_l (i := 6) (v := ?v1_6) rfl (by kernel_rfl) (by kernel_rfl) (by kernel_rfl) (fun _ _ _ h => h) (Or.inl ⟨by rfl, ?y1_6⟩) (by assumption) ?r1_6
    case y1_6 => (intro w hSw; (try dsimp only at hSw); go_simp <;> with_reducible rfl)
    (try simp only [Act.put, List.setIfInBounds_toArray, List.set_cons_zero, List.set_cons_succ])
    refine wpAnyH_take_l (i := 8) (v := ?v1_8) rfl (by kernel_rfl) (by kernel_rfl) (by kernel_rfl) (fun _ _ _ h => h) (Or.inl ⟨by rfl, ?y1_8⟩) (by assumption) ?r1_8
    case y1_8 => (intro w hSw; (try dsimp only at hSw); go_simp <;> with_reducible rfl)
    (try simp only [Act.put, List.setIfInBounds_toArray, List.set_cons_zero, List.set_cons_succ])
    refine wpAnyH_take_l (i := 9) (v := ?v1_9) rfl (by kernel_rfl) (by kernel_rfl) (by kernel_rfl) (fun _ _ _ h => h) (Or.inl ⟨by rfl, ?y1_9⟩) (by assumption) ?r1_9
    case y1_9 => (intro w hSw; (try dsimp only at hSw); go_simp <;> with_reducible rfl)
    (try simp only [Act.put, List.setIfInBounds_toArray, List.set_cons_zero, List.set_cons_succ])
    refine wpAnyH_take_l (i := 10) (v := ?v1_10) rfl (by kernel_rfl) (by kernel_rfl) (by kernel_rfl) (fun _ _ _ h => h) (Or.inl ⟨by rfl, ?y1_10⟩) (by assumption) ?r1_10
    case y1_10 => (intro w hSw; (try dsimp only at hSw); go_simp <;> with_reducible rfl)
    (try simp only [Act.put, List.setIfInBounds_toArray, List.set_cons_zero, List.set_cons_succ])
    refine wpAnyH_one_l (i := 2) rfl (by kernel_rfl) (fun K hK => ?_)
    go_simp
    (first | (go_at_call 31; ((with_reducible refine (HR1.out _ (HEE.out.trans (by first | assumption | exact Ext.drew (Ext.refl _)))).mono ?_)); rintro e wx ⟨u0, u1, rfl, hu0, hu1, hen1⟩; have hx1 : Ext we wx := Ext.trans (by first | assumption | exact Ext.drew (Ext.refl _)) hen1) | (go_at_call 31; ((with_reducible refine (HR2.out _ _ _ (HPE.out.2.2.1.ext (by first | assumption | exact Ext.drew (Ext.refl _))) (HPE.out.2.2.2.ext (by first | assumption | exact Ext.drew (Ext.refl _)))).mono ?_)); rintro e wy ⟨m0, m1, rfl, hm0, hm1, hen2⟩; have hx2 : Ext we wy := Ext.trans (by first | assumption | exact Ext.drew (Ext.refl _)) hen2) | (go_at_call 31; ((with_reducible refine (HR3.out _ (HEE.out.trans (by first | assumption | exact Ext.drew (Ext.refl _)))).mono ?_)); rintro e wz ⟨n0, n1, rfl, hn0, hn1, hen3⟩; have hx : Ext we wz := Ext.trans (by first | assumption | exact Ext.drew (Ext.refl _)) hen3; clear gl; have XR := Blk.ext HJ.out.1 hx; have XS := Blk.ext HJ.out.2 hx) | skip)
    refine hK.out _ _ (by (try dsimp only); (first | (with_reducible assumption) | (with_reducible exact Own2.drew (Own2.refl _ _ _)) | (with_reducible (apply Own2.of_ext; assumption)) | ((repeat (with_reducible apply Own2.setR)); (with_reducible apply Own2.one); (repeat (with_reducible apply Own.set_at)); (with_reducible apply Own.of_ext); assumption))) (fun hH1_1 => ?_)
    clear hK K hH1_0
    (try simp only [Act.put, List.setIfInBounds_toArray, List.set_cons_zero, List.set_cons_succ])
    refine wpAnyH_take_l (i := 5) (v := ?v1_5) rfl (by kernel_rfl) (by kernel_rfl) (by kernel_rfl) (fun _ _ _ h => h) (Or.inl ⟨by rfl, ?y1_5⟩) (by assumption) ?r1_5
    case y1_5 => (intro w hSw; (try dsimp only at hSw); go_simp <;> with_reducible rfl)
    (try simp only [Act.put, List.setIfInBounds_toArray, List.set_cons_zero, List.set_cons_succ])
    refine wpAnyH_one_l (i := 7) rfl (by kernel_rfl) (fun K hK => ?_)
    go_simp
    (first | (go_at_call 31; ((with_reducible refine (HR1.out _ (HEE.out.trans (by first | assumption | exact Ext.drew (Ext.refl _)))).mono ?_)); rintro e wx ⟨u0, u1, rfl, hu0, hu1, hen1⟩; have hx1 : Ext we wx := Ext.trans (by first | assumption | exact Ext.drew (Ext.refl _)) hen1) | (go_at_call 31; ((with_reducible refine (HR2.out _ _ _ (HPE.out.2.2.1.ext (by first | assumption | exact Ext.drew (Ext.refl _))) (HPE.out.2.2.2.ext (by first | assumption | exact Ext.drew (Ext.refl _)))).mono ?_)); rintro e wy ⟨m0, m1, rfl, hm0, hm1, hen2⟩; have hx2 : Ext we wy := Ext.trans (by first | assumption | exact Ext.drew (Ext.refl _)) hen2) | (go_at_call 31; ((with_reducible refine (HR3.out _ (HEE.out.trans (by first | assumption | exact Ext.drew (Ext.refl _)))).mono ?_)); rintro e wz ⟨n0, n1, rfl, hn0, hn1, hen3⟩; have hx : Ext we wz := Ext.trans (by first | assumption | exact Ext.drew (Ext.refl _)) hen3; clear gl; have XR := Blk.ext HJ.out.1 hx; have XS := Blk.ext HJ.out.2 hx) | skip)
    refine hK.out _ _ (by (try dsimp only); (first | (with_reducible assumption) | (with_reducible exact Own2.drew (Own2.refl _ _ _)) | (with_reducible (apply Own2.of_ext; assumption)) | ((repeat (with_reducible apply Own2.setR)); (with_reducible apply Own2.one); (repeat (with_reducible apply Own.set_at)); (with_reducible apply Own.of_ext); assumption))) (fun hH1_2 => ?_)
    clear hK K hH1_1
    (try simp only [Act.put, List.setIfInBounds_toArray, List.set_cons_zero, List.set_cons_succ])
    refine wpAnyH_one_l (i := 11) rfl (by kernel_rfl) (fun K hK => ?_)
    go_simp
    (first | (go_at_call 31; ((with_reducible refine (HR1.out _ (HEE.out.trans (by first | assumption | exact Ext.drew (Ext.refl _)))).mono ?_)); rintro e wx ⟨u0, u1, rfl, hu0, hu1, hen1⟩; have hx1 : Ext we wx := Ext.trans (by first | assumption | exact Ext.drew (Ext.refl _)) hen1) | (go_at_call 31; ((with_reducible refine (HR2.out _ _ _ (HPE.out.2.2.1.ext (by first | assumption | exact Ext.drew (Ext.refl _))) (HPE.out.2.2.2.ext (by first | assumption | exact Ext.drew (Ext.refl _)))).mono ?_)); rintro e wy ⟨m0, m1, rfl, hm0, hm1, hen2⟩; have hx2 : Ext we wy := Ext.trans (by first | assumption | exact Ext.drew (Ext.refl _)) hen2) | (go_at_call 31; ((with_reducible refine (HR3.out _ (HEE.out.trans (by first | assumption | exact Ext.drew (Ext.refl _)))).mono ?_)); rintro e wz ⟨n0, n1, rfl, hn0, hn1, hen3⟩; have hx : Ext we wz := Ext.trans (by first | assumption | exact Ext.drew (Ext.refl _)) hen3; clear gl; have XR := Blk.ext HJ.out.1 hx; have XS := Blk.ext HJ.out.2 hx) | skip)
    refine hK.out _ _ (by (try dsimp only); (first | (with_reducible assumption) | (with_reducible exact Own2.drew (Own2.refl _ _ _)) | (with_reducible (apply Own2.of_ext; assumption)) | ((repeat (with_reducible apply Own2.setR)); (with_reducible apply Own2.one); (repeat (with_reducible apply Own.set_at)); (with_reducible apply Own.of_ext); assumption))) (fun hH1_3 => ?_)
    clear hK K hH1_2
    (try simp only [Act.put, List.setIfInBounds_toArray, List.set_cons_zero, List.set_cons_succ])
    refine wpAnyH_take_l (i := 12) (v := ?v1_12) rfl (by kernel_rfl) (by kernel_rfl) (by kernel_rfl) (fun _ _ _ h => h) (Or.inl ⟨by rfl, ?y1_12⟩) (by assumption) ?r1_12
    case y1_12 => (intro w hSw; (try dsimp only at hSw); go_simp <;> with_reducible rfl)
    (try simp only [Act.put, List.setIfInBounds_toArray, List.set_cons_zero, List.set_cons_succ])
    have o1 := Own.setCells wz R #[.bool u0.n, .slice u0.p u0.l u0.c, .bool u0.m, .slice u0.p2 u0.l2 u0.c2, .bool u1.n, .slice u1.p u1.l u1.c, .bool u1.m, .slice u1.p2 u1.l2 u1.c2, .bool e0.n, .slice e0.p e0.l e0.c, .bool e0.m, .slice e0.p2 e0.l2 e0.c2, .bool e1.n, .slice e1.p e1.l e1.c, .bool e1.m, .slice e1.p2 e1.l2 e1.c2, .bool g0.n, .slice g0.p g0.l g0.c, .bool g0.m, .slice g0.p2 g0.l2 g0.c2, .bool g1.n, .slice g1.p g1.l g1.c, .bool g1.m, .slice g1.p2 g1.l2 g1.c2]
    have o2 := Own.setCells (wz.setCells R 0 (#[.bool u0.n, .slice u0.p u0.l u0.c, .bool u0.m, .slice u0.p2 u0.l2 u0.c2, .bool u1.n, .slice u1.p u1.l u1.c, .bool u1.m, .slice u1.p2 u1.l2 u1.c2, .bool e0.n, .slice e0.p e0.l e0.c, .bool e0.m, .slice e0.p2 e0.l2 e0.c2, .bool e1.n, .slice e1.p e1.l e1.c, .bool e1.m, .slice e1.p2 e1.l2 e1.c2, .bool g0.n, .slice g0.p g0.l g0.c, .bool g0.m, .slice g0.p2 g0.l2 g0.c2, .bool g1.n, .slice g1.p g1.l g1.c, .bool g1.m, .slice g1.p2 g1.l2 g1.c2] : Array Value).toList) R2 #[.bool m0.n, .slice m0.p m0.l m0.c, .bool m0.m, .slice m0.p2 m0.l2 m0.c2, .bool m1.n, .slice m1.p m1.l m1.c, .bool m1.m, .slice m1.p2 m1.l2 m1.c2, .bool f0.n, .slice f0.p f0.l f0.c, .bool f0.m, .slice f0.p2 f0.l2 f0.c2, .bool f1.n, .slice f1.p f1.l f1.c, .bool f1.m, .slice f1.p2 f1.l2 f1.c2, .bool n0.n, .slice n0.p n0.l n0.c, .bool n0.m, .slice n0.p2 n0.l2 n0.c2, .bool n1.n, .slice n1.p n1.l n1.c, .bool n1.m, .slice n1.p2 n1.l2 n1.c2]
    have XS1 := XS.own o1 hrr
    have XR1 := XR.setCells #[.bool u0.n, .slice u0.p u0.l u0.c, .bool u0.m, .slice u0.p2 u0.l2 u0.c2, .bool u1.n, .slice u1.p u1.l u1.c, .bool u1.m, .slice u1.p2 u1.l2 u1.c2, .bool e0.n, .slice e0.p e0.l e0.c, .bool e0.m, .slice e0.p2 e0.l2 e0.c2, .bool e1.n, .slice e1.p e1.l e1.c, .bool e1.m, .slice e1.p2 e1.l2 e1.c2, .bool g0.n, .slice g0.p g0.l g0.c, .bool g0.m, .slice g0.p2 g0.l2 g0.c2, .bool g1.n, .slice g1.p g1.l g1.c, .bool g1.m, .slice g1.p2 g1.l2 g1.c2] rfl
    have HS1 := Lib.hid (show Own2 R R2 we (wz.setCells R 0 (#[.bool u0.n, .slice u0.p u0.l u0.c, .bool u0.m, .slice u0.p2 u0.l2 u0.c2, .bool u1.n, .slice u1.p u1.l u1.c, .bool u1.m, .slice u1.p2 u1.l2 u1.c2, .bool e0.n, .slice e0.p e0.l e0.c, .bool e0.m, .slice e0.p2 e0.l2 e0.c2, .bool e1.n, .slice e1.p e1.l e1.c, .bool e1.m, .slice e1.p2 e1.l2 e1.c2, .bool g0.n, .slice g0.p g0.l g0.c, .bool g0.m, .slice g0.p2 g0.l2 g0.c2, .bool g1.n, .slice g1.p g1.l g1.c, .bool g1.m, .slice g1.p2 g1.l2 g1.c2] : Array Value).toList) from Own2.one (Own.then_ext' hx o1))
    have HS2 := Lib.hid (show Own2 R R2 we ((wz.setCells R 0 (#[.bool u0.n, .slice u0.p u0.l u0.c, .bool u0.m, .slice u0.p2 u0.l2 u0.c2, .bool u1.n, .slice u1.p u1.l u1.c, .bool u1.m, .slice u1.p2 u1.l2 u1.c2, .bool e0.n, .slice e0.p e0.l e0.c, .bool e0.m, .slice e0.p2 e0.l2 e0.c2, .bool e1.n, .slice e1.p e1.l e1.c, .bool e1.m, .slice e1.p2 e1.l2 e1.c2, .bool g0.n, .slice g0.p g0.l g0.c, .bool g0.m, .slice g0.p2 g0.l2 g0.c2, .bool g1.n, .slice g1.p g1.l g1.c, .bool g1.m, .slice g1.p2 g1.l2 g1.c2] : Array Value).toList).setCells R2 0 (#[.bool m0.n, .slice m0.p m0.l m0.c, .bool m0.m, .slice m0.p2 m0.l2 m0.c2, .bool m1.n, .slice m1.p m1.l m1.c, .bool m1.m, .slice m1.p2 m1.l2 m1.c2, .bool f0.n, .slice f0.p f0.l f0.c, .bool f0.m, .slice f0.p2 f0.l2 f0.c2, .bool f1.n, .slice f1.p f1.l f1.c, .bool f1.m, .slice f1.p2 f1.l2 f1.c2, .bool n0.n, .slice n0.p n0.l n0.c, .bool n0.m, .slice n0.p2 n0.l2 n0.c2, .bool n1.n, .slice n1.p n1.l n1.c, .bool n1.m, .slice n1.p2 n1.l2 n1.c2] : Array Value).toList) from ⟨_, Own.then_ext' hx o1, o2⟩)
    refine wpAnyH_store_l (i := 13) (by rfl) (by kernel_rfl) (by rfl) _ _ _ (by rfl) R _ _ #[.bool u0.n, .slice u0.p u0.l u0.c, .bool u0.m, .slice u0.p2 u0.l2 u0.c2, .bool u1.n, .slice u1.p u1.l u1.c, .bool u1.m, .slice u1.p2 u1.l2 u1.c2, .bool e0.n, .slice e0.p e0.l e0.c, .bool e0.m, .slice e0.p2 e0.l2 e0.c2, .bool e1.n, .slice e1.p e1.l e1.c, .bool e1.m, .slice e1.p2 e1.l2 e1.c2, .bool g0.n, .slice g0.p g0.l g0.c, .bool g0.m, .slice g0.p2 g0.l2 g0.c2, .bool g1.n, .slice g1.p g1.l g1.c, .bool g1.m, .slice g1.p2 g1.l2 g1.c2] (by rfl) (by rfl) XR rfl (by kernel_rfl) (all_oneCell_toArray (by simp [Value.oneCell'])) HS1.out ?_
    (try simp only [Act.put, List.setIfInBounds_toArray, List.set_cons_zero, List.set_cons_succ])
    refine wpAnyH_store_l (i := 14) (by rfl) (by kernel_rfl) (by rfl) _ _ _ (by rfl) R2 _ _ #[.bool m0.n, .slice m0.p m0.l m0.c, .bool m0.m, .slice m0.p2 m0.l2 m0.c2, .bool m1.n, .slice m1.p m1.l m1.c, .bool m1.m, .slice m1.p2 m1.l2 m1.c2, .bool f0.n, .slice f0.p f0.l f0.c, .bool f0.m, .slice f0.p2 f0.l2 f0.c2, .bool f1.n, .slice f1.p f1.l f1.c, .bool f1.m, .slice f1.p2 f1.l2 f1.c2, .bool n0.n, .slice n0.p n0.l n0.c, .bool n0.m, .slice n0.p2 n0.l2 n0.c2, .bool n1.n, .slice n1.p n1.l n1.c, .bool n1.m, .slice n1.p2 n1.l2 n1.c2] (by rfl) (by rfl) XS1 rfl (by kernel_rfl) (all_oneCell_toArray (by simp [Value.oneCell'])) HS2.out ?_
    (try simp only [Act.put, List.setIfInBounds_toArray, List.set_cons_zero, List.set_cons_succ])
    refine wpAnyH_done (by kernel_rfl) ?_ _
    have fin : ∀ (r : RV) (q : Rat), r.Is wz q → r.Is ((wz.setCells R 0 (#[.bool u0.n, .slice u0.p u0.l u0.c, .bool u0.m, .slice u0.p2 u0.l2 u0.c2, .bool u1.n, .slice u1.p u1.l u1.c, .bool u1.m, .slice u1.p2 u1.l2 u1.c2, .bool e0.n, .slice e0.p e0.l e0.c, .bool e0.m, .slice e0.p2 e0.l2 e0.c2, .bool e1.n, .slice e1.p e1.l e1.c, .bool e1.m, .slice e1.p2 e1.l2 e1.c2, .bool g0.n, .slice g0.p g0.l g0.c, .bool g0.m, .slice g0.p2 g0.l2 g0.c2, .bool g1.n, .slice g1.p g1.l g1.c, .bool g1.m, .slice g1.p2 g1.l2 g1.c2] : Array Value).toList).setCells R2 0 (#[.bool m0.n, .slice m0.p m0.l m0.c, .bool m0.m, .slice m0.p2 m0.l2 m0.c2, .bool m1.n, .slice m1.p m1.l m1.c, .bool m1.m, .slice m1.p2 m1.l2 m1.c2, .bool f0.n, .slice f0.p f0.l f0.c, .bool f0.m, .slice f0.p2 f0.l2 f0.c2, .bool f1.n, .slice f1.p f1.l f1.c, .bool f1.m, .slice f1.p2 f1.l2 f1.c2, .bool n0.n, .slice n0.p n0.l n0.c, .bool n0.m, .slice n0.p2 n0.l2 n0.c2, .bool n1.n, .slice n1.p n1.l n1.c, .bool n1.m, .slice n1.p2 n1.l2 n1.c2] : Array Value).toList) q := fun r q h => (h.own XR noU24 o1).own XS1 noU24 o2
    have ex := o2.ext (o1.ext (HEE.out.trans hx) (by rw [HAA.out]; have := HLT.out; omega)) (by rw [HAA.out]; have := HLT.out; omega)
    have BR := XR1.own o2 hrs
    have BS := XS1.setCells #[.bool m0.n, .slice m0.p m0.l m0.c, .bool m0.m, .slice m0.p2 m0.l2 m0.c2, .bool m1.n, .slice m1.p m1.l m1.c, .bool m1.m, .slice m1.p2 m1.l2 m1.c2, .bool f0.n, .slice f0.p f0.l f0.c, .bool f0.m, .slice f0.p2 f0.l2 f0.c2, .bool f1.n, .slice f1.p f1.l f1.c, .bool f1.m, .slice f1.p2 f1.l2 f1.c2, .bool n0.n, .slice n0.p n0.l n0.c, .bool n0.m, .slice n0.p2 n0.l2 n0.c2, .bool n1.n, .slice n1.p n1.l n1.c, .bool n1.m, .slice n1.p2 n1.l2 n1.c2] rfl
    generalize ((wz.setCells R 0 (#[.bool u0.n, .slice u0.p u0.l u0.c, .bool u0.m, .slice u0.p2 u0.l2 u0.c2, .bool u1.n, .slice u1.p u1.l u1.c, .bool u1.m, .slice u1.p2 u1.l2 u1.c2, .bool e0.n, .slice e0.p e0.l e0.c, .bool e0.m, .slice e0.p2 e0.l2 e0.c2, .bool e1.n, .slice e1.p e1.l e1.c, .bool e1.m, .slice e1.p2 e1.l2 e1.c2, .bool g0.n, .slice g0.p g0.l g0.c, .bool g0.m, .slice g0.p2 g0.l2 g0.c2, .bool g1.n, .slice g1.p g1.l g1.c, .bool g1.m, .slice g1.p2 g1.l2 g1.c2] : Array Value).toList).setCells R2 0 (#[.bool m0.n, .slice m0.p m0.l m0.c, .bool m0.m, .slice m0.p2 m0.l2 m0.c2, .bool m1.n, .slice m1.p m1.l m1.c, .bool m1.m, .slice m1.p2 m1.l2 m1.c2, .bool f0.n, .slice f0.p f0.l f0.c, .bool f0.m, .slice f0.p2 f0.l2 f0.c2, .bool f1.n, .slice f1.p f1.l f1.c, .bool f1.m, .slice f1.p2 f1.l2 f1.c2, .bool n0.n, .slice n0.p n0.l n0.c, .bool n0.m, .slice n0.p2 n0.l2 n0.c2, .bool n1.n, .slice n1.p n1.l n1.c, .bool n1.m, .slice n1.p2 n1.l2 n1.c2] : Array Value).toList) = wf at *
    have HF2 := Lib.hid (And.intro fin ex)
    clear fin ex o1 o2 XS1 XR1 XR XS HS1 HS2
    go_wp2_with fail
    refine bodyPost_ret (v := .tuple #[.agg #[.bool u0.n, .slice u0.p u0.l u0.c, .bool u0.m, .slice u0.p2 u0.l2 u0.c2, .bool u1.n, .slice u1.p u1.l u1.c, .bool u1.m, .slice u1.p2 u1.l2 u1.c2, .bool e0.n, .slice e0.p e0.l e0.c, .bool e0.m, .slice e0.p2 e0.l2 e0.c2, .bool e1.n, .slice e1.p e1.l e1.c, .bool e1.m, .slice e1.p2 e1.l2 e1.c2, .bool g0.n, .slice g0.p g0.l g0.c, .bool g0.m, .slice g0.p2 g0.l2 g0.c2, .bool g1.n, .slice g1.p g1.l g1.c, .bool g1.m, .slice g1.p2 g1.l2 g1.c2], .agg #[.bool m0.n, .slice m0.p m0.l m0.c, .bool m0.m, .slice m0.p2 m0.l2 m0.c2, .bool m1.n, .slice m1.p m1.l m1.c, .bool m1.m, .slice m1.p2 m1.l2 m1.c2, .bool f0.n, .slice f0.p f0.l f0.c, .bool f0.m, .slice f0.p2 f0.l2 f0.c2, .bool f1.n, .slice f1.p f1.l f1.c, .bool f1.m, .slice f1.p2 f1.l2 f1.c2, .bool n0.n, .slice n0.p n0.l n0.c, .bool n0.m, .slice n0.p2 n0.l2 n0.c2, .bool n1.n, .slice n1.p n1.l n1.c, .bool n1.m, .slice n1.p2 n1.l2 n1.c2]]) ?_ rfl ⟨u0, u1, e0, e1, g0, g1, m0, m1, f0, f1, n0, n1, rfl, ⟨HF2.out.1 _ _ (hu0.ext (hen2.trans hen3)), HF2.out.1 _ _ (hu1.ext (hen2.trans hen3)), HF2.out.1 _ _ (HPE.out.1.1.ext hx), HF2.out.1 _ _ (HPE.out.1.2.ext hx), HF2.out.1 _ _ (HPE.out.2.2.1.ext hx), HF2.out.1 _ _ (HPE.out.2.2.2.ext hx)⟩, ⟨HF2.out.1 _ _ (hm0.ext hen3), HF2.out.1 _ _ (hm1.ext hen3), HF2.out.1 _ _ (HPE.out.2.1.1.ext hx), HF2.out.1 _ _ (HPE.out.2.1.2.ext hx), HF2.out.1 _ _ (hn0), HF2.out.1 _ _ (hn1)⟩, HF2.out.2⟩
    exact results_cell2 rfl rfl rfl (BR.loadVar rfl rfl rfl) (BS.loadVar rfl rfl rfl)
end Go.Proofs.YtllpkoinjompcaaGreat

namespace Go.Proofs.YtllpkoinjompcaaGreat
open Go.RowKit
attribute [local go_sem ↓] Go.wp_at_zero Go.wp_at_succ run_max_ii run_min_ii

theorem noU32 : NoU #[.bool false, .slice none 0 0, .bool false, .slice none 0 0, .bool false, .slice none 0 0, .bool false, .slice none 0 0, .bool false, .slice none 0 0, .bool false, .slice none 0 0, .bool false, .slice none 0 0, .bool false, .slice none 0 0, .bool false, .slice none 0 0, .bool false, .slice none 0 0, .bool false, .slice none 0 0, .bool false, .slice none 0 0, .bool false, .slice none 0 0, .bool false, .slice none 0 0, .bool false, .slice none 0 0, .bool false, .slice none 0 0] := noU_of _ (by simp)
/-- Two cubic curves, normalized. -/
def RetSC (x1 y1 x2 y2 x3 y3 x4 y4 u1 v1 u2 v2 u3 v3 u4 v4 : Rat) (w : World) (e : Ending) (w' : World) : Prop :=
  ∃ a b c d f g h i j k l m n o p q : RV, e = .returned (.tuple #[.agg #[.bool a.n, .slice a.p a.l a.c, .bool a.m, .slice a.p2 a.l2 a.c2, .bool b.n, .slice b.p b.l b.c, .bool b.m, .slice b.p2 b.l2 b.c2, .bool c.n, .slice c.p c.l c.c, .bool c.m, .slice c.p2 c.l2 c.c2, .bool d.n, .slice d.p d.l d.c, .bool d.m, .slice d.p2 d.l2 d.c2, .bool f.n, .slice f.p f.l f.c, .bool f.m, .slice f.p2 f.l2 f.c2, .bool g.n, .slice g.p g.l g.c, .bool g.m, .slice g.p2 g.l2 g.c2, .bool h.n, .slice h.p h.l h.c, .bool h.m, .slice h.p2 h.l2 h.c2, .bool i.n, .slice i.p i.l i.c, .bool i.m, .slice i.p2 i.l2 i.c2], .agg #[.bool j.n, .slice j.p j.l j.c, .bool j.m, .slice j.p2 j.l2 j.c2, .bool k.n, .slice k.p k.l k.c, .bool k.m, .slice k.p2 k.l2 k.c2, .bool l.n, .slice l.p l.l l.c, .bool l.m, .slice l.p2 l.l2 l.c2, .bool m.n, .slice m.p m.l m.c, .bool m.m, .slice m.p2 m.l2 m.c2, .bool n.n, .slice n.p n.l n.c, .bool n.m, .slice n.p2 n.l2 n.c2, .bool o.n, .slice o.p o.l o.c, .bool o.m, .slice o.p2 o.l2 o.c2, .bool p.n, .slice p.p p.l p.c, .bool p.m, .slice p.p2 p.l2 p.c2, .bool q.n, .slice q.p q.l q.c, .bool q.m, .slice q.p2 q.l2 q.c2]]) ∧
    (a.Is w' x1 ∧ b.Is w' y1 ∧ c.Is w' x2 ∧ d.Is w' y2 ∧ f.Is w' x3 ∧ g.Is w' y3 ∧ h.Is w' x4 ∧ i.Is w' y4) ∧ (j.Is w' u1 ∧ k.Is w' v1 ∧ l.Is w' u2 ∧ m.Is w' v2 ∧ n.Is w' u3 ∧ o.Is w' v3 ∧ p.Is w' u4 ∧ q.Is w' v4) ∧ Ext w w'

set_option maxRecDepth 20000 in
set_option maxHeartbeats 8000000 in
theorem splitCubic_any (a0 a1 b0 b1 c0 c1 d0 d1 t : RV) (L : Nat) (A0 A1 B0 B1 C0 C1 D0 D1 S : Rat) (w : World) (hA0 : a0.In L w A0) (hA1 : a1.In L w A1) (hB0 : b0.In L w B0) (hB1 : b1.In L w B1) (hC0 : c0.In L w C0) (hC1 : c1.In L w C1) (hD0 : d0.In L w D0) (hD1 : d1.In L w D1) (hS : t.In L w S) (h1 : 1 ≤ L) (hL : L ≤ 200) :
      Calls Tryz.prog 11 #[.agg #[.bool a0.n, .slice a0.p a0.l a0.c, .bool a0.m, .slice a0.p2 a0.l2 a0.c2, .bool a1.n, .slice a1.p a1.l a1.c, .bool a1.m, .slice a1.p2 a1.l2 a1.c2, .bool b0.n, .slice b0.p b0.l b0.c, .bool b0.m, .slice b0.p2 b0.l2 b0.c2, .bool b1.n, .slice b1.p b1.l b1.c, .bool b1.m, .slice b1.p2 b1.l2 b1.c2, .bool c0.n, .slice c0.p c0.l c0.c, .bool c0.m, .slice c0.p2 c0.l2 c0.c2, .bool c1.n, .slice c1.p c1.l c1.c, .bool c1.m, .slice c1.p2 c1.l2 c1.c2, .bool d0.n, .slice d0.p d0.l d0.c, .bool d0.m, .slice d0.p2 d0.l2 d0.c2, .bool d1.n, .slice d1.p d1.l d1.c, .bool d1.m, .slice d1.p2 d1.l2 d1.c2], .agg #[.bool t.n, .slice t.p t.l t.c, .bool t.m, .slice t.p2 t.l2 t.c2]] w (RetSC A0 A1 (lerpV A0 B0 S) (lerpV A1 B1 S) (lerpV (lerpV A0 B0 S) (lerpV B0 C0 S) S) (lerpV (lerpV A1 B1 S) (lerpV B1 C1 S) S) (lerpV (lerpV (lerpV A0 B0 S) (lerpV B0 C0 S) S) (lerpV (lerpV B0 C0 S) (lerpV C0 D0 S) S) S) (lerpV (lerpV (lerpV A1 B1 S) (lerpV B1 C1 S) S) (lerpV (lerpV B1 C1 S) (lerpV C1 D1 S) S) S) (lerpV (lerpV (lerpV A0 B0 S) (lerpV B0 C0 S) S) (lerpV (lerpV B0 C0 S) (lerpV C0 D0 S) S) S) (lerpV (lerpV (lerpV A1 B1 S) (lerpV B1 C1 S) S) (lerpV (lerpV B1 C1 S) (lerpV C1 D1 S) S) S) (lerpV (lerpV B0 C0 S) (lerpV C0 D0 S) S) (lerpV (lerpV B1 C1 S) (lerpV C1 D1 S) S) (lerpV C0 D0 S) (lerpV C1 D1 S) D0 D1 w) := by
  have q00 := rl_lerpV (a := A0) (b := B0) (t := S) (L := L) (by have := hA0.rl; omega) (by have := hB0.rl; omega) (by have := hS.rl; omega)
  have q01 := rl_lerpV (a := A1) (b := B1) (t := S) (L := L) (by have := hA1.rl; omega) (by have := hB1.rl; omega) (by have := hS.rl; omega)
  have q10 := rl_lerpV (a := B0) (b := C0) (t := S) (L := L) (by have := hB0.rl; omega) (by have := hC0.rl; omega) (by have := hS.rl; omega)
  have q11 := rl_lerpV (a := B1) (b := C1) (t := S) (L := L) (by have := hB1.rl; omega) (by have := hC1.rl; omega) (by have := hS.rl; omega)
  have q20 := rl_lerpV (a := C0) (b := D0) (t := S) (L := L) (by have := hC0.rl; omega) (by have := hD0.rl; omega) (by have := hS.rl; omega)
  have q21 := rl_lerpV (a := C1) (b := D1) (t := S) (L := L) (by have := hC1.rl; omega) (by have := hD1.rl; omega) (by have := hS.rl; omega)
  have r00 := rl_lerpV (a := (lerpV A0 B0 S)) (b := (lerpV B0 C0 S)) (t := S) (L := 4 * L + 2) q00 q10 (by have := hS.rl; omega)
  have r01 := rl_lerpV (a := (lerpV A1 B1 S)) (b := (lerpV B1 C1 S)) (t := S) (L := 4 * L + 2) q01 q11 (by have := hS.rl; omega)
  have r10 := rl_lerpV (a := (lerpV B0 C0 S)) (b := (lerpV C0 D0 S)) (t := S) (L := 4 * L + 2) q10 q20 (by have := hS.rl; omega)
  have r11 := rl_lerpV (a := (lerpV B1 C1 S)) (b := (lerpV C1 D1 S)) (t := S) (L := 4 * L + 2) q11 q21 (by have := hS.rl; omega)
  have s0 := rl_lerpV (a := (lerpV (lerpV A0 B0 S) (lerpV B0 C0 S) S)) (b := (lerpV (lerpV B0 C0 S) (lerpV C0 D0 S) S)) (t := S) (L := 4 * (4 * L + 2) + 2) r00 r10 (by have := hS.rl; omega)
  have s1 := rl_lerpV (a := (lerpV (lerpV A1 B1 S) (lerpV B1 C1 S) S)) (b := (lerpV (lerpV B1 C1 S) (lerpV C1 D1 S) S)) (t := S) (L := 4 * (4 * L + 2) + 2) r01 r11 (by have := hS.rl; omega)
  have H1 := Lib.hid (fun W (x : Ext w W) => mix_any a0 a1 b0 b1 t L A0 A1 B0 B1 S W (hA0.ext x) (hA1.ext x) (hB0.ext x) (hB1.ext x) (hS.ext x) h1 (by omega))
  have H2 := Lib.hid (fun W (x : Ext w W) => mix_any b0 b1 c0 c1 t L B0 B1 C0 C1 S W (hB0.ext x) (hB1.ext x) (hC0.ext x) (hC1.ext x) (hS.ext x) h1 (by omega))
  have H3 := Lib.hid (fun W (x : Ext w W) => mix_any c0 c1 d0 d1 t L C0 C1 D0 D1 S W (hC0.ext x) (hC1.ext x) (hD0.ext x) (hD1.ext x) (hS.ext x) h1 (by omega))
  have H4 := Lib.hid (fun W (x : Ext w W) (e0 e1 f0 f1 : RV) (k0 : e0.Is W (lerpV A0 B0 S)) (k1 : e1.Is W (lerpV A1 B1 S)) (k2 : f0.Is W (lerpV B0 C0 S)) (k3 : f1.Is W (lerpV B1 C1 S)) => mix_any e0 e1 f0 f1 t (4 * L + 2) _ _ _ _ S W (k0.isIn q00) (k1.isIn q01) (k2.isIn q10) (k3.isIn q11) ((hS.ext x).mono (by omega)) (by omega) (by omega))
  have H5 := Lib.hid (fun W (x : Ext w W) (e0 e1 f0 f1 : RV) (k0 : e0.Is W (lerpV B0 C0 S)) (k1 : e1.Is W (lerpV B1 C1 S)) (k2 : f0.Is W (lerpV C0 D0 S)) (k3 : f1.Is W (lerpV C1 D1 S)) => mix_any e0 e1 f0 f1 t (4 * L + 2) _ _ _ _ S W (k0.isIn q10) (k1.isIn q11) (k2.isIn q20) (k3.isIn q21) ((hS.ext x).mono (by omega)) (by omega) (by omega))
  have H6 := Lib.hid (fun W (x : Ext w W) (e0 e1 f0 f1 : RV) (k0 : e0.Is W (lerpV (lerpV A0 B0 S) (lerpV B0 C0 S) S)) (k1 : e1.Is W (lerpV (lerpV A1 B1 S) (lerpV B1 C1 S) S)) (k2 : f0.Is W (lerpV (lerpV B0 C0 S) (lerpV C0 D0 S) S)) (k3 : f1.Is W (lerpV (lerpV B1 C1 S) (lerpV C1 D1 S) S)) => mix_any e0 e1 f0 f1 t (4 * (4 * L + 2) + 2) _ _ _ _ S W (k0.isIn r00) (k1.isIn r01) (k2.isIn r10) (k3.isIn r11) ((hS.ext x).mono (by omega)) (by omega) (by omega))
  have HR1 := Lib.hid (fun W (x : Ext w W) => reduced_any a0 a1 L A0 A1 W (hA0.ext x) (hA1.ext x) (by omega))
  have HR2 := Lib.hid (fun W (g0 g1 : RV) (k0 : g0.Is W (lerpV (lerpV (lerpV A0 B0 S) (lerpV B0 C0 S) S) (lerpV (lerpV B0 C0 S) (lerpV C0 D0 S) S) S)) (k1 : g1.Is W (lerpV (lerpV (lerpV A1 B1 S) (lerpV B1 C1 S) S) (lerpV (lerpV B1 C1 S) (lerpV C1 D1 S) S) S)) => reduced_any g0 g1 (4 * (4 * (4 * L + 2) + 2) + 2) _ _ W (k0.isIn s0) (k1.isIn s1) (by omega))
  have HR3 := Lib.hid (fun W (x : Ext w W) => reduced_any d0 d1 L D0 D1 W (hD0.ext x) (hD1.ext x) (by omega))
  clear hA0 hA1 hB0 hB1 hC0 hC1 hD0 hD1 hS q00 q01 q10 q11 q20 q21 r00 r01 r10 r11 s0 s1
  go_enter Tryz.func11, Tryz.ntmps11
  go_wp2_with fail
  have bx0 : Blk ((((w.alloc (.cells #[.bool a0.n, .slice a0.p a0.l a0.c, .bool a0.m, .slice a0.p2 a0.l2 a0.c2, .bool a1.n, .slice a1.p a1.l a1.c, .bool a1.m, .slice a1.p2 a1.l2 a1.c2, .bool b0.n, .slice b0.p b0.l b0.c, .bool b0.m, .slice b0.p2 b0.l2 b0.c2, .bool b1.n, .slice b1.p b1.l b1.c, .bool b1.m, .slice b1.p2 b1.l2 b1.c2, .bool c0.n, .slice c0.p c0.l c0.c, .bool c0.m, .slice c0.p2 c0.l2 c0.c2, .bool c1.n, .slice c1.p c1.l c1.c, .bool c1.m, .slice c1.p2 c1.l2 c1.c2, .bool d0.n, .slice d0.p d0.l d0.c, .bool d0.m, .slice d0.p2 d0.l2 d0.c2, .bool d1.n, .slice d1.p d1.l d1.c, .bool d1.m, .slice d1.p2 d1.l2 d1.c2] 28)).alloc (.cells #[.bool t.n, .slice t.p t.l t.c, .bool t.m, .slice t.p2 t.l2 t.c2] 26)).alloc (.cells #[.bool RV.zero.n, .slice RV.zero.p RV.zero.l RV.zero.c, .bool RV.zero.m, .slice RV.zero.p2 RV.zero.l2 RV.zero.c2, .bool RV.zero.n, .slice RV.zero.p RV.zero.l RV.zero.c, .bool RV.zero.m, .slice RV.zero.p2 RV.zero.l2 RV.zero.c2, .bool RV.zero.n, .slice RV.zero.p RV.zero.l RV.zero.c, .bool RV.zero.m, .slice RV.zero.p2 RV.zero.l2 RV.zero.c2, .bool RV.zero.n, .slice RV.zero.p RV.zero.l RV.zero.c, .bool RV.zero.m, .slice RV.zero.p2 RV.zero.l2 RV.zero.c2, .bool RV.zero.n, .slice RV.zero.p RV.zero.l RV.zero.c, .bool RV.zero.m, .slice RV.zero.p2 RV.zero.l2 RV.zero.c2, .bool RV.zero.n, .slice RV.zero.p RV.zero.l RV.zero.c, .bool RV.zero.m, .slice RV.zero.p2 RV.zero.l2 RV.zero.c2, .bool RV.zero.n, .slice RV.zero.p RV.zero.l RV.zero.c, .bool RV.zero.m, .slice RV.zero.p2 RV.zero.l2 RV.zero.c2, .bool RV.zero.n, .slice RV.zero.p RV.zero.l RV.zero.c, .bool RV.zero.m, .slice RV.zero.p2 RV.zero.l2 RV.zero.c2] 28)).alloc (.cells #[.bool RV.zero.n, .slice RV.zero.p RV.zero.l RV.zero.c, .bool RV.zero.m, .slice RV.zero.p2 RV.zero.l2 RV.zero.c2, .bool RV.zero.n, .slice RV.zero.p RV.zero.l RV.zero.c, .bool RV.zero.m, .slice RV.zero.p2 RV.zero.l2 RV.zero.c2, .bool RV.zero.n, .slice RV.zero.p RV.zero.l RV.zero.c, .bool RV.zero.m, .slice RV.zero.p2 RV.zero.l2 RV.zero.c2, .bool RV.zero.n, .slice RV.zero.p RV.zero.l RV.zero.c, .bool RV.zero.m, .slice RV.zero.p2 RV.zero.l2 RV.zero.c2, .bool RV.zero.n, .slice RV.zero.p RV.zero.l RV.zero.c, .bool RV.zero.m, .slice RV.zero.p2 RV.zero.l2 RV.zero.c2, .bool RV.zero.n, .slice RV.zero.p RV.zero.l RV.zero.c, .bool RV.zero.m, .slice RV.zero.p2 RV.zero.l2 RV.zero.c2, .bool RV.zero.n, .slice RV.zero.p RV.zero.l RV.zero.c, .bool RV.zero.m, .slice RV.zero.p2 RV.zero.l2 RV.zero.c2, .bool RV.zero.n, .slice RV.zero.p RV.zero.l RV.zero.c, .bool RV.zero.m, .slice RV.zero.p2 RV.zero.l2 RV.zero.c2] 28)) (w.heap.size) 28 #[.bool a0.n, .slice a0.p a0.l a0.c, .bool a0.m, .slice a0.p2 a0.l2 a0.c2, .bool a1.n, .slice a1.p a1.l a1.c, .bool a1.m, .slice a1.p2 a1.l2 a1.c2, .bool b0.n, .slice b0.p b0.l b0.c, .bool b0.m, .slice b0.p2 b0.l2 b0.c2, .bool b1.n, .slice b1.p b1.l b1.c, .bool b1.m, .slice b1.p2 b1.l2 b1.c2, .bool c0.n, .slice c0.p c0.l c0.c, .bool c0.m, .slice c0.p2 c0.l2 c0.c2, .bool c1.n, .slice c1.p c1.l c1.c, .bool c1.m, .slice c1.p2 c1.l2 c1.c2, .bool d0.n, .slice d0.p d0.l d0.c, .bool d0.m, .slice d0.p2 d0.l2 d0.c2, .bool d1.n, .slice d1.p d1.l d1.c, .bool d1.m, .slice d1.p2 d1.l2 d1.c2] := Blk.ext (Blk.new_at w _ (by simp) _ _) ((((Ext.refl _).alloc _).alloc _).alloc _)
  have bx1 : Blk ((((w.alloc (.cells #[.bool a0.n, .slice a0.p a0.l a0.c, .bool a0.m, .slice a0.p2 a0.l2 a0.c2, .bool a1.n, .slice a1.p a1.l a1.c, .bool a1.m, .slice a1.p2 a1.l2 a1.c2, .bool b0.n, .slice b0.p b0.l b0.c, .bool b0.m, .slice b0.p2 b0.l2 b0.c2, .bool b1.n, .slice b1.p b1.l b1.c, .bool b1.m, .slice b1.p2 b1.l2 b1.c2, .bool c0.n, .slice c0.p c0.l c0.c, .bool c0.m, .slice c0.p2 c0.l2 c0.c2, .bool c1.n, .slice c1.p c1.l c1.c, .bool c1.m, .slice c1.p2 c1.l2 c1.c2, .bool d0.n, .slice d0.p d0.l d0.c, .bool d0.m, .slice d0.p2 d0.l2 d0.c2, .bool d1.n, .slice d1.p d1.l d1.c, .bool d1.m, .slice d1.p2 d1.l2 d1.c2] 28)).alloc (.cells #[.bool t.n, .slice t.p t.l t.c, .bool t.m, .slice t.p2 t.l2 t.c2] 26)).alloc (.cells #[.bool RV.zero.n, .slice RV.zero.p RV.zero.l RV.zero.c, .bool RV.zero.m, .slice RV.zero.p2 RV.zero.l2 RV.zero.c2, .bool RV.zero.n, .slice RV.zero.p RV.zero.l RV.zero.c, .bool RV.zero.m, .slice RV.zero.p2 RV.zero.l2 RV.zero.c2, .bool RV.zero.n, .slice RV.zero.p RV.zero.l RV.zero.c, .bool RV.zero.m, .slice RV.zero.p2 RV.zero.l2 RV.zero.c2, .bool RV.zero.n, .slice RV.zero.p RV.zero.l RV.zero.c, .bool RV.zero.m, .slice RV.zero.p2 RV.zero.l2 RV.zero.c2, .bool RV.zero.n, .slice RV.zero.p RV.zero.l RV.zero.c, .bool RV.zero.m, .slice RV.zero.p2 RV.zero.l2 RV.zero.c2, .bool RV.zero.n, .slice RV.zero.p RV.zero.l RV.zero.c, .bool RV.zero.m, .slice RV.zero.p2 RV.zero.l2 RV.zero.c2, .bool RV.zero.n, .slice RV.zero.p RV.zero.l RV.zero.c, .bool RV.zero.m, .slice RV.zero.p2 RV.zero.l2 RV.zero.c2, .bool RV.zero.n, .slice RV.zero.p RV.zero.l RV.zero.c, .bool RV.zero.m, .slice RV.zero.p2 RV.zero.l2 RV.zero.c2] 28)).alloc (.cells #[.bool RV.zero.n, .slice RV.zero.p RV.zero.l RV.zero.c, .bool RV.zero.m, .slice RV.zero.p2 RV.zero.l2 RV.zero.c2, .bool RV.zero.n, .slice RV.zero.p RV.zero.l RV.zero.c, .bool RV.zero.m, .slice RV.zero.p2 RV.zero.l2 RV.zero.c2, .bool RV.zero.n, .slice RV.zero.p RV.zero.l RV.zero.c, .bool RV.zero.m, .slice RV.zero.p2 RV.zero.l2 RV.zero.c2, .bool RV.zero.n, .slice RV.zero.p RV.zero.l RV.zero.c, .bool RV.zero.m, .slice RV.zero.p2 RV.zero.l2 RV.zero.c2, .bool RV.zero.n, .slice RV.zero.p RV.zero.l RV.zero.c, .bool RV.zero.m, .slice RV.zero.p2 RV.zero.l2 RV.zero.c2, .bool RV.zero.n, .slice RV.zero.p RV.zero.l RV.zero.c, .bool RV.zero.m, .slice RV.zero.p2 RV.zero.l2 RV.zero.c2, .bool RV.zero.n, .slice RV.zero.p RV.zero.l RV.zero.c, .bool RV.zero.m, .slice RV.zero.p2 RV.zero.l2 RV.zero.c2, .bool RV.zero.n, .slice RV.zero.p RV.zero.l RV.zero.c, .bool RV.zero.m, .slice RV.zero.p2 RV.zero.l2 RV.zero.c2] 28)) (w.heap.size + 1) 26 #[.bool t.n, .slice t.p t.l t.c, .bool t.m, .slice t.p2 t.l2 t.c2] := Blk.ext (Blk.new_at (w.alloc (.cells #[.bool a0.n, .slice a0.p a0.l a0.c, .bool a0.m, .slice a0.p2 a0.l2 a0.c2, .bool a1.n, .slice a1.p a1.l a1.c, .bool a1.m, .slice a1.p2 a1.l2 a1.c2, .bool b0.n, .slice b0.p b0.l b0.c, .bool b0.m, .slice b0.p2 b0.l2 b0.c2, .bool b1.n, .slice b1.p b1.l b1.c, .bool b1.m, .slice b1.p2 b1.l2 b1.c2, .bool c0.n, .slice c0.p c0.l c0.c, .bool c0.m, .slice c0.p2 c0.l2 c0.c2, .bool c1.n, .slice c1.p c1.l c1.c, .bool c1.m, .slice c1.p2 c1.l2 c1.c2, .bool d0.n, .slice d0.p d0.l d0.c, .bool d0.m, .slice d0.p2 d0.l2 d0.c2, .bool d1.n, .slice d1.p d1.l d1.c, .bool d1.m, .slice d1.p2 d1.l2 d1.c2] 28)) _ (by simp) _ _) (((Ext.refl _).alloc _).alloc _)
  have bx2 : Blk ((((w.alloc (.cells #[.bool a0.n, .slice a0.p a0.l a0.c, .bool a0.m, .slice a0.p2 a0.l2 a0.c2, .bool a1.n, .slice a1.p a1.l a1.c, .bool a1.m, .slice a1.p2 a1.l2 a1.c2, .bool b0.n, .slice b0.p b0.l b0.c, .bool b0.m, .slice b0.p2 b0.l2 b0.c2, .bool b1.n, .slice b1.p b1.l b1.c, .bool b1.m, .slice b1.p2 b1.l2 b1.c2, .bool c0.n, .slice c0.p c0.l c0.c, .bool c0.m, .slice c0.p2 c0.l2 c0.c2, .bool c1.n, .slice c1.p c1.l c1.c, .bool c1.m, .slice c1.p2 c1.l2 c1.c2, .bool d0.n, .slice d0.p d0.l d0.c, .bool d0.m, .slice d0.p2 d0.l2 d0.c2, .bool d1.n, .slice d1.p d1.l d1.c, .bool d1.m, .slice d1.p2 d1.l2 d1.c2] 28)).alloc (.cells #[.bool t.n, .slice t.p t.l t.c, .bool t.m, .slice t.p2 t.l2 t.c2] 26)).alloc (.cells #[.bool RV.zero.n, .slice RV.zero.p RV.zero.l RV.zero.c, .bool RV.zero.m, .slice RV.zero.p2 RV.zero.l2 RV.zero.c2, .bool RV.zero.n, .slice RV.zero.p RV.zero.l RV.zero.c, .bool RV.zero.m, .slice RV.zero.p2 RV.zero.l2 RV.zero.c2, .bool RV.zero.n, .slice RV.zero.p RV.zero.l RV.zero.c, .bool RV.zero.m, .slice RV.zero.p2 RV.zero.l2 RV.zero.c2, .bool RV.zero.n, .slice RV.zero.p RV.zero.l RV.zero.c, .bool RV.zero.m, .slice RV.zero.p2 RV.zero.l2 RV.zero.c2, .bool RV.zero.n, .slice RV.zero.p RV.zero.l RV.zero.c, .bool RV.zero.m, .slice RV.zero.p2 RV.zero.l2 RV.zero.c2, .bool RV.zero.n, .slice RV.zero.p RV.zero.l RV.zero.c, .bool RV.zero.m, .slice RV.zero.p2 RV.zero.l2 RV.zero.c2, .bool RV.zero.n, .slice RV.zero.p RV.zero.l RV.zero.c, .bool RV.zero.m, .slice RV.zero.p2 RV.zero.l2 RV.zero.c2, .bool RV.zero.n, .slice RV.zero.p RV.zero.l RV.zero.c, .bool RV.zero.m, .slice RV.zero.p2 RV.zero.l2 RV.zero.c2] 28)).alloc (.cells #[.bool RV.zero.n, .slice RV.zero.p RV.zero.l RV.zero.c, .bool RV.zero.m, .slice RV.zero.p2 RV.zero.l2 RV.zero.c2, .bool RV.zero.n, .slice RV.zero.p RV.zero.l RV.zero.c, .bool RV.zero.m, .slice RV.zero.p2 RV.zero.l2 RV.zero.c2, .bool RV.zero.n, .slice RV.zero.p RV.zero.l RV.zero.c, .bool RV.zero.m, .slice RV.zero.p2 RV.zero.l2 RV.zero.c2, .bool RV.zero.n, .slice RV.zero.p RV.zero.l RV.zero.c, .bool RV.zero.m, .slice RV.zero.p2 RV.zero.l2 RV.zero.c2, .bool RV.zero.n, .slice RV.zero.p RV.zero.l RV.zero.c, .bool RV.zero.m, .slice RV.zero.p2 RV.zero.l2 RV.zero.c2, .bool RV.zero.n, .slice RV.zero.p RV.zero.l RV.zero.c, .bool RV.zero.m, .slice RV.zero.p2 RV.zero.l2 RV.zero.c2, .bool RV.zero.n, .slice RV.zero.p RV.zero.l RV.zero.c, .bool RV.zero.m, .slice RV.zero.p2 RV.zero.l2 RV.zero.c2, .bool RV.zero.n, .slice RV.zero.p RV.zero.l RV.zero.c, .bool RV.zero.m, .slice RV.zero.p2 RV.zero.l2 RV.zero.c2] 28)) (w.heap.size + 1 + 1) 28 #[.bool RV.zero.n, .slice RV.zero.p RV.zero.l RV.zero.c, .bool RV.zero.m, .slice RV.zero.p2 RV.zero.l2 RV.zero.c2, .bool RV.zero.n, .slice RV.zero.p RV.zero.l RV.zero.c, .bool RV.zero.m, .slice RV.zero.p2 RV.zero.l2 RV.zero.c2, .bool RV.zero.n, .slice RV.zero.p RV.zero.l RV.zero.c, .bool RV.zero.m, .slice RV.zero.p2 RV.zero.l2 RV.zero.c2, .bool RV.zero.n, .slice RV.zero.p RV.zero.l RV.zero.c, .bool RV.zero.m, .slice RV.zero.p2 RV.zero.l2 RV.zero.c2, .bool RV.zero.n, .slice RV.zero.p RV.zero.l RV.zero.c, .bool RV.zero.m, .slice RV.zero.p2 RV.zero.l2 RV.zero.c2, .bool RV.zero.n, .slice RV.zero.p RV.zero.l RV.zero.c, .bool RV.zero.m, .slice RV.zero.p2 RV.zero.l2 RV.zero.c2, .bool RV.zero.n, .slice RV.zero.p RV.zero.l RV.zero.c, .bool RV.zero.m, .slice RV.zero.p2 RV.zero.l2 RV.zero.c2, .bool RV.zero.n, .slice RV.zero.p RV.zero.l RV.zero.c, .bool RV.zero.m, .slice RV.zero.p2 RV.zero.l2 RV.zero.c2] := Blk.ext (Blk.new_at ((w.alloc (.cells #[.bool a0.n, .slice a0.p a0.l a0.c, .bool a0.m, .slice a0.p2 a0.l2 a0.c2, .bool a1.n, .slice a1.p a1.l a1.c, .bool a1.m, .slice a1.p2 a1.l2 a1.c2, .bool b0.n, .slice b0.p b0.l b0.c, .bool b0.m, .slice b0.p2 b0.l2 b0.c2, .bool b1.n, .slice b1.p b1.l b1.c, .bool b1.m, .slice b1.p2 b1.l2 b1.c2, .bool c0.n, .slice c0.p c0.l c0.c, .bool c0.m, .slice c0.p2 c0.l2 c0.c2, .bool c1.n, .slice c1.p c1.l c1.c, .bool c1.m, .slice c1.p2 c1.l2 c1.c2, .bool d0.n, .slice d0.p d0.l d0.c, .bool d0.m, .slice d0.p2 d0.l2 d0.c2, .bool d1.n, .slice d1.p d1.l d1.c, .bool d1.m, .slice d1.p2 d1.l2 d1.c2] 28)).alloc (.cells #[.bool t.n, .slice t.p t.l t.c, .bool t.m, .slice t.p2 t.l2 t.c2] 26)) _ (by simp) _ _) ((Ext.refl _).alloc _)
  have bx3 : Blk ((((w.alloc (.cells #[.bool a0.n, .slice a0.p a0.l a0.c, .bool a0.m, .slice a0.p2 a0.l2 a0.c2, .bool a1.n, .slice a1.p a1.l a1.c, .bool a1.m, .slice a1.p2 a1.l2 a1.c2, .bool b0.n, .slice b0.p b0.l b0.c, .bool b0.m, .slice b0.p2 b0.l2 b0.c2, .bool b1.n, .slice b1.p b1.l b1.c, .bool b1.m, .slice b1.p2 b1.l2 b1.c2, .bool c0.n, .slice c0.p c0.l c0.c, .bool c0.m, .slice c0.p2 c0.l2 c0.c2, .bool c1.n, .slice c1.p c1.l c1.c, .bool c1.m, .slice c1.p2 c1.l2 c1.c2, .bool d0.n, .slice d0.p d0.l d0.c, .bool d0.m, .slice d0.p2 d0.l2 d0.c2, .bool d1.n, .slice d1.p d1.l d1.c, .bool d1.m, .slice d1.p2 d1.l2 d1.c2] 28)).alloc (.cells #[.bool t.n, .slice t.p t.l t.c, .bool t.m, .slice t.p2 t.l2 t.c2] 26)).alloc (.cells #[.bool RV.zero.n, .slice RV.zero.p RV.zero.l RV.zero.c, .bool RV.zero.m, .slice RV.zero.p2 RV.zero.l2 RV.zero.c2, .bool RV.zero.n, .slice RV.zero.p RV.zero.l RV.zero.c, .bool RV.zero.m, .slice RV.zero.p2 RV.zero.l2 RV.zero.c2, .bool RV.zero.n, .slice RV.zero.p RV.zero.l RV.zero.c, .bool RV.zero.m, .slice RV.zero.p2 RV.zero.l2 RV.zero.c2, .bool RV.zero.n, .slice RV.zero.p RV.zero.l RV.zero.c, .bool RV.zero.m, .slice RV.zero.p2 RV.zero.l2 RV.zero.c2, .bool RV.zero.n, .slice RV.zero.p RV.zero.l RV.zero.c, .bool RV.zero.m, .slice RV.zero.p2 RV.zero.l2 RV.zero.c2, .bool RV.zero.n, .slice RV.zero.p RV.zero.l RV.zero.c, .bool RV.zero.m, .slice RV.zero.p2 RV.zero.l2 RV.zero.c2, .bool RV.zero.n, .slice RV.zero.p RV.zero.l RV.zero.c, .bool RV.zero.m, .slice RV.zero.p2 RV.zero.l2 RV.zero.c2, .bool RV.zero.n, .slice RV.zero.p RV.zero.l RV.zero.c, .bool RV.zero.m, .slice RV.zero.p2 RV.zero.l2 RV.zero.c2] 28)).alloc (.cells #[.bool RV.zero.n, .slice RV.zero.p RV.zero.l RV.zero.c, .bool RV.zero.m, .slice RV.zero.p2 RV.zero.l2 RV.zero.c2, .bool RV.zero.n, .slice RV.zero.p RV.zero.l RV.zero.c, .bool RV.zero.m, .slice RV.zero.p2 RV.zero.l2 RV.zero.c2, .bool RV.zero.n, .slice RV.zero.p RV.zero.l RV.zero.c, .bool RV.zero.m, .slice RV.zero.p2 RV.zero.l2 RV.zero.c2, .bool RV.zero.n, .slice RV.zero.p RV.zero.l RV.zero.c, .bool RV.zero.m, .slice RV.zero.p2 RV.zero.l2 RV.zero.c2, .bool RV.zero.n, .slice RV.zero.p RV.zero.l RV.zero.c, .bool RV.zero.m, .slice RV.zero.p2 RV.zero.l2 RV.zero.c2, .bool RV.zero.n, .slice RV.zero.p RV.zero.l RV.zero.c, .bool RV.zero.m, .slice RV.zero.p2 RV.zero.l2 RV.zero.c2, .bool RV.zero.n, .slice RV.zero.p RV.zero.l RV.zero.c, .bool RV.zero.m, .slice RV.zero.p2 RV.zero.l2 RV.zero.c2, .bool RV.zero.n, .slice RV.zero.p RV.zero.l RV.zero.c, .bool RV.zero.m, .slice RV.zero.p2 RV.zero.l2 RV.zero.c2] 28)) (w.heap.size + 1 + 1 + 1) 28 #[.bool RV.zero.n, .slice RV.zero.p RV.zero.l RV.zero.c, .bool RV.zero.m, .slice RV.zero.p2 RV.zero.l2 RV.zero.c2, .bool RV.zero.n, .slice RV.zero.p RV.zero.l RV.zero.c, .bool RV.zero.m, .slice RV.zero.p2 RV.zero.l2 RV.zero.c2, .bool RV.zero.n, .slice RV.zero.p RV.zero.l RV.zero.c, .bool RV.zero.m, .slice RV.zero.p2 RV.zero.l2 RV.zero.c2, .bool RV.zero.n, .slice RV.zero.p RV.zero.l RV.zero.c, .bool RV.zero.m, .slice RV.zero.p2 RV.zero.l2 RV.zero.c2, .bool RV.zero.n, .slice RV.zero.p RV.zero.l RV.zero.c, .bool RV.zero.m, .slice RV.zero.p2 RV.zero.l2 RV.zero.c2, .bool RV.zero.n, .slice RV.zero.p RV.zero.l RV.zero.c, .bool RV.zero.m, .slice RV.zero.p2 RV.zero.l2 RV.zero.c2, .bool RV.zero.n, .slice RV.zero.p RV.zero.l RV.zero.c, .bool RV.zero.m, .slice RV.zero.p2 RV.zero.l2 RV.zero.c2, .bool RV.zero.n, .slice RV.zero.p RV.zero.l RV.zero.c, .bool RV.zero.m, .slice RV.zero.p2 RV.zero.l2 RV.zero.c2] := Blk.ext (Blk.new_at (((w.alloc (.cells #[.bool a0.n, .slice a0.p a0.l a0.c, .bool a0.m, .slice a0.p2 a0.l2 a0.c2, .bool a1.n, .slice a1.p a1.l a1.c, .bool a1.m, .slice a1.p2 a1.l2 a1.c2, .bool b0.n, .slice b0.p b0.l b0.c, .bool b0.m, .slice b0.p2 b0.l2 b0.c2, .bool b1.n, .slice b1.p b1.l b1.c, .bool b1.m, .slice b1.p2 b1.l2 b1.c2, .bool c0.n, .slice c0.p c0.l c0.c, .bool c0.m, .slice c0.p2 c0.l2 c0.c2, .bool c1.n, .slice c1.p c1.l c1.c, .bool c1.m, .slice c1.p2 c1.l2 c1.c2, .bool d0.n, .slice d0.p d0.l d0.c, .bool d0.m, .slice d0.p2 d0.l2 d0.c2, .bool d1.n, .slice d1.p d1.l d1.c, .bool d1.m, .slice d1.p2 d1.l2 d1.c2] 28)).alloc (.cells #[.bool t.n, .slice t.p t.l t.c, .bool t.m, .slice t.p2 t.l2 t.c2] 26)).alloc (.cells #[.bool RV.zero.n, .slice RV.zero.p RV.zero.l RV.zero.c, .bool RV.zero.m, .slice RV.zero.p2 RV.zero.l2 RV.zero.c2, .bool RV.zero.n, .slice RV.zero.p RV.zero.l RV.zero.c, .bool RV.zero.m, .slice RV.zero.p2 RV.zero.l2 RV.zero.c2, .bool RV.zero.n, .slice RV.zero.p RV.zero.l RV.zero.c, .bool RV.zero.m, .slice RV.zero.p2 RV.zero.l2 RV.zero.c2, .bool RV.zero.n, .slice RV.zero.p RV.zero.l RV.zero.c, .bool RV.zero.m, .slice RV.zero.p2 RV.zero.l2 RV.zero.c2, .bool RV.zero.n, .slice RV.zero.p RV.zero.l RV.zero.c, .bool RV.zero.m, .slice RV.zero.p2 RV.zero.l2 RV.zero.c2, .bool RV.zero.n, .slice RV.zero.p RV.zero.l RV.zero.c, .bool RV.zero.m, .slice RV.zero.p2 RV.zero.l2 RV.zero.c2, .bool RV.zero.n, .slice RV.zero.p RV.zero.l RV.zero.c, .bool RV.zero.m, .slice RV.zero.p2 RV.zero.l2 RV.zero.c2, .bool RV.zero.n, .slice RV.zero.p RV.zero.l RV.zero.c, .bool RV.zero.m, .slice RV.zero.p2 RV.zero.l2 RV.zero.c2] 28)) _ (by simp) _ _) (Ext.refl _)
  have hE : Ext w ((((w.alloc (.cells #[.bool a0.n, .slice a0.p a0.l a0.c, .bool a0.m, .slice a0.p2 a0.l2 a0.c2, .bool a1.n, .slice a1.p a1.l a1.c, .bool a1.m, .slice a1.p2 a1.l2 a1.c2, .bool b0.n, .slice b0.p b0.l b0.c, .bool b0.m, .slice b0.p2 b0.l2 b0.c2, .bool b1.n, .slice b1.p b1.l b1.c, .bool b1.m, .slice b1.p2 b1.l2 b1.c2, .bool c0.n, .slice c0.p c0.l c0.c, .bool c0.m, .slice c0.p2 c0.l2 c0.c2, .bool c1.n, .slice c1.p c1.l c1.c, .bool c1.m, .slice c1.p2 c1.l2 c1.c2, .bool d0.n, .slice d0.p d0.l d0.c, .bool d0.m, .slice d0.p2 d0.l2 d0.c2, .bool d1.n, .slice d1.p d1.l d1.c, .bool d1.m, .slice d1.p2 d1.l2 d1.c2] 28)).alloc (.cells #[.bool t.n, .slice t.p t.l t.c, .bool t.m, .slice t.p2 t.l2 t.c2] 26)).alloc (.cells #[.bool RV.zero.n, .slice RV.zero.p RV.zero.l RV.zero.c, .bool RV.zero.m, .slice RV.zero.p2 RV.zero.l2 RV.zero.c2, .bool RV.zero.n, .slice RV.zero.p RV.zero.l RV.zero.c, .bool RV.zero.m, .slice RV.zero.p2 RV.zero.l2 RV.zero.c2, .bool RV.zero.n, .slice RV.zero.p RV.zero.l RV.zero.c, .bool RV.zero.m, .slice RV.zero.p2 RV.zero.l2 RV.zero.c2, .bool RV.zero.n, .slice RV.zero.p RV.zero.l RV.zero.c, .bool RV.zero.m, .slice RV.zero.p2 RV.zero.l2 RV.zero.c2, .bool RV.zero.n, .slice RV.zero.p RV.zero.l RV.zero.c, .bool RV.zero.m, .slice RV.zero.p2 RV.zero.l2 RV.zero.c2, .bool RV.zero.n, .slice RV.zero.p RV.zero.l RV.zero.c, .bool RV.zero.m, .slice RV.zero.p2 RV.zero.l2 RV.zero.c2, .bool RV.zero.n, .slice RV.zero.p RV.zero.l RV.zero.c, .bool RV.zero.m, .slice RV.zero.p2 RV.zero.l2 RV.zero.c2, .bool RV.zero.n, .slice RV.zero.p RV.zero.l RV.zero.c, .bool RV.zero.m, .slice RV.zero.p2 RV.zero.l2 RV.zero.c2] 28)).alloc (.cells #[.bool RV.zero.n, .slice RV.zero.p RV.zero.l RV.zero.c, .bool RV.zero.m, .slice RV.zero.p2 RV.zero.l2 RV.zero.c2, .bool RV.zero.n, .slice RV.zero.p RV.zero.l RV.zero.c, .bool RV.zero.m, .slice RV.zero.p2 RV.zero.l2 RV.zero.c2, .bool RV.zero.n, .slice RV.zero.p RV.zero.l RV.zero.c, .bool RV.zero.m, .slice RV.zero.p2 RV.zero.l2 RV.zero.c2, .bool RV.zero.n, .slice RV.zero.p RV.zero.l RV.zero.c, .bool RV.zero.m, .slice RV.zero.p2 RV.zero.l2 RV.zero.c2, .bool RV.zero.n, .slice RV.zero.p RV.zero.l RV.zero.c, .bool RV.zero.m, .slice RV.zero.p2 RV.zero.l2 RV.zero.c2, .bool RV.zero.n, .slice RV.zero.p RV.zero.l RV.zero.c, .bool RV.zero.m, .slice RV.zero.p2 RV.zero.l2 RV.zero.c2, .bool RV.zero.n, .slice RV.zero.p RV.zero.l RV.zero.c, .bool RV.zero.m, .slice RV.zero.p2 RV.zero.l2 RV.zero.c2, .bool RV.zero.n, .slice RV.zero.p RV.zero.l RV.zero.c, .bool RV.zero.m, .slice RV.zero.p2 RV.zero.l2 RV.zero.c2] 28)) := (((((Ext.refl _).alloc _).alloc _).alloc _).alloc _)
  have hz : ((((w.alloc (.cells #[.bool a0.n, .slice a0.p a0.l a0.c, .bool a0.m, .slice a0.p2 a0.l2 a0.c2, .bool a1.n, .slice a1.p a1.l a1.c, .bool a1.m, .slice a1.p2 a1.l2 a1.c2, .bool b0.n, .slice b0.p b0.l b0.c, .bool b0.m, .slice b0.p2 b0.l2 b0.c2, .bool b1.n, .slice b1.p b1.l b1.c, .bool b1.m, .slice b1.p2 b1.l2 b1.c2, .bool c0.n, .slice c0.p c0.l c0.c, .bool c0.m, .slice c0.p2 c0.l2 c0.c2, .bool c1.n, .slice c1.p c1.l c1.c, .bool c1.m, .slice c1.p2 c1.l2 c1.c2, .bool d0.n, .slice d0.p d0.l d0.c, .bool d0.m, .slice d0.p2 d0.l2 d0.c2, .bool d1.n, .slice d1.p d1.l d1.c, .bool d1.m, .slice d1.p2 d1.l2 d1.c2] 28)).alloc (.cells #[.bool t.n, .slice t.p t.l t.c, .bool t.m, .slice t.p2 t.l2 t.c2] 26)).alloc (.cells #[.bool RV.zero.n, .slice RV.zero.p RV.zero.l RV.zero.c, .bool RV.zero.m, .slice RV.zero.p2 RV.zero.l2 RV.zero.c2, .bool RV.zero.n, .slice RV.zero.p RV.zero.l RV.zero.c, .bool RV.zero.m, .slice RV.zero.p2 RV.zero.l2 RV.zero.c2, .bool RV.zero.n, .slice RV.zero.p RV.zero.l RV.zero.c, .bool RV.zero.m, .slice RV.zero.p2 RV.zero.l2 RV.zero.c2, .bool RV.zero.n, .slice RV.zero.p RV.zero.l RV.zero.c, .bool RV.zero.m, .slice RV.zero.p2 RV.zero.l2 RV.zero.c2, .bool RV.zero.n, .slice RV.zero.p RV.zero.l RV.zero.c, .bool RV.zero.m, .slice RV.zero.p2 RV.zero.l2 RV.zero.c2, .bool RV.zero.n, .slice RV.zero.p RV.zero.l RV.zero.c, .bool RV.zero.m, .slice RV.zero.p2 RV.zero.l2 RV.zero.c2, .bool RV.zero.n, .slice RV.zero.p RV.zero.l RV.zero.c, .bool RV.zero.m, .slice RV.zero.p2 RV.zero.l2 RV.zero.c2, .bool RV.zero.n, .slice RV.zero.p RV.zero.l RV.zero.c, .bool RV.zero.m, .slice RV.zero.p2 RV.zero.l2 RV.zero.c2] 28)).alloc (.cells #[.bool RV.zero.n, .slice RV.zero.p RV.zero.l RV.zero.c, .bool RV.zero.m, .slice RV.zero.p2 RV.zero.l2 RV.zero.c2, .bool RV.zero.n, .slice RV.zero.p RV.zero.l RV.zero.c, .bool RV.zero.m, .slice RV.zero.p2 RV.zero.l2 RV.zero.c2, .bool RV.zero.n, .slice RV.zero.p RV.zero.l RV.zero.c, .bool RV.zero.m, .slice RV.zero.p2 RV.zero.l2 RV.zero.c2, .bool RV.zero.n, .slice RV.zero.p RV.zero.l RV.zero.c, .bool RV.zero.m, .slice RV.zero.p2 RV.zero.l2 RV.zero.c2, .bool RV.zero.n, .slice RV.zero.p RV.zero.l RV.zero.c, .bool RV.zero.m, .slice RV.zero.p2 RV.zero.l2 RV.zero.c2, .bool RV.zero.n, .slice RV.zero.p RV.zero.l RV.zero.c, .bool RV.zero.m, .slice RV.zero.p2 RV.zero.l2 RV.zero.c2, .bool RV.zero.n, .slice RV.zero.p RV.zero.l RV.zero.c, .bool RV.zero.m, .slice RV.zero.p2 RV.zero.l2 RV.zero.c2, .bool RV.zero.n, .slice RV.zero.p RV.zero.l RV.zero.c, .bool RV.zero.m, .slice RV.zero.p2 RV.zero.l2 RV.zero.c2] 28)).heap.size = w.heap.size + 1 + 1 + 1 + 1 := by simp
  obtain ⟨wa, hwa⟩ : ∃ wa, wa = ((((w.alloc (.cells #[.bool a0.n, .slice a0.p a0.l a0.c, .bool a0.m, .slice a0.p2 a0.l2 a0.c2, .bool a1.n, .slice a1.p a1.l a1.c, .bool a1.m, .slice a1.p2 a1.l2 a1.c2, .bool b0.n, .slice b0.p b0.l b0.c, .bool b0.m, .slice b0.p2 b0.l2 b0.c2, .bool b1.n, .slice b1.p b1.l b1.c, .bool b1.m, .slice b1.p2 b1.l2 b1.c2, .bool c0.n, .slice c0.p c0.l c0.c, .bool c0.m, .slice c0.p2 c0.l2 c0.c2, .bool c1.n, .slice c1.p c1.l c1.c, .bool c1.m, .slice c1.p2 c1.l2 c1.c2, .bool d0.n, .slice d0.p d0.l d0.c, .bool d0.m, .slice d0.p2 d0.l2 d0.c2, .bool d1.n, .slice d1.p d1.l d1.c, .bool d1.m, .slice d1.p2 d1.l2 d1.c2] 28)).alloc (.cells #[.bool t.n, .slice t.p t.l t.c, .bool t.m, .slice t.p2 t.l2 t.c2] 26)).alloc (.cells #[.bool RV.zero.n, .slice RV.zero.p RV.zero.l RV.zero.c, .bool RV.zero.m, .slice RV.zero.p2 RV.zero.l2 RV.zero.c2, .bool RV.zero.n, .slice RV.zero.p RV.zero.l RV.zero.c, .bool RV.zero.m, .slice RV.zero.p2 RV.zero.l2 RV.zero.c2, .bool RV.zero.n, .slice RV.zero.p RV.zero.l RV.zero.c, .bool RV.zero.m, .slice RV.zero.p2 RV.zero.l2 RV.zero.c2, .bool RV.zero.n, .slice RV.zero.p RV.zero.l RV.zero.c, .bool RV.zero.m, .slice RV.zero.p2 RV.zero.l2 RV.zero.c2, .bool RV.zero.n, .slice RV.zero.p RV.zero.l RV.zero.c, .bool RV.zero.m, .slice RV.zero.p2 RV.zero.l2 RV.zero.c2, .bool RV.zero.n, .slice RV.zero.p RV.zero.l RV.zero.c, .bool RV.zero.m, .slice RV.zero.p2 RV.zero.l2 RV.zero.c2, .bool RV.zero.n, .slice RV.zero.p RV.zero.l RV.zero.c, .bool RV.zero.m, .slice RV.zero.p2 RV.zero.l2 RV.zero.c2, .bool RV.zero.n, .slice RV.zero.p RV.zero.l RV.zero.c, .bool RV.zero.m, .slice RV.zero.p2 RV.zero.l2 RV.zero.c2] 28)).alloc (.cells #[.bool RV.zero.n, .slice RV.zero.p RV.zero.l RV.zero.c, .bool RV.zero.m, .slice RV.zero.p2 RV.zero.l2 RV.zero.c2, .bool RV.zero.n, .slice RV.zero.p RV.zero.l RV.zero.c, .bool RV.zero.m, .slice RV.zero.p2 RV.zero.l2 RV.zero.c2, .bool RV.zero.n, .slice RV.zero.p RV.zero.l RV.zero.c, .bool RV.zero.m, .slice RV.zero.p2 RV.zero.l2 RV.zero.c2, .bool RV.zero.n, .slice RV.zero.p RV.zero.l RV.zero.c, .bool RV.zero.m, .slice RV.zero.p2 RV.zero.l2 RV.zero.c2, .bool RV.zero.n, .slice RV.zero.p RV.zero.l RV.zero.c, .bool RV.zero.m, .slice RV.zero.p2 RV.zero.l2 RV.zero.c2, .bool RV.zero.n, .slice RV.zero.p RV.zero.l RV.zero.c, .bool RV.zero.m, .slice RV.zero.p2 RV.zero.l2 RV.zero.c2, .bool RV.zero.n, .slice RV.zero.p RV.zero.l RV.zero.c, .bool RV.zero.m, .slice RV.zero.p2 RV.zero.l2 RV.zero.c2, .bool RV.zero.n, .slice RV.zero.p RV.zero.l RV.zero.c, .bool RV.zero.m, .slice RV.zero.p2 RV.zero.l2 RV.zero.c2] 28)) := ⟨_, rfl⟩
  have hwa2 := hwa
  simp only [RV.zero] at hwa2
  rw [← hwa] at hE hz bx0 bx1 bx2 bx3
  rw [← hwa2]
  have HE := Lib.hid hE
  clear hwa hwa2 hE
  have HB := Lib.hid (And.intro bx0 (And.intro bx1 (And.intro bx2 bx3)))
  clear bx0 bx1 bx2 bx3
  have hlt : w.heap.size < w.heap.size + 1 + 1 ∧ w.heap.size + 1 < w.heap.size + 1 + 1 ∧ w.heap.size + 1 + 1 < w.heap.size + 1 + 1 + 1 ∧ w.heap.size + 1 + 1 + 1 < w.heap.size + 1 + 1 + 1 + 1 := by omega
  generalize hR2 : w.heap.size + 1 + 1 + 1 = R2 at *
  generalize hR : w.heap.size + 1 + 1 = R at *
  generalize hB : w.heap.size + 1 = BB at *
  generalize hA : w.heap.size = BA at *
  have HLT := Lib.hid hlt
  have HZ := Lib.hid hz
  have HAA := Lib.hid hA
  clear hR2 hR hB hA hlt hz
  have gl : ∀ x, Ext wa x → x.cell? ⟨BA, 0, none⟩ = some (.bool a0.n) ∧ x.cell? ⟨BA, 1, none⟩ = some (.slice a0.p a0.l a0.c) ∧ x.cell? ⟨BA, 2, none⟩ = some (.bool a0.m) ∧ x.cell? ⟨BA, 3, none⟩ = some (.slice a0.p2 a0.l2 a0.c2) ∧ x.cell? ⟨BA, 4, none⟩ = some (.bool a1.n) ∧ x.cell? ⟨BA, 5, none⟩ = some (.slice a1.p a1.l a1.c) ∧ x.cell? ⟨BA, 6, none⟩ = some (.bool a1.m) ∧ x.cell? ⟨BA, 7, none⟩ = some (.slice a1.p2 a1.l2 a1.c2) ∧ x.cell? ⟨BA, 8, none⟩ = some (.bool b0.n) ∧ x.cell? ⟨BA, 9, none⟩ = some (.slice b0.p b0.l b0.c) ∧ x.cell? ⟨BA, 10, none⟩ = some (.bool b0.m) ∧ x.cell? ⟨BA, 11, none⟩ = some (.slice b0.p2 b0.l2 b0.c2) ∧ x.cell? ⟨BA, 12, none⟩ = some (.bool b1.n) ∧ x.cell? ⟨BA, 13, none⟩ = some (.slice b1.p b1.l b1.c) ∧ x.cell? ⟨BA, 14, none⟩ = some (.bool b1.m) ∧ x.cell? ⟨BA, 15, none⟩ = some (.slice b1.p2 b1.l2 b1.c2) ∧ x.cell? ⟨BA, 16, none⟩ = some (.bool c0.n) ∧ x.cell? ⟨BA, 17, none⟩ = some (.slice c0.p c0.l c0.c) ∧ x.cell? ⟨BA, 18, none⟩ = some (.bool c0.m) ∧ x.cell? ⟨BA, 19, none⟩ = some (.slice c0.p2 c0.l2 c0.c2) ∧ x.cell? ⟨BA, 20, none⟩ = some (.bool c1.n) ∧ x.cell? ⟨BA, 21, none⟩ = some (.slice c1.p c1.l c1.c) ∧ x.cell? ⟨BA, 22, none⟩ = some (.bool c1.m) ∧ x.cell? ⟨BA, 23, none⟩ = some (.slice c1.p2 c1.l2 c1.c2) ∧ x.cell? ⟨BA, 24, none⟩ = some (.bool d0.n) ∧ x.cell? ⟨BA, 25, none⟩ = some (.slice d0.p d0.l d0.c) ∧ x.cell? ⟨BA, 26, none⟩ = some (.bool d0.m) ∧ x.cell? ⟨BA, 27, none⟩ = some (.slice d0.p2 d0.l2 d0.c2) ∧ x.cell? ⟨BA, 28, none⟩ = some (.bool d1.n) ∧ x.cell? ⟨BA, 29, none⟩ = some (.slice d1.p d1.l d1.c) ∧ x.cell? ⟨BA, 30, none⟩ = some (.bool d1.m) ∧ x.cell? ⟨BA, 31, none⟩ = some (.slice d1.p2 d1.l2 d1.c2) ∧ x.cell? ⟨BB, 0, none⟩ = some (.bool t.n) ∧ x.cell? ⟨BB, 1, none⟩ = some (.slice t.p t.l t.c) ∧ x.cell? ⟨BB, 2, none⟩ = some (.bool t.m) ∧ x.cell? ⟨BB, 3, none⟩ = some (.slice t.p2 t.l2 t.c2) := fun x h => by
    have k0 := HB.out.1.ext h
    have k1 := HB.out.2.1.ext h
    exact ⟨k0.cell 0, k0.cell 1, k0.cell 2, k0.cell 3, k0.cell 4, k0.cell 5, k0.cell 6, k0.cell 7, k0.cell 8, k0.cell 9, k0.cell 10, k0.cell 11, k0.cell 12, k0.cell 13, k0.cell 14, k0.cell 15, k0.cell 16, k0.cell 17, k0.cell 18, k0.cell 19, k0.cell 20, k0.cell 21, k0.cell 22, k0.cell 23, k0.cell 24, k0.cell 25, k0.cell 26, k0.cell 27, k0.cell 28, k0.cell 29, k0.cell 30, k0.cell 31, k1.cell 0, k1.cell 1, k1.cell 2, k1.cell 3⟩
  refine wp_region_held_drew (S := fun x => Ext wa x) (by kernel_rfl) (Ext.refl _).drew (fun hHt => ?_)
  refine wpAnyH_take_l (i := 0) (v := ?vt_0) rfl (by kernel_rfl) (by kernel_rfl) (by kernel_rfl) (fun _ _ _ h => h) (Or.inl ⟨by rfl, ?yt_0⟩) (by assumption) ?rt_0
  case yt_0 => (intro w hSw; (try dsimp only at hSw); go_simp <;> with_reducible rfl)
  (try simp only [Act.put, List.setIfInBounds_toArray, List.set_cons_zero, List.set_cons_succ])
  refine wpAnyH_take_l (i := 1) (v := ?vt_1) rfl (by kernel_rfl) (by kernel_rfl) (by kernel_rfl) (fun _ _ _ h => h) (Or.inl ⟨by rfl, ?yt_1⟩) (by assumption) ?rt_1
  case yt_1 => (intro w hSw; (try dsimp only at hSw); go_simp <;> with_reducible rfl)
  (try simp only [Act.put, List.setIfInBounds_toArray, List.set_cons_zero, List.set_cons_succ])
  refine wpAnyH_take_l (i := 2) (v := ?vt_2) rfl (by kernel_rfl) (by kernel_rfl) (by kernel_rfl) (fun _ _ _ h => h) (Or.inl ⟨by rfl, ?yt_2⟩) (by assumption) ?rt_2
  case yt_2 => (intro w hSw; (try dsimp only at hSw); go_simp <;> with_reducible rfl)
  (try simp only [Act.put, List.setIfInBounds_toArray, List.set_cons_zero, List.set_cons_succ])
  refine wpAnyH_take_l (i := 3) (v := ?vt_3) rfl (by kernel_rfl) (by kernel_rfl) (by kernel_rfl) (fun _ _ _ h => h) (Or.inl ⟨by rfl, ?yt_3⟩) (by assumption) ?rt_3
  case yt_3 => (intro w hSw; (try dsimp only at hSw); go_simp <;> with_reducible rfl)
  (try simp only [Act.put, List.setIfInBounds_toArray, List.set_cons_zero, List.set_cons_succ])
  refine wpAnyH_take_l (i := 4) (v := ?vt_4) rfl (by kernel_rfl) (by kernel_rfl) (by kernel_rfl) (fun _ _ _ h => h) (Or.inl ⟨by rfl, ?yt_4⟩) (by assumption) ?rt_4
  case yt_4 => (intro w hSw; (try dsimp only at hSw); go_simp <;> with_reducible rfl)
  (try simp only [Act.put, List.setIfInBounds_toArray, List.set_cons_zero, List.set_cons_succ])
  refine wpAnyH_take_l (i := 6) (v := ?vt_6) rfl (by kernel_rfl) (by kernel_rfl) (by kernel_rfl) (fun _ _ _ h => h) (Or.inl ⟨by rfl, ?yt_6⟩) (by assumption) ?rt_6
  case yt_6 => (intro w hSw; (try dsimp only at hSw); go_simp <;> with_reducible rfl)
  (try simp only [Act.put, List.setIfInBounds_toArray, List.set_cons_zero, List.set_cons_succ])
  refine wpAnyH_take_l (i := 7) (v := ?vt_7) rfl (by kernel_rfl) (by kernel_rfl) (by kernel_rfl) (fun _ _ _ h => h) (Or.inl ⟨by rfl, ?yt_7⟩) (by assumption) ?rt_7
  case yt_7 => (intro w hSw; (try dsimp only at hSw); go_simp <;> with_reducible rfl)
  (try simp only [Act.put, List.setIfInBounds_toArray, List.set_cons_zero, List.set_cons_succ])
  refine wpAnyH_take_l (i := 8) (v := ?vt_8) rfl (by kernel_rfl) (by kernel_rfl) (by kernel_rfl) (fun _ _ _ h => h) (Or.inl ⟨by rfl, ?yt_8⟩) (by assumption) ?rt_8
  case yt_8 => (intro w hSw; (try dsimp only at hSw); go_simp <;> with_reducible rfl)
  (try simp only [Act.put, List.setIfInBounds_toArray, List.set_cons_zero, List.set_cons_succ])
  refine wpAnyH_take_l (i := 9) (v := ?vt_9) rfl (by kernel_rfl) (by kernel_rfl) (by kernel_rfl) (fun _ _ _ h => h) (Or.inl ⟨by rfl, ?yt_9⟩) (by assumption) ?rt_9
  case yt_9 => (intro w hSw; (try dsimp only at hSw); go_simp <;> with_reducible rfl)
  (try simp only [Act.put, List.setIfInBounds_toArray, List.set_cons_zero, List.set_cons_succ])
  refine wpAnyH_take_l (i := 10) (v := ?vt_10) rfl (by kernel_rfl) (by kernel_rfl) (by kernel_rfl) (fun _ _ _ h => h) (Or.inl ⟨by rfl, ?yt_10⟩) (by assumption) ?rt_10
  case yt_10 => (intro w hSw; (try dsimp only at hSw); go_simp <;> with_reducible rfl)
  (try simp only [Act.put, List.setIfInBounds_toArray, List.set_cons_zero, List.set_cons_succ])
  refine wpAnyH_take_l (i := 12) (v := ?vt_12) rfl (by kernel_rfl) (by kernel_rfl) (by kernel_rfl) (fun _ _ _ h => h) (Or.inl ⟨by rfl, ?yt_12⟩) (by assumption) ?rt_12
  case yt_12 => (intro w hSw; (try dsimp only at hSw); go_simp <;> with_reducible rfl)
  (try simp only [Act.put, List.setIfInBounds_toArray, List.set_cons_zero, List.set_cons_succ])
  refine wpAnyH_take_l (i := 13) (v := ?vt_13) rfl (by kernel_rfl) (by kernel_rfl) (by kernel_rfl) (fun _ _ _ h => h) (Or.inl ⟨by rfl, ?yt_13⟩) (by assumption) ?rt_13
  case yt_13 => (intro w hSw; (try dsimp only at hSw); go_simp <;> with_reducible rfl)
  (try simp only [Act.put, List.setIfInBounds_toArray, List.set_cons_zero, List.set_cons_succ])
  refine wpAnyH_take_l (i := 14) (v := ?vt_14) rfl (by kernel_rfl) (by kernel_rfl) (by kernel_rfl) (fun _ _ _ h => h) (Or.inl ⟨by rfl, ?yt_14⟩) (by assumption) ?rt_14
  case yt_14 => (intro w hSw; (try dsimp only at hSw); go_simp <;> with_reducible rfl)
  (try simp only [Act.put, List.setIfInBounds_toArray, List.set_cons_zero, List.set_cons_succ])
  refine wpAnyH_take_l (i := 15) (v := ?vt_15) rfl (by kernel_rfl) (by kernel_rfl) (by kernel_rfl) (fun _ _ _ h => h) (Or.inl ⟨by rfl, ?yt_15⟩) (by assumption) ?rt_15
  case yt_15 => (intro w hSw; (try dsimp only at hSw); go_simp <;> with_reducible rfl)
  (try simp only [Act.put, List.setIfInBounds_toArray, List.set_cons_zero, List.set_cons_succ])
  refine wpAnyH_take_l (i := 16) (v := ?vt_16) rfl (by kernel_rfl) (by kernel_rfl) (by kernel_rfl) (fun _ _ _ h => h) (Or.inl ⟨by rfl, ?yt_16⟩) (by assumption) ?rt_16
  case yt_16 => (intro w hSw; (try dsimp only at hSw); go_simp <;> with_reducible rfl)
  (try simp only [Act.put, List.setIfInBounds_toArray, List.set_cons_zero, List.set_cons_succ])
  refine tuple3 (f := 3) 5 11 17 18 19 20 17 23 29 6 7 8 27 #[.bool false, .slice none 0 0, .bool false, .slice none 0 0, .bool false, .slice none 0 0, .bool false, .slice none 0 0] (PtV (lerpV A0 B0 S) (lerpV A1 B1 S)) (PtV (lerpV B0 C0 S) (lerpV B1 C1 S)) (PtV (lerpV C0 D0 S) (lerpV C1 D1 S)) rfl rfl rfl rfl rfl rfl (by decide) (by decide) (by kernel_rfl) (fun _ hx => hHt.trans hx) PtV.ext PtV.ext PtV.ext ?htc1 ?htc2 ?htc3 ?htc4 ?htc5 ?htc6 ?hte undef undef undef undef undef undef (by kernel_rfl) rfl
  case htc1 =>
    intro v1 v2 v3 v4 v5 v6 w1 K hx hSw hK
    (try simp only [Act.put, List.setIfInBounds_toArray, List.set_cons_zero, List.set_cons_succ])
    go_simp
    (go_at_call 30; ((with_reducible refine (H1.out _ (HE.out.trans hSw)).mono ?_)); intro e w' hp; obtain ⟨v, rfl, hv, he⟩ := RetP.v hp)
    have hk := hK.out _ _ hv he
    simp only [Act.put, List.setIfInBounds_toArray, List.set_cons_zero, List.set_cons_succ] at hk
    exact hk
  case htc2 =>
    intro v1 v2 v3 v4 v5 v6 w1 K hx hSw hK
    (try simp only [Act.put, List.setIfInBounds_toArray, List.set_cons_zero, List.set_cons_succ])
    go_simp
    (go_at_call 30; ((with_reducible refine (H2.out _ (HE.out.trans hSw)).mono ?_)); intro e w' hp; obtain ⟨v, rfl, hv, he⟩ := RetP.v hp)
    have hk := hK.out _ _ hv he
    simp only [Act.put, List.setIfInBounds_toArray, List.set_cons_zero, List.set_cons_succ] at hk
    exact hk
  case htc3 =>
    intro v1 v2 v3 v4 v5 v6 w1 K hx hSw hK
    (try simp only [Act.put, List.setIfInBounds_toArray, List.set_cons_zero, List.set_cons_succ])
    go_simp
    (go_at_call 30; ((with_reducible refine (H3.out _ (HE.out.trans hSw)).mono ?_)); intro e w' hp; obtain ⟨v, rfl, hv, he⟩ := RetP.v hp)
    have hk := hK.out _ _ hv he
    simp only [Act.put, List.setIfInBounds_toArray, List.set_cons_zero, List.set_cons_succ] at hk
    exact hk
  case htc4 =>
    intro v1 v2 v3 v4 v5 v6 w1 K hx hSw hK
    (try simp only [Act.put, List.setIfInBounds_toArray, List.set_cons_zero, List.set_cons_succ])
    go_simp
    have hk := hK.out
    simp only [Act.put, List.setIfInBounds_toArray, List.set_cons_zero, List.set_cons_succ] at hk
    exact hk
  case htc5 =>
    intro v1 v2 v3 v4 v5 v6 w1 K hx hSw hK
    (try simp only [Act.put, List.setIfInBounds_toArray, List.set_cons_zero, List.set_cons_succ])
    go_simp
    have hk := hK.out
    simp only [Act.put, List.setIfInBounds_toArray, List.set_cons_zero, List.set_cons_succ] at hk
    exact hk
  case htc6 =>
    intro v1 v2 v3 v4 v5 v6 w1 K hx hSw hK
    (try simp only [Act.put, List.setIfInBounds_toArray, List.set_cons_zero, List.set_cons_succ])
    go_simp
    have hk := hK.out
    simp only [Act.put, List.setIfInBounds_toArray, List.set_cons_zero, List.set_cons_succ] at hk
    exact hk
  case hte =>
    intro v1 v2 v3 X1 X2 X3 w1 hx hSw p1 p2 p3 B1 B2 B3 z1 z2 z3 n12 n13 n23
    obtain ⟨e0, e1, rfl, s1, s2⟩ := p1
    obtain ⟨f0, f1, rfl, s3, s4⟩ := p2
    obtain ⟨g0, g1, rfl, s5, s6⟩ := p3
    (try simp only [Act.put, List.setIfInBounds_toArray, List.set_cons_zero, List.set_cons_succ])
    have y1 : wa.heap.size ≤ X1 := z1
    have y2 : wa.heap.size ≤ X2 := z2
    have y3 : wa.heap.size ≤ X3 := z3
    have hE1 : Ext wa w1 := hSw
    have HST := Lib.hid (stored8_3 hE1 B1 y1 s1 s2 B2 y2 s3 s4 B3 y3 s5 s6 n12 n13 n23)
    have m12 := n12.symm
    have m13 := n13.symm
    have m23 := n23.symm
    clear gl hx hSw z1 z2 z3 s1 s2 s3 s4 s5 s6 hHt
    have c1_0 := B1.cell 0
    have f1_0 := B1.frozen 0
    have c1_1 := B1.cell 1
    have f1_1 := B1.frozen 1
    have c1_2 := B1.cell 2
    have f1_2 := B1.frozen 2
    have c1_3 := B1.cell 3
    have f1_3 := B1.frozen 3
    have c1_4 := B1.cell 4
    have f1_4 := B1.frozen 4
    have c1_5 := B1.cell 5
    have f1_5 := B1.frozen 5
    have c1_6 := B1.cell 6
    have f1_6 := B1.frozen 6
    have c1_7 := B1.cell 7
    have f1_7 := B1.frozen 7
    have c2_0 := B2.cell 0
    have f2_0 := B2.frozen 0
    have c2_1 := B2.cell 1
    have f2_1 := B2.frozen 1
    have c2_2 := B2.cell 2
    have f2_2 := B2.frozen 2
    have c2_3 := B2.cell 3
    have f2_3 := B2.frozen 3
    have c2_4 := B2.cell 4
    have f2_4 := B2.frozen 4
    have c2_5 := B2.cell 5
    have f2_5 := B2.frozen 5
    have c2_6 := B2.cell 6
    have f2_6 := B2.frozen 6
    have c2_7 := B2.cell 7
    have f2_7 := B2.frozen 7
    have c3_0 := B3.cell 0
    have f3_0 := B3.frozen 0
    have c3_1 := B3.cell 1
    have f3_1 := B3.frozen 1
    have c3_2 := B3.cell 2
    have f3_2 := B3.frozen 2
    have c3_3 := B3.cell 3
    have f3_3 := B3.frozen 3
    have c3_4 := B3.cell 4
    have f3_4 := B3.frozen 4
    have c3_5 := B3.cell 5
    have f3_5 := B3.frozen 5
    have c3_6 := B3.cell 6
    have f3_6 := B3.frozen 6
    have c3_7 := B3.cell 7
    have f3_7 := B3.frozen 7
    simp at c1_0 c1_1 c1_2 c1_3 c1_4 c1_5 c1_6 c1_7 c2_0 c2_1 c2_2 c2_3 c2_4 c2_5 c2_6 c2_7 c3_0 c3_1 c3_2 c3_3 c3_4 c3_5 c3_6 c3_7
    refine wpAnyH_one_l (i := 21) rfl (by kernel_rfl) (fun K hK => ?_)
    go_simp
    refine hK.out _ _ ?_ (fun hHs => ?_)
    · ((try dsimp only); (repeat (first | (with_reducible assumption) | ((with_reducible refine Ext.setCell ?_ ?_ _); rotate_left; focus (first | exact y1 | exact y2 | exact y3)))); done)
    clear hK K hHs
    (try simp only [Act.put, List.setIfInBounds_toArray, List.set_cons_zero, List.set_cons_succ])
    refine wpAnyH_one_l (i := 22) rfl (by kernel_rfl) (fun K hK => ?_)
    go_simp
    refine hK.out _ _ ?_ (fun hHs => ?_)
    · ((try dsimp only); (repeat (first | (with_reducible assumption) | ((with_reducible refine Ext.setCell ?_ ?_ _); rotate_left; focus (first | exact y1 | exact y2 | exact y3)))); done)
    clear hK K hHs
    (try simp only [Act.put, List.setIfInBounds_toArray, List.set_cons_zero, List.set_cons_succ])
    refine wpAnyH_one_l (i := 23) rfl (by kernel_rfl) (fun K hK => ?_)
    go_simp
    refine hK.out _ _ ?_ (fun hHs => ?_)
    · ((try dsimp only); (repeat (first | (with_reducible assumption) | ((with_reducible refine Ext.setCell ?_ ?_ _); rotate_left; focus (first | exact y1 | exact y2 | exact y3)))); done)
    clear hK K hHs
    (try simp only [Act.put, List.setIfInBounds_toArray, List.set_cons_zero, List.set_cons_succ])
    refine wpAnyH_done (by kernel_rfl) ?_ _
    clear c1_0 f1_0 c1_1 f1_1 c1_2 f1_2 c1_3 f1_3 c1_4 f1_4 c1_5 f1_5 c1_6 f1_6 c1_7 f1_7 c2_0 f2_0 c2_1 f2_1 c2_2 f2_2 c2_3 f2_3 c2_4 f2_4 c2_5 f2_5 c2_6 f2_6 c2_7 f2_7 c3_0 f3_0 c3_1 f3_1 c3_2 f3_2 c3_3 f3_3 c3_4 f3_4 c3_5 f3_5 c3_6 f3_6 c3_7 f3_7 B1 B2 B3
    have hst := HST.out
    obtain ⟨wc, hwc⟩ : ∃ wc, wc = put8 (put8 (put8 w1 X1 e0 e1) X2 f0 f1) X3 g0 g1 := ⟨_, rfl⟩
    rw [← hwc] at hst
    simp only [put8] at hwc
    rw [← hwc]
    have HSC := Lib.hid hst
    clear hst hwc hE1 HST n12 n13 n23 m12 m13 m23
    have HY := Lib.hid (And.intro y1 (And.intro y2 y3))
    clear y1 y2 y3
    have HSB := Lib.hid (HB.out.2.1.ext HSC.out.1)
    have gl : ∀ x, Ext wc x → x.cell? ⟨X1, 0, none⟩ = some (.bool e0.n) ∧ x.cell? ⟨X1, 1, none⟩ = some (.slice e0.p e0.l e0.c) ∧ x.cell? ⟨X1, 2, none⟩ = some (.bool e0.m) ∧ x.cell? ⟨X1, 3, none⟩ = some (.slice e0.p2 e0.l2 e0.c2) ∧ x.cell? ⟨X1, 4, none⟩ = some (.bool e1.n) ∧ x.cell? ⟨X1, 5, none⟩ = some (.slice e1.p e1.l e1.c) ∧ x.cell? ⟨X1, 6, none⟩ = some (.bool e1.m) ∧ x.cell? ⟨X1, 7, none⟩ = some (.slice e1.p2 e1.l2 e1.c2) ∧ x.cell? ⟨X2, 0, none⟩ = some (.bool f0.n) ∧ x.cell? ⟨X2, 1, none⟩ = some (.slice f0.p f0.l f0.c) ∧ x.cell? ⟨X2, 2, none⟩ = some (.bool f0.m) ∧ x.cell? ⟨X2, 3, none⟩ = some (.slice f0.p2 f0.l2 f0.c2) ∧ x.cell? ⟨X2, 4, none⟩ = some (.bool f1.n) ∧ x.cell? ⟨X2, 5, none⟩ = some (.slice f1.p f1.l f1.c) ∧ x.cell? ⟨X2, 6, none⟩ = some (.bool f1.m) ∧ x.cell? ⟨X2, 7, none⟩ = some (.slice f1.p2 f1.l2 f1.c2) ∧ x.cell? ⟨X3, 0, none⟩ = some (.bool g0.n) ∧ x.cell? ⟨X3, 1, none⟩ = some (.slice g0.p g0.l g0.c) ∧ x.cell? ⟨X3, 2, none⟩ = some (.bool g0.m) ∧ x.cell? ⟨X3, 3, none⟩ = some (.slice g0.p2 g0.l2 g0.c2) ∧ x.cell? ⟨X3, 4, none⟩ = some (.bool g1.n) ∧ x.cell? ⟨X3, 5, none⟩ = some (.slice g1.p g1.l g1.c) ∧ x.cell? ⟨X3, 6, none⟩ = some (.bool g1.m) ∧ x.cell? ⟨X3, 7, none⟩ = some (.slice g1.p2 g1.l2 g1.c2) ∧ x.cell? ⟨BB, 0, none⟩ = some (.bool t.n) ∧ x.cell? ⟨BB, 1, none⟩ = some (.slice t.p t.l t.c) ∧ x.cell? ⟨BB, 2, none⟩ = some (.bool t.m) ∧ x.cell? ⟨BB, 3, none⟩ = some (.slice t.p2 t.l2 t.c2) := fun x h => by
      have k1 := HSC.out.2.1.ext h
      have k2 := HSC.out.2.2.1.ext h
      have k3 := HSC.out.2.2.2.1.ext h
      have k4 := HSB.out.ext h
      exact ⟨k1.cell 0, k1.cell 1, k1.cell 2, k1.cell 3, k1.cell 4, k1.cell 5, k1.cell 6, k1.cell 7, k2.cell 0, k2.cell 1, k2.cell 2, k2.cell 3, k2.cell 4, k2.cell 5, k2.cell 6, k2.cell 7, k3.cell 0, k3.cell 1, k3.cell 2, k3.cell 3, k3.cell 4, k3.cell 5, k3.cell 6, k3.cell 7, k4.cell 0, k4.cell 1, k4.cell 2, k4.cell 3⟩
    have HEC := Lib.hid (HE.out.trans HSC.out.1)
    have HP := Lib.hid HSC.out.2.2.2.2
    go_wp2_with fail
    refine wp_region_held_drew (S := fun x => Ext wc x) (by kernel_rfl) (Ext.refl _).drew (fun hHu => ?_)
    refine wpAnyH_take_l (i := 0) (v := ?vu_0) rfl (by kernel_rfl) (by kernel_rfl) (by kernel_rfl) (fun _ _ _ h => h) (Or.inl ⟨by rfl, ?yu_0⟩) (by assumption) ?ru_0
    case yu_0 => (intro w hSw; (try dsimp only at hSw); go_simp <;> with_reducible rfl)
    (try simp only [Act.put, List.setIfInBounds_toArray, List.set_cons_zero, List.set_cons_succ])
    refine wpAnyH_take_l (i := 1) (v := ?vu_1) rfl (by kernel_rfl) (by kernel_rfl) (by kernel_rfl) (fun _ _ _ h => h) (Or.inl ⟨by rfl, ?yu_1⟩) (by assumption) ?ru_1
    case yu_1 => (intro w hSw; (try dsimp only at hSw); go_simp <;> with_reducible rfl)
    (try simp only [Act.put, List.setIfInBounds_toArray, List.set_cons_zero, List.set_cons_succ])
    refine wpAnyH_take_l (i := 2) (v := ?vu_2) rfl (by kernel_rfl) (by kernel_rfl) (by kernel_rfl) (fun _ _ _ h => h) (Or.inl ⟨by rfl, ?yu_2⟩) (by assumption) ?ru_2
    case yu_2 => (intro w hSw; (try dsimp only at hSw); go_simp <;> with_reducible rfl)
    (try simp only [Act.put, List.setIfInBounds_toArray, List.set_cons_zero, List.set_cons_succ])
    refine wpAnyH_take_l (i := 4) (v := ?vu_4) rfl (by kernel_rfl) (by kernel_rfl) (by kernel_rfl) (fun _ _ _ h => h) (Or.inl ⟨by rfl, ?yu_4⟩) (by assumption) ?ru_4
    case yu_4 => (intro w hSw; (try dsimp only at hSw); go_simp <;> with_reducible rfl)
    (try simp only [Act.put, List.setIfInBounds_toArray, List.set_cons_zero, List.set_cons_succ])
    refine wpAnyH_take_l (i := 5) (v := ?vu_5) rfl (by kernel_rfl) (by kernel_rfl) (by kernel_rfl) (fun _ _ _ h => h) (Or.inl ⟨by rfl, ?yu_5⟩) (by assumption) ?ru_5
    case yu_5 => (intro w hSw; (try dsimp only at hSw); go_simp <;> with_reducible rfl)
    (try simp only [Act.put, List.setIfInBounds_toArray, List.set_cons_zero, List.set_cons_succ])
    refine wpAnyH_take_l (i := 6) (v := ?vu_6) rfl (by kernel_rfl) (by kernel_rfl) (by kernel_rfl) (fun _ _ _ h => h) (Or.inl ⟨by rfl, ?yu_6⟩) (by assumption) ?ru_6
    case yu_6 => (intro w hSw; (try dsimp only at hSw); go_simp <;> with_reducible rfl)
    (try simp only [Act.put, List.setIfInBounds_toArray, List.set_cons_zero, List.set_cons_succ])
    refine tuple2 (f := 2) 3 7 8 9 33 37 9 10 27 #[.bool false, .slice none 0 0, .bool false, .slice none 0 0, .bool false, .slice none 0 0, .bool false, .slice none 0 0] (PtV (lerpV (lerpV A0 B0 S) (lerpV B0 C0 S) S) (lerpV (lerpV A1 B1 S) (lerpV B1 C1 S) S)) (PtV (lerpV (lerpV B0 C0 S) (lerpV C0 D0 S) S) (lerpV (lerpV B1 C1 S) (lerpV C1 D1 S) S)) rfl rfl rfl rfl (by decide) (by decide) (by kernel_rfl) (fun _ hx => hHu.trans hx) PtV.ext PtV.ext ?huc1 ?huc2 ?huc3 ?huc4 ?hue undef undef undef undef (by kernel_rfl) rfl
    case huc1 =>
      intro v1 v2 v3 v4 w1 K hx hSw hK
      (try simp only [Act.put, List.setIfInBounds_toArray, List.set_cons_zero, List.set_cons_succ])
      go_simp
      (go_at_call 30; ((with_reducible refine (H4.out _ (HEC.out.trans hSw) _ _ _ _ (HP.out.1.1.ext hSw) (HP.out.1.2.ext hSw) (HP.out.2.1.1.ext hSw) (HP.out.2.1.2.ext hSw)).mono ?_)); intro e w' hp; obtain ⟨v, rfl, hv, he⟩ := RetP.v hp)
      have hk := hK.out _ _ hv he
      simp only [Act.put, List.setIfInBounds_toArray, List.set_cons_zero, List.set_cons_succ] at hk
      exact hk
    case huc2 =>
      intro v1 v2 v3 v4 w1 K hx hSw hK
      (try simp only [Act.put, List.setIfInBounds_toArray, List.set_cons_zero, List.set_cons_succ])
      go_simp
      (go_at_call 30; ((with_reducible refine (H5.out _ (HEC.out.trans hSw) _ _ _ _ (HP.out.2.1.1.ext hSw) (HP.out.2.1.2.ext hSw) (HP.out.2.2.1.ext hSw) (HP.out.2.2.2.ext hSw)).mono ?_)); intro e w' hp; obtain ⟨v, rfl, hv, he⟩ := RetP.v hp)
      have hk := hK.out _ _ hv he
      simp only [Act.put, List.setIfInBounds_toArray, List.set_cons_zero, List.set_cons_succ] at hk
      exact hk
    case huc3 =>
      intro v1 v2 v3 v4 w1 K hx hSw hK
      (try simp only [Act.put, List.setIfInBounds_toArray, List.set_cons_zero, List.set_cons_succ])
      go_simp
      have hk := hK.out
      simp only [Act.put, List.setIfInBounds_toArray, List.set_cons_zero, List.set_cons_succ] at hk
      exact hk
    case huc4 =>
      intro v1 v2 v3 v4 w1 K hx hSw hK
      (try simp only [Act.put, List.setIfInBounds_toArray, List.set_cons_zero, List.set_cons_succ])
      go_simp
      have hk := hK.out
      simp only [Act.put, List.setIfInBounds_toArray, List.set_cons_zero, List.set_cons_succ] at hk
      exact hk
    case hue =>
      intro v1 v2 Y1 Y2 w1 hx hSw p1 p2 B1 B2 z1 z2 n12
      obtain ⟨r0, r1, rfl, s1, s2⟩ := p1
      obtain ⟨u0, u1, rfl, s3, s4⟩ := p2
      (try simp only [Act.put, List.setIfInBounds_toArray, List.set_cons_zero, List.set_cons_succ])
      have y1 : wc.heap.size ≤ Y1 := z1
      have y2 : wc.heap.size ≤ Y2 := z2
      have hE1 : Ext wc w1 := hSw
      have HST := Lib.hid (stored8_2 hE1 B1 y1 s1 s2 B2 y2 s3 s4 n12)
      have m12 := n12.symm
      clear gl hx hSw z1 z2 s1 s2 s3 s4 hHu
      have c1_0 := B1.cell 0
      have f1_0 := B1.frozen 0
      have c1_1 := B1.cell 1
      have f1_1 := B1.frozen 1
      have c1_2 := B1.cell 2
      have f1_2 := B1.frozen 2
      have c1_3 := B1.cell 3
      have f1_3 := B1.frozen 3
      have c1_4 := B1.cell 4
      have f1_4 := B1.frozen 4
      have c1_5 := B1.cell 5
      have f1_5 := B1.frozen 5
      have c1_6 := B1.cell 6
      have f1_6 := B1.frozen 6
      have c1_7 := B1.cell 7
      have f1_7 := B1.frozen 7
      have c2_0 := B2.cell 0
      have f2_0 := B2.frozen 0
      have c2_1 := B2.cell 1
      have f2_1 := B2.frozen 1
      have c2_2 := B2.cell 2
      have f2_2 := B2.frozen 2
      have c2_3 := B2.cell 3
      have f2_3 := B2.frozen 3
      have c2_4 := B2.cell 4
      have f2_4 := B2.frozen 4
      have c2_5 := B2.cell 5
      have f2_5 := B2.frozen 5
      have c2_6 := B2.cell 6
      have f2_6 := B2.frozen 6
      have c2_7 := B2.cell 7
      have f2_7 := B2.frozen 7
      simp at c1_0 c1_1 c1_2 c1_3 c1_4 c1_5 c1_6 c1_7 c2_0 c2_1 c2_2 c2_3 c2_4 c2_5 c2_6 c2_7
      refine wpAnyH_one_l (i := 10) rfl (by kernel_rfl) (fun K hK => ?_)
      go_simp
      refine hK.out _ _ ?_ (fun hHs => ?_)
      · ((try dsimp only); (repeat (first | (with_reducible assumption) | ((with_reducible refine Ext.setCell ?_ ?_ _); rotate_left; focus (first | exact y1 | exact y2)))); done)
      clear hK K hHs
      (try simp only [Act.put, List.setIfInBounds_toArray, List.set_cons_zero, List.set_cons_succ])
      refine wpAnyH_one_l (i := 11) rfl (by kernel_rfl) (fun K hK => ?_)
      go_simp
      refine hK.out _ _ ?_ (fun hHs => ?_)
      · ((try dsimp only); (repeat (first | (with_reducible assumption) | ((with_reducible refine Ext.setCell ?_ ?_ _); rotate_left; focus (first | exact y1 | exact y2)))); done)
      clear hK K hHs
      (try simp only [Act.put, List.setIfInBounds_toArray, List.set_cons_zero, List.set_cons_succ])
      refine wpAnyH_done (by kernel_rfl) ?_ _
      clear c1_0 f1_0 c1_1 f1_1 c1_2 f1_2 c1_3 f1_3 c1_4 f1_4 c1_5 f1_5 c1_6 f1_6 c1_7 f1_7 c2_0 f2_0 c2_1 f2_1 c2_2 f2_2 c2_3 f2_3 c2_4 f2_4 c2_5 f2_5 c2_6 f2_6 c2_7 f2_7 B1 B2
      have hst := HST.out
      obtain ⟨wd, hwd⟩ : ∃ wd, wd = put8 (put8 w1 Y1 r0 r1) Y2 u0 u1 := ⟨_, rfl⟩
      rw [← hwd] at hst
      simp only [put8] at hwd
      rw [← hwd]
      have HSD := Lib.hid hst
      clear hst hwd hE1 HST n12 m12
      have HYY := Lib.hid (And.intro y1 y2)
      clear y1 y2
      have gl : wd.cell? ⟨Y1, 0, none⟩ = some (.bool r0.n) ∧ wd.cell? ⟨Y1, 1, none⟩ = some (.slice r0.p r0.l r0.c) ∧ wd.cell? ⟨Y1, 2, none⟩ = some (.bool r0.m) ∧ wd.cell? ⟨Y1, 3, none⟩ = some (.slice r0.p2 r0.l2 r0.c2) ∧ wd.cell? ⟨Y1, 4, none⟩ = some (.bool r1.n) ∧ wd.cell? ⟨Y1, 5, none⟩ = some (.slice r1.p r1.l r1.c) ∧ wd.cell? ⟨Y1, 6, none⟩ = some (.bool r1.m) ∧ wd.cell? ⟨Y1, 7, none⟩ = some (.slice r1.p2 r1.l2 r1.c2) ∧ wd.cell? ⟨Y2, 0, none⟩ = some (.bool u0.n) ∧ wd.cell? ⟨Y2, 1, none⟩ = some (.slice u0.p u0.l u0.c) ∧ wd.cell? ⟨Y2, 2, none⟩ = some (.bool u0.m) ∧ wd.cell? ⟨Y2, 3, none⟩ = some (.slice u0.p2 u0.l2 u0.c2) ∧ wd.cell? ⟨Y2, 4, none⟩ = some (.bool u1.n) ∧ wd.cell? ⟨Y2, 5, none⟩ = some (.slice u1.p u1.l u1.c) ∧ wd.cell? ⟨Y2, 6, none⟩ = some (.bool u1.m) ∧ wd.cell? ⟨Y2, 7, none⟩ = some (.slice u1.p2 u1.l2 u1.c2) ∧ wd.cell? ⟨BB, 0, none⟩ = some (.bool t.n) ∧ wd.cell? ⟨BB, 1, none⟩ = some (.slice t.p t.l t.c) ∧ wd.cell? ⟨BB, 2, none⟩ = some (.bool t.m) ∧ wd.cell? ⟨BB, 3, none⟩ = some (.slice t.p2 t.l2 t.c2) := by
        have k1 := HSD.out.2.1
        have k2 := HSD.out.2.2.1
        have k4 := HSB.out.ext HSD.out.1
        exact ⟨k1.cell 0, k1.cell 1, k1.cell 2, k1.cell 3, k1.cell 4, k1.cell 5, k1.cell 6, k1.cell 7, k2.cell 0, k2.cell 1, k2.cell 2, k2.cell 3, k2.cell 4, k2.cell 5, k2.cell 6, k2.cell 7, k4.cell 0, k4.cell 1, k4.cell 2, k4.cell 3⟩
      go_wp2_with fail
      refine (H6.out _ (HEC.out.trans HSD.out.1) _ _ _ _ HSD.out.2.2.2.1.1 HSD.out.2.2.2.1.2 HSD.out.2.2.2.2.1 HSD.out.2.2.2.2.2).mono ?_
      rintro e we ⟨m0, m1, rfl, hm0, hm1, hee⟩
      have HG := Lib.hid (And.intro hm0 hm1)
      clear hm0 hm1 gl
      go_wp2_with fail
      have ke : Ext wd (we.alloc (.cells #[.bool m0.n, .slice m0.p m0.l m0.c, .bool m0.m, .slice m0.p2 m0.l2 m0.c2, .bool m1.n, .slice m1.p m1.l m1.c, .bool m1.m, .slice m1.p2 m1.l2 m1.c2] 27)) := hee.alloc _
      have kc := HSD.out.1.trans ke
      have HEE := Lib.hid (HEC.out.trans kc)
      have z3 : wc.heap.size ≤ we.heap.size := Nat.le_trans HSD.out.1.size hee.size
      have z4 := HSC.out.1.size
      have j0 := (HB.out.1.ext HSC.out.1).ext kc
      have j1 := HSC.out.2.1.ext kc
      have j2 := HSC.out.2.2.2.1.ext kc
      have j3 := HSD.out.2.1.ext ke
      have j4 := HSD.out.2.2.1.ext ke
      have j5 : Blk (we.alloc (.cells #[.bool m0.n, .slice m0.p m0.l m0.c, .bool m0.m, .slice m0.p2 m0.l2 m0.c2, .bool m1.n, .slice m1.p m1.l m1.c, .bool m1.m, .slice m1.p2 m1.l2 m1.c2] 27)) we.heap.size 27 #[.bool m0.n, .slice m0.p m0.l m0.c, .bool m0.m, .slice m0.p2 m0.l2 m0.c2, .bool m1.n, .slice m1.p m1.l m1.c, .bool m1.m, .slice m1.p2 m1.l2 m1.c2] := Blk.new_at we _ rfl _ _
      have jr := (HB.out.2.2.1.ext HSC.out.1).ext kc
      have js := (HB.out.2.2.2.ext HSC.out.1).ext kc
      have HPE := Lib.hid (show (e0.Is (we.alloc (.cells #[.bool m0.n, .slice m0.p m0.l m0.c, .bool m0.m, .slice m0.p2 m0.l2 m0.c2, .bool m1.n, .slice m1.p m1.l m1.c, .bool m1.m, .slice m1.p2 m1.l2 m1.c2] 27)) _ ∧ e1.Is (we.alloc (.cells #[.bool m0.n, .slice m0.p m0.l m0.c, .bool m0.m, .slice m0.p2 m0.l2 m0.c2, .bool m1.n, .slice m1.p m1.l m1.c, .bool m1.m, .slice m1.p2 m1.l2 m1.c2] 27)) _) ∧ (g0.Is (we.alloc (.cells #[.bool m0.n, .slice m0.p m0.l m0.c, .bool m0.m, .slice m0.p2 m0.l2 m0.c2, .bool m1.n, .slice m1.p m1.l m1.c, .bool m1.m, .slice m1.p2 m1.l2 m1.c2] 27)) _ ∧ g1.Is (we.alloc (.cells #[.bool m0.n, .slice m0.p m0.l m0.c, .bool m0.m, .slice m0.p2 m0.l2 m0.c2, .bool m1.n, .slice m1.p m1.l m1.c, .bool m1.m, .slice m1.p2 m1.l2 m1.c2] 27)) _) ∧ (r0.Is (we.alloc (.cells #[.bool m0.n, .slice m0.p m0.l m0.c, .bool m0.m, .slice m0.p2 m0.l2 m0.c2, .bool m1.n, .slice m1.p m1.l m1.c, .bool m1.m, .slice m1.p2 m1.l2 m1.c2] 27)) _ ∧ r1.Is (we.alloc (.cells #[.bool m0.n, .slice m0.p m0.l m0.c, .bool m0.m, .slice m0.p2 m0.l2 m0.c2, .bool m1.n, .slice m1.p m1.l m1.c, .bool m1.m, .slice m1.p2 m1.l2 m1.c2] 27)) _) ∧ (u0.Is (we.alloc (.cells #[.bool m0.n, .slice m0.p m0.l m0.c, .bool m0.m, .slice m0.p2 m0.l2 m0.c2, .bool m1.n, .slice m1.p m1.l m1.c, .bool m1.m, .slice m1.p2 m1.l2 m1.c2] 27)) _ ∧ u1.Is (we.alloc (.cells #[.bool m0.n, .slice m0.p m0.l m0.c, .bool m0.m, .slice m0.p2 m0.l2 m0.c2, .bool m1.n, .slice m1.p m1.l m1.c, .bool m1.m, .slice m1.p2 m1.l2 m1.c2] 27)) _) ∧ (m0.Is (we.alloc (.cells #[.bool m0.n, .slice m0.p m0.l m0.c, .bool m0.m, .slice m0.p2 m0.l2 m0.c2, .bool m1.n, .slice m1.p m1.l m1.c, .bool m1.m, .slice m1.p2 m1.l2 m1.c2] 27)) _ ∧ m1.Is (we.alloc (.cells #[.bool m0.n, .slice m0.p m0.l m0.c, .bool m0.m, .slice m0.p2 m0.l2 m0.c2, .bool m1.n, .slice m1.p m1.l m1.c, .bool m1.m, .slice m1.p2 m1.l2 m1.c2] 27)) _) from ⟨⟨HP.out.1.1.ext kc, HP.out.1.2.ext kc⟩, ⟨HP.out.2.2.1.ext kc, HP.out.2.2.2.ext kc⟩, ⟨HSD.out.2.2.2.1.1.ext ke, HSD.out.2.2.2.1.2.ext ke⟩, ⟨HSD.out.2.2.2.2.1.ext ke, HSD.out.2.2.2.2.2.ext ke⟩, ⟨HG.out.1.ext ((Ext.refl _).alloc _), HG.out.2.ext ((Ext.refl _).alloc _)⟩⟩)
      clear ke kc hee
      generalize (we.alloc (.cells #[.bool m0.n, .slice m0.p m0.l m0.c, .bool m0.m, .slice m0.p2 m0.l2 m0.c2, .bool m1.n, .slice m1.p m1.l m1.c, .bool m1.m, .slice m1.p2 m1.l2 m1.c2] 27)) = wv at *
      generalize hZ2 : we.heap.size = Z at *
      have hne : (BA ≠ R ∧ BA ≠ R2) ∧ (X1 ≠ R ∧ X1 ≠ R2) ∧ (X3 ≠ R ∧ X3 ≠ R2) ∧ (Y1 ≠ R ∧ Y1 ≠ R2) ∧ (Y2 ≠ R ∧ Y2 ≠ R2) ∧ (Z ≠ R ∧ Z ≠ R2) ∧ R2 ≠ R := by
        have h1 := HLT.out
        have h2 := HZ.out
        have h3 := HY.out.1
        have h4 := HY.out.2.1
        have h5 := HY.out.2.2
        have h6 := HYY.out.1
        have h7 := HYY.out.2
        omega
      have HNE := Lib.hid hne
      have HJ := Lib.hid (And.intro jr js)
      have gl : ∀ x, Own2 R R2 wv x → x.cell? ⟨BA, 0, none⟩ = some (.bool a0.n) ∧ x.cell? ⟨BA, 1, none⟩ = some (.slice a0.p a0.l a0.c) ∧ x.cell? ⟨BA, 2, none⟩ = some (.bool a0.m) ∧ x.cell? ⟨BA, 3, none⟩ = some (.slice a0.p2 a0.l2 a0.c2) ∧ x.cell? ⟨BA, 4, none⟩ = some (.bool a1.n) ∧ x.cell? ⟨BA, 5, none⟩ = some (.slice a1.p a1.l a1.c) ∧ x.cell? ⟨BA, 6, none⟩ = some (.bool a1.m) ∧ x.cell? ⟨BA, 7, none⟩ = some (.slice a1.p2 a1.l2 a1.c2) ∧ x.cell? ⟨BA, 8, none⟩ = some (.bool b0.n) ∧ x.cell? ⟨BA, 9, none⟩ = some (.slice b0.p b0.l b0.c) ∧ x.cell? ⟨BA, 10, none⟩ = some (.bool b0.m) ∧ x.cell? ⟨BA, 11, none⟩ = some (.slice b0.p2 b0.l2 b0.c2) ∧ x.cell? ⟨BA, 12, none⟩ = some (.bool b1.n) ∧ x.cell? ⟨BA, 13, none⟩ = some (.slice b1.p b1.l b1.c) ∧ x.cell? ⟨BA, 14, none⟩ = some (.bool b1.m) ∧ x.cell? ⟨BA, 15, none⟩ = some (.slice b1.p2 b1.l2 b1.c2) ∧ x.cell? ⟨BA, 16, none⟩ = some (.bool c0.n) ∧ x.cell? ⟨BA, 17, none⟩ = some (.slice c0.p c0.l c0.c) ∧ x.cell? ⟨BA, 18, none⟩ = some (.bool c0.m) ∧ x.cell? ⟨BA, 19, none⟩ = some (.slice c0.p2 c0.l2 c0.c2) ∧ x.cell? ⟨BA, 20, none⟩ = some (.bool c1.n) ∧ x.cell? ⟨BA, 21, none⟩ = some (.slice c1.p c1.l c1.c) ∧ x.cell? ⟨BA, 22, none⟩ = some (.bool c1.m) ∧ x.cell? ⟨BA, 23, none⟩ = some (.slice c1.p2 c1.l2 c1.c2) ∧ x.cell? ⟨BA, 24, none⟩ = some (.bool d0.n) ∧ x.cell? ⟨BA, 25, none⟩ = some (.slice d0.p d0.l d0.c) ∧ x.cell? ⟨BA, 26, none⟩ = some (.bool d0.m) ∧ x.cell? ⟨BA, 27, none⟩ = some (.slice d0.p2 d0.l2 d0.c2) ∧ x.cell? ⟨BA, 28, none⟩ = some (.bool d1.n) ∧ x.cell? ⟨BA, 29, none⟩ = some (.slice d1.p d1.l d1.c) ∧ x.cell? ⟨BA, 30, none⟩ = some (.bool d1.m) ∧ x.cell? ⟨BA, 31, none⟩ = some (.slice d1.p2 d1.l2 d1.c2) ∧ x.cell? ⟨X1, 0, none⟩ = some (.bool e0.n) ∧ x.cell? ⟨X1, 1, none⟩ = some (.slice e0.p e0.l e0.c) ∧ x.cell? ⟨X1, 2, none⟩ = some (.bool e0.m) ∧ x.cell? ⟨X1, 3, none⟩ = some (.slice e0.p2 e0.l2 e0.c2) ∧ x.cell? ⟨X1, 4, none⟩ = some (.bool e1.n) ∧ x.cell? ⟨X1, 5, none⟩ = some (.slice e1.p e1.l e1.c) ∧ x.cell? ⟨X1, 6, none⟩ = some (.bool e1.m) ∧ x.cell? ⟨X1, 7, none⟩ = some (.slice e1.p2 e1.l2 e1.c2) ∧ x.cell? ⟨X3, 0, none⟩ = some (.bool g0.n) ∧ x.cell? ⟨X3, 1, none⟩ = some (.slice g0.p g0.l g0.c) ∧ x.cell? ⟨X3, 2, none⟩ = some (.bool g0.m) ∧ x.cell? ⟨X3, 3, none⟩ = some (.slice g0.p2 g0.l2 g0.c2) ∧ x.cell? ⟨X3, 4, none⟩ = some (.bool g1.n) ∧ x.cell? ⟨X3, 5, none⟩ = some (.slice g1.p g1.l g1.c) ∧ x.cell? ⟨X3, 6, none⟩ = some (.bool g1.m) ∧ x.cell? ⟨X3, 7, none⟩ = some (.slice g1.p2 g1.l2 g1.c2) ∧ x.cell? ⟨Y1, 0, none⟩ = some (.bool r0.n) ∧ x.cell? ⟨Y1, 1, none⟩ = some (.slice r0.p r0.l r0.c) ∧ x.cell? ⟨Y1, 2, none⟩ = some (.bool r0.m) ∧ x.cell? ⟨Y1, 3, none⟩ = some (.slice r0.p2 r0.l2 r0.c2) ∧ x.cell? ⟨Y1, 4, none⟩ = some (.bool r1.n) ∧ x.cell? ⟨Y1, 5, none⟩ = some (.slice r1.p r1.l r1.c) ∧ x.cell? ⟨Y1, 6, none⟩ = some (.bool r1.m) ∧ x.cell? ⟨Y1, 7, none⟩ = some (.slice r1.p2 r1.l2 r1.c2) ∧ x.cell? ⟨Y2, 0, none⟩ = some (.bool u0.n) ∧ x.cell? ⟨Y2, 1, none⟩ = some (.slice u0.p u0.l u0.c) ∧ x.cell? ⟨Y2, 2, none⟩ = some (.bool u0.m) ∧ x.cell? ⟨Y2, 3, none⟩ = some (.slice u0.p2 u0.l2 u0.c2) ∧ x.cell? ⟨Y2, 4, none⟩ = some (.bool u1.n) ∧ x.cell? ⟨Y2, 5, none⟩ = some (.slice u1.p u1.l u1.c) ∧ x.cell? ⟨Y2, 6, none⟩ = some (.bool u1.m) ∧ x.cell? ⟨Y2, 7, none⟩ = some (.slice u1.p2 u1.l2 u1.c2) ∧ x.cell? ⟨Z, 0, none⟩ = some (.bool m0.n) ∧ x.cell? ⟨Z, 1, none⟩ = some (.slice m0.p m0.l m0.c) ∧ x.cell? ⟨Z, 2, none⟩ = some (.bool m0.m) ∧ x.cell? ⟨Z, 3, none⟩ = some (.slice m0.p2 m0.l2 m0.c2) ∧ x.cell? ⟨Z, 4, none⟩ = some (.bool m1.n) ∧ x.cell? ⟨Z, 5, none⟩ = some (.slice m1.p m1.l m1.c) ∧ x.cell? ⟨Z, 6, none⟩ = some (.bool m1.m) ∧ x.cell? ⟨Z, 7, none⟩ = some (.slice m1.p2 m1.l2 m1.c2) := fun x h => by
        have k0 := j0.own2 h hne.1.1 hne.1.2
        have k1 := j1.own2 h hne.2.1.1 hne.2.1.2
        have k2 := j2.own2 h hne.2.2.1.1 hne.2.2.1.2
        have k3 := j3.own2 h hne.2.2.2.1.1 hne.2.2.2.1.2
        have k4 := j4.own2 h hne.2.2.2.2.1.1 hne.2.2.2.2.1.2
        have k5 := j5.own2 h hne.2.2.2.2.2.1.1 hne.2.2.2.2.2.1.2
        exact ⟨k0.cell 0, k0.cell 1, k0.cell 2, k0.cell 3, k0.cell 4, k0.cell 5, k0.cell 6, k0.cell 7, k0.cell 8, k0.cell 9, k0.cell 10, k0.cell 11, k0.cell 12, k0.cell 13, k0.cell 14, k0.cell 15, k0.cell 16, k0.cell 17, k0.cell 18, k0.cell 19, k0.cell 20, k0.cell 21, k0.cell 22, k0.cell 23, k0.cell 24, k0.cell 25, k0.cell 26, k0.cell 27, k0.cell 28, k0.cell 29, k0.cell 30, k0.cell 31, k1.cell 0, k1.cell 1, k1.cell 2, k1.cell 3, k1.cell 4, k1.cell 5, k1.cell 6, k1.cell 7, k2.cell 0, k2.cell 1, k2.cell 2, k2.cell 3, k2.cell 4, k2.cell 5, k2.cell 6, k2.cell 7, k3.cell 0, k3.cell 1, k3.cell 2, k3.cell 3, k3.cell 4, k3.cell 5, k3.cell 6, k3.cell 7, k4.cell 0, k4.cell 1, k4.cell 2, k4.cell 3, k4.cell 4, k4.cell 5, k4.cell 6, k4.cell 7, k5.cell 0, k5.cell 1, k5.cell 2, k5.cell 3, k5.cell 4, k5.cell 5, k5.cell 6, k5.cell 7⟩
      have hrr : R2 ≠ R := hne.2.2.2.2.2.2
      have hrs : R ≠ R2 := hrr.symm
      clear j0 j1 j2 j3 j4 j5 jr js hne hZ2 z3 z4
      refine wp_region_held_drew (S := (fun x => Own2 R R2 wv x)) (by kernel_rfl) (by (try dsimp only); (first | (with_reducible assumption) | (with_reducible exact Own2.drew (Own2.refl _ _ _)) | (with_reducible (apply Own2.of_ext; assumption)))) (fun hH1_0 => ?_)
      refine wpAnyH_take_l (i := 0) (v := ?v1_0) rfl (by kernel_rfl) (by kernel_rfl) (by kernel_rfl) (fun _ _ _ h => h) (Or.inl ⟨by rfl, ?y1_0⟩) (by assumption) ?r1_0
      case y1_0 => (intro w hSw; (try dsimp only at hSw); go_simp <;> with_reducible rfl)
      (try simp only [Act.put, List.setIfInBounds_toArray, List.set_cons_zero, List.set_cons_succ])
      refine wpAnyH_take_l (i := 1) (v := ?v1_1) rfl (by kernel_rfl) (by kernel_rfl) (by kernel_rfl) (fun _ _ _ h => h) (Or.inl ⟨by rfl, ?y1_1⟩) (by assumption) ?r1_1
      case y1_1 => (intro w hSw; (try dsimp only at hSw); go_simp <;> with_reducible rfl)
      (try simp only [Act.put, List.setIfInBounds_toArray, List.set_cons_zero, List.set_cons_succ])
      refine wpAnyH_take_l (i := 3) (v := ?v1_3) rfl (by kernel_rfl) (by kernel_rfl) (by kernel_rfl) (fun _ _ _ h => h) (Or.inl ⟨by rfl, ?y1_3⟩) (by assumption) ?r1_3
      case y1_3 => (intro w hSw; (try dsimp only at hSw); go_simp <;> with_reducible rfl)
      (try simp only [Act.put, List.setIfInBounds_toArray, List.set_cons_zero, List.set_cons_succ])
      refine wpAnyH_take_l (i := 4) (v := ?v1_4) rfl (by kernel_rfl) (by kernel_rfl) (by kernel_rfl) (fun _ _ _ h => h) (Or.inl ⟨by rfl, ?y1_4⟩) (by assumption) ?r1_4
      case y1_4 => (intro w hSw; (try dsimp only at hSw); go_simp <;> with_reducible rfl)
      (try simp only [Act.put, List.setIfInBounds_toArray, List.set_cons_zero, List.set_cons_succ])
      refine wpAnyH_take_l (i := 5) (v := ?v1_5) rfl (by kernel_rfl) (by kernel_rfl) (by kernel_rfl) (fun _ _ _ h => h) (Or.inl ⟨by rfl, ?y1_5⟩) (by assumption) ?r1_5
      case y1_5 => (intro w hSw; (try dsimp only at hSw); go_simp <;> with_reducible rfl)
      (try simp only [Act.put, List.setIfInBounds_toArray, List.set_cons_zero, List.set_cons_succ])
      refine wpAnyH_take_l (i := 7) (v := ?v1_7) rfl (by kernel_rfl) (by kernel_rfl) (by kernel_rfl) (fun _ _ _ h => h) (Or.inl ⟨by rfl, ?y1_7⟩) (by assumption) ?r1_7
      case y1_7 => (intro w hSw; (try dsimp only at hSw); go_simp <;> with_reducible rfl)
      (try simp only [Act.put, List.setIfInBounds_toArray, List.set_cons_zero, List.set_cons_succ])
      refine wpAnyH_take_l (i := 9) (v := ?v1_9) rfl (by kernel_rfl) (by kernel_rfl) (by kernel_rfl) (fun _ _ _ h => h) (Or.inl ⟨by rfl, ?y1_9⟩) (by assumption) ?r1_9
      case y1_9 => (intro w hSw; (try dsimp only at hSw); go_simp <;> with_reducible rfl)
      (try simp only [Act.put, List.setIfInBounds_toArray, List.set_cons_zero, List.set_cons_succ])
      refine wpAnyH_take_l (i := 10) (v := ?v1_10) rfl (by kernel_rfl) (by kernel_rfl) (by kernel_rfl) (fun _ _ _ h => h) (Or.inl ⟨by rfl, ?y1_10⟩) (by assumption) ?r1_10
      case y1_10 => (intro w hSw; (try dsimp only at hSw); go_simp <;> with_reducible rfl)
      (try simp only [Act.put, List.setIfInBounds_toArray, List.set_cons_zero, List.set_cons_succ])
      refine wpAnyH_take_l (i := 11) (v := ?v1_11) rfl (by kernel_rfl) (by kernel_rfl) (by kernel_rfl) (fun _ _ _ h => h) (Or.inl ⟨by rfl, ?y1_11⟩) (by assumption) ?r1_11
      case y1_11 => (intro w hSw; (try dsimp only at hSw); go_simp <;> with_reducible rfl)
      (try simp only [Act.put, List.setIfInBounds_toArray, List.set_cons_zero, List.set_cons_succ])
      refine wpAnyH_take_l (i := 12) (v := ?v1_12) rfl (by kernel_rfl) (by kernel_rfl) (by kernel_rfl) (fun _ _ _ h => h) (Or.inl ⟨by rfl, ?y1_12⟩) (by assumption) ?r1_12
      case y1_12 => (intro w hSw; (try dsimp only at hSw); go_simp <;> with_reducible rfl)
      (try simp only [Act.put, List.setIfInBounds_toArray, List.set_cons_zero, List.set_cons_succ])
      refine wpAnyH_one_l (i := 2) rfl (by kernel_rfl) (fun K hK => ?_)
      go_simp
      (first | (go_at_call 31; ((with_reducible refine (HR1.out _ (HEE.out.trans (by first | assumption | exact Ext.drew (Ext.refl _)))).mono ?_)); rintro e wx ⟨i0, i1, rfl, hi0, hi1, hen1⟩; have hx1 : Ext wv wx := Ext.trans (by first | assumption | exact Ext.drew (Ext.refl _)) hen1) | (go_at_call 31; ((with_reducible refine (HR2.out _ _ _ (HPE.out.2.2.2.2.1.ext (by first | assumption | exact Ext.drew (Ext.refl _))) (HPE.out.2.2.2.2.2.ext (by first | assumption | exact Ext.drew (Ext.refl _)))).mono ?_)); rintro e wy ⟨k0, k1, rfl, hk0, hk1, hen2⟩; have hx2 : Ext wv wy := Ext.trans (by first | assumption | exact Ext.drew (Ext.refl _)) hen2) | (go_at_call 31; ((with_reducible refine (HR3.out _ (HEE.out.trans (by first | assumption | exact Ext.drew (Ext.refl _)))).mono ?_)); rintro e wz ⟨n0, n1, rfl, hn0, hn1, hen3⟩; have hx : Ext wv wz := Ext.trans (by first | assumption | exact Ext.drew (Ext.refl _)) hen3; clear gl; have XR := Blk.ext HJ.out.1 hx; have XS := Blk.ext HJ.out.2 hx))
      refine hK.out _ _ (by (try dsimp only); (first | (with_reducible assumption) | (with_reducible exact Own2.drew (Own2.refl _ _ _)) | (with_reducible (apply Own2.of_ext; assumption)))) (fun hH1_1 => ?_)
      clear hK K hH1_0
      (try simp only [Act.put, List.setIfInBounds_toArray, List.set_cons_zero, List.set_cons_succ])
      refine wpAnyH_take_l (i := 6) (v := ?v1_6) rfl (by kernel_rfl) (by kernel_rfl) (by kernel_rfl) (fun _ _ _ h => h) (Or.inl ⟨by rfl, ?y1_6⟩) (by assumption) ?r1_6
      case y1_6 => (intro w hSw; (try dsimp only at hSw); go_simp <;> with_reducible rfl)
      (try simp only [Act.put, List.setIfInBounds_toArray, List.set_cons_zero, List.set_cons_succ])
      refine wpAnyH_one_l (i := 8) rfl (by kernel_rfl) (fun K hK => ?_)
      go_simp
      (first | (go_at_call 31; ((with_reducible refine (HR1.out _ (HEE.out.trans (by first | assumption | exact Ext.drew (Ext.refl _)))).mono ?_)); rintro e wx ⟨i0, i1, rfl, hi0, hi1, hen1⟩; have hx1 : Ext wv wx := Ext.trans (by first | assumption | exact Ext.drew (Ext.refl _)) hen1) | (go_at_call 31; ((with_reducible refine (HR2.out _ _ _ (HPE.out.2.2.2.2.1.ext (by first | assumption | exact Ext.drew (Ext.refl _))) (HPE.out.2.2.2.2.2.ext (by first | assumption | exact Ext.drew (Ext.refl _)))).mono ?_)); rintro e wy ⟨k0, k1, rfl, hk0, hk1, hen2⟩; have hx2 : Ext wv wy := Ext.trans (by first | assumption | exact Ext.drew (Ext.refl _)) hen2) | (go_at_call 31; ((with_reducible refine (HR3.out _ (HEE.out.trans (by first | assumption | exact Ext.drew (Ext.refl _)))).mono ?_)); rintro e wz ⟨n0, n1, rfl, hn0, hn1, hen3⟩; have hx : Ext wv wz := Ext.trans (by first | assumption | exact Ext.drew (Ext.refl _)) hen3; clear gl; have XR := Blk.ext HJ.out.1 hx; have XS := Blk.ext HJ.out.2 hx))
      refine hK.out _ _ (by (try dsimp only); (first | (with_reducible assumption) | (with_reducible exact Own2.drew (Own2.refl _ _ _)) | (with_reducible (apply Own2.of_ext; assumption)))) (fun hH1_2 => ?_)
      clear hK K hH1_1
      (try simp only [Act.put, List.setIfInBounds_toArray, List.set_cons_zero, List.set_cons_succ])
      refine wpAnyH_one_l (i := 13) rfl (by kernel_rfl) (fun K hK => ?_)
      go_simp
      (first | (go_at_call 31; ((with_reducible refine (HR1.out _ (HEE.out.trans (by first | assumption | exact Ext.drew (Ext.refl _)))).mono ?_)); rintro e wx ⟨i0, i1, rfl, hi0, hi1, hen1⟩; have hx1 : Ext wv wx := Ext.trans (by first | assumption | exact Ext.drew (Ext.refl _)) hen1) | (go_at_call 31; ((with_reducible refine (HR2.out _ _ _ (HPE.out.2.2.2.2.1.ext (by first | assumption | exact Ext.drew (Ext.refl _))) (HPE.out.2.2.2.2.2.ext (by first | assumption | exact Ext.drew (Ext.refl _)))).mono ?_)); rintro e wy ⟨k0, k1, rfl, hk0, hk1, hen2⟩; have hx2 : Ext wv wy := Ext.trans (by first | assumption | exact Ext.drew (Ext.refl _)) hen2) | (go_at_call 31; ((with_reducible refine (HR3.out _ (HEE.out.trans (by first | assumption | exact Ext.drew (Ext.refl _)))).mono ?_)); rintro e wz ⟨n0, n1, rfl, hn0, hn1, hen3⟩; have hx : Ext wv wz := Ext.trans (by first | assumption | exact Ext.drew (Ext.refl _)) hen3; clear gl; have XR := Blk.ext HJ.out.1 hx; have XS := Blk.ext HJ.out.2 hx))
      refine hK.out _ _ (by (try dsimp only); (first | (with_reducible assumption) | (with_reducible exact Own2.drew (Own2.refl _ _ _)) | (with_reducible (apply Own2.of_ext; assumption)))) (fun hH1_3 => ?_)
      clear hK K hH1_2
      (try simp only [Act.put, List.setIfInBounds_toArray, List.set_cons_zero, List.set_cons_succ])
      refine wpAnyH_take_l (i := 14) (v := ?v1_14) rfl (by kernel_rfl) (by kernel_rfl) (by kernel_rfl) (fun _ _ _ h => h) (Or.inl ⟨by rfl, ?y1_14⟩) (by assumption) ?r1_14
      case y1_14 => (intro w hSw; (try dsimp only at hSw); go_simp <;> with_reducible rfl)
      (try simp only [Act.put, List.setIfInBounds_toArray, List.set_cons_zero, List.set_cons_succ])
      have o1 := Own.setCells wz R #[.bool i0.n, .slice i0.p i0.l i0.c, .bool i0.m, .slice i0.p2 i0.l2 i0.c2, .bool i1.n, .slice i1.p i1.l i1.c, .bool i1.m, .slice i1.p2 i1.l2 i1.c2, .bool e0.n, .slice e0.p e0.l e0.c, .bool e0.m, .slice e0.p2 e0.l2 e0.c2, .bool e1.n, .slice e1.p e1.l e1.c, .bool e1.m, .slice e1.p2 e1.l2 e1.c2, .bool r0.n, .slice r0.p r0.l r0.c, .bool r0.m, .slice r0.p2 r0.l2 r0.c2, .bool r1.n, .slice r1.p r1.l r1.c, .bool r1.m, .slice r1.p2 r1.l2 r1.c2, .bool m0.n, .slice m0.p m0.l m0.c, .bool m0.m, .slice m0.p2 m0.l2 m0.c2, .bool m1.n, .slice m1.p m1.l m1.c, .bool m1.m, .slice m1.p2 m1.l2 m1.c2]
      have o2 := Own.setCells (wz.setCells R 0 (#[.bool i0.n, .slice i0.p i0.l i0.c, .bool i0.m, .slice i0.p2 i0.l2 i0.c2, .bool i1.n, .slice i1.p i1.l i1.c, .bool i1.m, .slice i1.p2 i1.l2 i1.c2, .bool e0.n, .slice e0.p e0.l e0.c, .bool e0.m, .slice e0.p2 e0.l2 e0.c2, .bool e1.n, .slice e1.p e1.l e1.c, .bool e1.m, .slice e1.p2 e1.l2 e1.c2, .bool r0.n, .slice r0.p r0.l r0.c, .bool r0.m, .slice r0.p2 r0.l2 r0.c2, .bool r1.n, .slice r1.p r1.l r1.c, .bool r1.m, .slice r1.p2 r1.l2 r1.c2, .bool m0.n, .slice m0.p m0.l m0.c, .bool m0.m, .slice m0.p2 m0.l2 m0.c2, .bool m1.n, .slice m1.p m1.l m1.c, .bool m1.m, .slice m1.p2 m1.l2 m1.c2] : Array Value).toList) R2 #[.bool k0.n, .slice k0.p k0.l k0.c, .bool k0.m, .slice k0.p2 k0.l2 k0.c2, .bool k1.n, .slice k1.p k1.l k1.c, .bool k1.m, .slice k1.p2 k1.l2 k1.c2, .bool u0.n, .slice u0.p u0.l u0.c, .bool u0.m, .slice u0.p2 u0.l2 u0.c2, .bool u1.n, .slice u1.p u1.l u1.c, .bool u1.m, .slice u1.p2 u1.l2 u1.c2, .bool g0.n, .slice g0.p g0.l g0.c, .bool g0.m, .slice g0.p2 g0.l2 g0.c2, .bool g1.n, .slice g1.p g1.l g1.c, .bool g1.m, .slice g1.p2 g1.l2 g1.c2, .bool n0.n, .slice n0.p n0.l n0.c, .bool n0.m, .slice n0.p2 n0.l2 n0.c2, .bool n1.n, .slice n1.p n1.l n1.c, .bool n1.m, .slice n1.p2 n1.l2 n1.c2]
      have XS1 := XS.own o1 hrr
      have XR1 := XR.setCells #[.bool i0.n, .slice i0.p i0.l i0.c, .bool i0.m, .slice i0.p2 i0.l2 i0.c2, .bool i1.n, .slice i1.p i1.l i1.c, .bool i1.m, .slice i1.p2 i1.l2 i1.c2, .bool e0.n, .slice e0.p e0.l e0.c, .bool e0.m, .slice e0.p2 e0.l2 e0.c2, .bool e1.n, .slice e1.p e1.l e1.c, .bool e1.m, .slice e1.p2 e1.l2 e1.c2, .bool r0.n, .slice r0.p r0.l r0.c, .bool r0.m, .slice r0.p2 r0.l2 r0.c2, .bool r1.n, .slice r1.p r1.l r1.c, .bool r1.m, .slice r1.p2 r1.l2 r1.c2, .bool m0.n, .slice m0.p m0.l m0.c, .bool m0.m, .slice m0.p2 m0.l2 m0.c2, .bool m1.n, .slice m1.p m1.l m1.c, .bool m1.m, .slice m1.p2 m1.l2 m1.c2] rfl
      have HS1 := Lib.hid (show Own2 R R2 wv (wz.setCells R 0 (#[.bool i0.n, .slice i0.p i0.l i0.c, .bool i0.m, .slice i0.p2 i0.l2 i0.c2, .bool i1.n, .slice i1.p i1.l i1.c, .bool i1.m, .slice i1.p2 i1.l2 i1.c2, .bool e0.n, .slice e0.p e0.l e0.c, .bool e0.m, .slice e0.p2 e0.l2 e0.c2, .bool e1.n, .slice e1.p e1.l e1.c, .bool e1.m, .slice e1.p2 e1.l2 e1.c2, .bool r0.n, .slice r0.p r0.l r0.c, .bool r0.m, .slice r0.p2 r0.l2 r0.c2, .bool r1.n, .slice r1.p r1.l r1.c, .bool r1.m, .slice r1.p2 r1.l2 r1.c2, .bool m0.n, .slice m0.p m0.l m0.c, .bool m0.m, .slice m0.p2 m0.l2 m0.c2, .bool m1.n, .slice m1.p m1.l m1.c, .bool m1.m, .slice m1.p2 m1.l2 m1.c2] : Array Value).toList) from Own2.one (Own.then_ext' hx o1))
      have HS2 := Lib.hid (show Own2 R R2 wv ((wz.setCells R 0 (#[.bool i0.n, .slice i0.p i0.l i0.c, .bool i0.m, .slice i0.p2 i0.l2 i0.c2, .bool i1.n, .slice i1.p i1.l i1.c, .bool i1.m, .slice i1.p2 i1.l2 i1.c2, .bool e0.n, .slice e0.p e0.l e0.c, .bool e0.m, .slice e0.p2 e0.l2 e0.c2, .bool e1.n, .slice e1.p e1.l e1.c, .bool e1.m, .slice e1.p2 e1.l2 e1.c2, .bool r0.n, .slice r0.p r0.l r0.c, .bool r0.m, .slice r0.p2 r0.l2 r0.c2, .bool r1.n, .slice r1.p r1.l r1.c, .bool r1.m, .slice r1.p2 r1.l2 r1.c2, .bool m0.n, .slice m0.p m0.l m0.c, .bool m0.m, .slice m0.p2 m0.l2 m0.c2, .bool m1.n, .slice m1.p m1.l m1.c, .bool m1.m, .slice m1.p2 m1.l2 m1.c2] : Array Value).toList).setCells R2 0 (#[.bool k0.n, .slice k0.p k0.l k0.c, .bool k0.m, .slice k0.p2 k0.l2 k0.c2, .bool k1.n, .slice k1.p k1.l k1.c, .bool k1.m, .slice k1.p2 k1.l2 k1.c2, .bool u0.n, .slice u0.p u0.l u0.c, .bool u0.m, .slice u0.p2 u0.l2 u0.c2, .bool u1.n, .slice u1.p u1.l u1.c, .bool u1.m, .slice u1.p2 u1.l2 u1.c2, .bool g0.n, .slice g0.p g0.l g0.c, .bool g0.m, .slice g0.p2 g0.l2 g0.c2, .bool g1.n, .slice g1.p g1.l g1.c, .bool g1.m, .slice g1.p2 g1.l2 g1.c2, .bool n0.n, .slice n0.p n0.l n0.c, .bool n0.m, .slice n0.p2 n0.l2 n0.c2, .bool n1.n, .slice n1.p n1.l n1.c, .bool n1.m, .slice n1.p2 n1.l2 n1.c2] : Array Value).toList) from ⟨_, Own.then_ext' hx o1, o2⟩)
      refine wpAnyH_store_l (i := 15) (by rfl) (by kernel_rfl) (by rfl) _ _ _ (by rfl) R _ _ #[.bool i0.n, .slice i0.p i0.l i0.c, .bool i0.m, .slice i0.p2 i0.l2 i0.c2, .bool i1.n, .slice i1.p i1.l i1.c, .bool i1.m, .slice i1.p2 i1.l2 i1.c2, .bool e0.n, .slice e0.p e0.l e0.c, .bool e0.m, .slice e0.p2 e0.l2 e0.c2, .bool e1.n, .slice e1.p e1.l e1.c, .bool e1.m, .slice e1.p2 e1.l2 e1.c2, .bool r0.n, .slice r0.p r0.l r0.c, .bool r0.m, .slice r0.p2 r0.l2 r0.c2, .bool r1.n, .slice r1.p r1.l r1.c, .bool r1.m, .slice r1.p2 r1.l2 r1.c2, .bool m0.n, .slice m0.p m0.l m0.c, .bool m0.m, .slice m0.p2 m0.l2 m0.c2, .bool m1.n, .slice m1.p m1.l m1.c, .bool m1.m, .slice m1.p2 m1.l2 m1.c2] (by rfl) (by rfl) XR rfl (by kernel_rfl) (all_oneCell_toArray (by simp [Value.oneCell'])) HS1.out ?_
      (try simp only [Act.put, List.setIfInBounds_toArray, List.set_cons_zero, List.set_cons_succ])
      refine wpAnyH_store_l (i := 16) (by rfl) (by kernel_rfl) (by rfl) _ _ _ (by rfl) R2 _ _ #[.bool k0.n, .slice k0.p k0.l k0.c, .bool k0.m, .slice k0.p2 k0.l2 k0.c2, .bool k1.n, .slice k1.p k1.l k1.c, .bool k1.m, .slice k1.p2 k1.l2 k1.c2, .bool u0.n, .slice u0.p u0.l u0.c, .bool u0.m, .slice u0.p2 u0.l2 u0.c2, .bool u1.n, .slice u1.p u1.l u1.c, .bool u1.m, .slice u1.p2 u1.l2 u1.c2, .bool g0.n, .slice g0.p g0.l g0.c, .bool g0.m, .slice g0.p2 g0.l2 g0.c2, .bool g1.n, .slice g1.p g1.l g1.c, .bool g1.m, .slice g1.p2 g1.l2 g1.c2, .bool n0.n, .slice n0.p n0.l n0.c, .bool n0.m, .slice n0.p2 n0.l2 n0.c2, .bool n1.n, .slice n1.p n1.l n1.c, .bool n1.m, .slice n1.p2 n1.l2 n1.c2] (by rfl) (by rfl) XS1 rfl (by kernel_rfl) (all_oneCell_toArray (by simp [Value.oneCell'])) HS2.out ?_
      (try simp only [Act.put, List.setIfInBounds_toArray, List.set_cons_zero, List.set_cons_succ])
      refine wpAnyH_done (by kernel_rfl) ?_ _
      have fin : ∀ (r : RV) (q : Rat), r.Is wz q → r.Is ((wz.setCells R 0 (#[.bool i0.n, .slice i0.p i0.l i0.c, .bool i0.m, .slice i0.p2 i0.l2 i0.c2, .bool i1.n, .slice i1.p i1.l i1.c, .bool i1.m, .slice i1.p2 i1.l2 i1.c2, .bool e0.n, .slice e0.p e0.l e0.c, .bool e0.m, .slice e0.p2 e0.l2 e0.c2, .bool e1.n, .slice e1.p e1.l e1.c, .bool e1.m, .slice e1.p2 e1.l2 e1.c2, .bool r0.n, .slice r0.p r0.l r0.c, .bool r0.m, .slice r0.p2 r0.l2 r0.c2, .bool r1.n, .slice r1.p r1.l r1.c, .bool r1.m, .slice r1.p2 r1.l2 r1.c2, .bool m0.n, .slice m0.p m0.l m0.c, .bool m0.m, .slice m0.p2 m0.l2 m0.c2, .bool m1.n, .slice m1.p m1.l m1.c, .bool m1.m, .slice m1.p2 m1.l2 m1.c2] : Array Value).toList).setCells R2 0 (#[.bool k0.n, .slice k0.p k0.l k0.c, .bool k0.m, .slice k0.p2 k0.l2 k0.c2, .bool k1.n, .slice k1.p k1.l k1.c, .bool k1.m, .slice k1.p2 k1.l2 k1.c2, .bool u0.n, .slice u0.p u0.l u0.c, .bool u0.m, .slice u0.p2 u0.l2 u0.c2, .bool u1.n, .slice u1.p u1.l u1.c, .bool u1.m, .slice u1.p2 u1.l2 u1.c2, .bool g0.n, .slice g0.p g0.l g0.c, .bool g0.m, .slice g0.p2 g0.l2 g0.c2, .bool g1.n, .slice g1.p g1.l g1.c, .bool g1.m, .slice g1.p2 g1.l2 g1.c2, .bool n0.n, .slice n0.p n0.l n0.c, .bool n0.m, .slice n0.p2 n0.l2 n0.c2, .bool n1.n, .slice n1.p n1.l n1.c, .bool n1.m, .slice n1.p2 n1.l2 n1.c2] : Array Value).toList) q := fun r q h => (h.own XR noU32 o1).own XS1 noU32 o2
      have ex := o2.ext (o1.ext (HEE.out.trans hx) (by rw [HAA.out]; have := HLT.out; omega)) (by rw [HAA.out]; have := HLT.out; omega)
      have BR := XR1.own o2 hrs
      have BS := XS1.setCells #[.bool k0.n, .slice k0.p k0.l k0.c, .bool k0.m, .slice k0.p2 k0.l2 k0.c2, .bool k1.n, .slice k1.p k1.l k1.c, .bool k1.m, .slice k1.p2 k1.l2 k1.c2, .bool u0.n, .slice u0.p u0.l u0.c, .bool u0.m, .slice u0.p2 u0.l2 u0.c2, .bool u1.n, .slice u1.p u1.l u1.c, .bool u1.m, .slice u1.p2 u1.l2 u1.c2, .bool g0.n, .slice g0.p g0.l g0.c, .bool g0.m, .slice g0.p2 g0.l2 g0.c2, .bool g1.n, .slice g1.p g1.l g1.c, .bool g1.m, .slice g1.p2 g1.l2 g1.c2, .bool n0.n, .slice n0.p n0.l n0.c, .bool n0.m, .slice n0.p2 n0.l2 n0.c2, .bool n1.n, .slice n1.p n1.l n1.c, .bool n1.m, .slice n1.p2 n1.l2 n1.c2] rfl
      generalize ((wz.setCells R 0 (#[.bool i0.n, .slice i0.p i0.l i0.c, .bool i0.m, .slice i0.p2 i0.l2 i0.c2, .bool i1.n, .slice i1.p i1.l i1.c, .bool i1.m, .slice i1.p2 i1.l2 i1.c2, .bool e0.n, .slice e0.p e0.l e0.c, .bool e0.m, .slice e0.p2 e0.l2 e0.c2, .bool e1.n, .slice e1.p e1.l e1.c, .bool e1.m, .slice e1.p2 e1.l2 e1.c2, .bool r0.n, .slice r0.p r0.l r0.c, .bool r0.m, .slice r0.p2 r0.l2 r0.c2, .bool r1.n, .slice r1.p r1.l r1.c, .bool r1.m, .slice r1.p2 r1.l2 r1.c2, .bool m0.n, .slice m0.p m0.l m0.c, .bool m0.m, .slice m0.p2 m0.l2 m0.c2, .bool m1.n, .slice m1.p m1.l m1.c, .bool m1.m, .slice m1.p2 m1.l2 m1.c2] : Array Value).toList).setCells R2 0 (#[.bool k0.n, .slice k0.p k0.l k0.c, .bool k0.m, .slice k0.p2 k0.l2 k0.c2, .bool k1.n, .slice k1.p k1.l k1.c, .bool k1.m, .slice k1.p2 k1.l2 k1.c2, .bool u0.n, .slice u0.p u0.l u0.c, .bool u0.m, .slice u0.p2 u0.l2 u0.c2, .bool u1.n, .slice u1.p u1.l u1.c, .bool u1.m, .slice u1.p2 u1.l2 u1.c2, .bool g0.n, .slice g0.p g0.l g0.c, .bool g0.m, .slice g0.p2 g0.l2 g0.c2, .bool g1.n, .slice g1.p g1.l g1.c, .bool g1.m, .slice g1.p2 g1.l2 g1.c2, .bool n0.n, .slice n0.p n0.l n0.c, .bool n0.m, .slice n0.p2 n0.l2 n0.c2, .bool n1.n, .slice n1.p n1.l n1.c, .bool n1.m, .slice n1.p2 n1.l2 n1.c2] : Array Value).toList) = wf at *
      have HF2 := Lib.hid (And.intro fin ex)
      clear fin ex o1 o2 XS1 XR1 XR XS HS1 HS2
      go_wp2_with fail
      refine bodyPost_ret (v := .tuple #[.agg #[.bool i0.n, .slice i0.p i0.l i0.c, .bool i0.m, .slice i0.p2 i0.l2 i0.c2, .bool i1.n, .slice i1.p i1.l i1.c, .bool i1.m, .slice i1.p2 i1.l2 i1.c2, .bool e0.n, .slice e0.p e0.l e0.c, .bool e0.m, .slice e0.p2 e0.l2 e0.c2, .bool e1.n, .slice e1.p e1.l e1.c, .bool e1.m, .slice e1.p2 e1.l2 e1.c2, .bool r0.n, .slice r0.p r0.l r0.c, .bool r0.m, .slice r0.p2 r0.l2 r0.c2, .bool r1.n, .slice r1.p r1.l r1.c, .bool r1.m, .slice r1.p2 r1.l2 r1.c2, .bool m0.n, .slice m0.p m0.l m0.c, .bool m0.m, .slice m0.p2 m0.l2 m0.c2, .bool m1.n, .slice m1.p m1.l m1.c, .bool m1.m, .slice m1.p2 m1.l2 m1.c2], .agg #[.bool k0.n, .slice k0.p k0.l k0.c, .bool k0.m, .slice k0.p2 k0.l2 k0.c2, .bool k1.n, .slice k1.p k1.l k1.c, .bool k1.m, .slice k1.p2 k1.l2 k1.c2, .bool u0.n, .slice u0.p u0.l u0.c, .bool u0.m, .slice u0.p2 u0.l2 u0.c2, .bool u1.n, .slice u1.p u1.l u1.c, .bool u1.m, .slice u1.p2 u1.l2 u1.c2, .bool g0.n, .slice g0.p g0.l g0.c, .bool g0.m, .slice g0.p2 g0.l2 g0.c2, .bool g1.n, .slice g1.p g1.l g1.c, .bool g1.m, .slice g1.p2 g1.l2 g1.c2, .bool n0.n, .slice n0.p n0.l n0.c, .bool n0.m, .slice n0.p2 n0.l2 n0.c2, .bool n1.n, .slice n1.p n1.l n1.c, .bool n1.m, .slice n1.p2 n1.l2 n1.c2]]) ?_ rfl ⟨i0, i1, e0, e1, r0, r1, m0, m1, k0, k1, u0, u1, g0, g1, n0, n1, rfl, ⟨HF2.out.1 _ _ (hi0.ext (hen2.trans hen3)), HF2.out.1 _ _ (hi1.ext (hen2.trans hen3)), HF2.out.1 _ _ (HPE.out.1.1.ext hx), HF2.out.1 _ _ (HPE.out.1.2.ext hx), HF2.out.1 _ _ (HPE.out.2.2.1.1.ext hx), HF2.out.1 _ _ (HPE.out.2.2.1.2.ext hx), HF2.out.1 _ _ (HPE.out.2.2.2.2.1.ext hx), HF2.out.1 _ _ (HPE.out.2.2.2.2.2.ext hx)⟩, ⟨HF2.out.1 _ _ (hk0.ext hen3), HF2.out.1 _ _ (hk1.ext hen3), HF2.out.1 _ _ (HPE.out.2.2.2.1.1.ext hx), HF2.out.1 _ _ (HPE.out.2.2.2.1.2.ext hx), HF2.out.1 _ _ (HPE.out.2.1.1.ext hx), HF2.out.1 _ _ (HPE.out.2.1.2.ext hx), HF2.out.1 _ _ (hn0), HF2.out.1 _ _ (hn1)⟩, HF2.out.2⟩
      exact results_cell2 rfl rfl rfl (BR.loadVar rfl rfl rfl) (BS.loadVar rfl rfl rfl)
end Go.Proofs.YtllpkoinjompcaaGreat

namespace Go.Proofs.YtllpkoinjompcaaGreat
open Go.RowKit
attribute [local go_sem ↓] Go.wp_at_zero Go.wp_at_succ run_max_ii run_min_ii

set_option maxHeartbeats 1000000 in
theorem sameInt_any (n m : Bool) (u v : Value) (z : Int) (w : World) (hu : IntC w n u z) (hv : IntC w m v z) (hL : Nm.nl z.natAbs ≤ 1000000) :
    Calls Tryz.prog 62 #[.agg #[.bool n, u], .agg #[.bool m, v]] w fun e w' => e = .returned (.bool true) ∧ Ext w w' := by
  obtain ⟨rfl, p, cp, rfl, _, _, h3⟩ := hu
  obtain ⟨rfl, q, cq, rfl, _, _, h4⟩ := hv
  unfold Nm.nl at hL
  generalize Nm.digs z.natAbs = xs at *
  generalize decide (z < 0) = s at *
  have H3 := Lib.hid h3
  have H4 := Lib.hid h4
  clear h3 h4
  have HG := Lib.hid (show ∀ x, Ext ((w.alloc (.cells #[.bool s, .slice p xs.length cp] 24)).alloc (.cells #[.bool s, .slice q xs.length cq] 24)) x →
      x.cell? ⟨w.heap.size, 0, none⟩ = some (.bool s) ∧ x.cell? ⟨w.heap.size, 1, none⟩ = some (.slice p xs.length cp) ∧ x.cell? ⟨w.heap.size + 1, 0, none⟩ = some (.bool s) ∧ x.cell? ⟨w.heap.size + 1, 1, none⟩ = some (.slice q xs.length cq) from fun x h =>
    ⟨h.get (by simp), h.get (by simp), h.get (by simp), h.get (by simp)⟩)
  have HW := Lib.hid (show Ext w ((w.alloc (.cells #[.bool s, .slice p xs.length cp] 24)).alloc (.cells #[.bool s, .slice q xs.length cq] 24)) from ((Ext.refl _).alloc _).alloc _)
  have hbb : (s != s) = false := by cases s <;> rfl
  go_enter Tryz.func62, Tryz.ntmps62
  go_wp2_with fail
  generalize ((w.alloc (.cells #[.bool s, .slice p xs.length cp] 24)).alloc (.cells #[.bool s, .slice q xs.length cq] 24)) = wa at *
  go_loopw [5] (fun i wr => ∃ k : Nat, k ≤ xs.length ∧ i = .int .i64 k ∧ Ext wa wr) (fun i _ => xs.length - (intOf i).toNat)
  case atStart => exact ⟨0, Nat.zero_le _, rfl, Ext.refl _⟩
  case round =>
    obtain ⟨k, hk, rfl, he⟩ := hrel
    have gl := HG.out _ he
    have HE := Lib.hid he
    clear he
    by_cases hlt : k < xs.length
    · obtain ⟨b, o, rfl, hb⟩ := H3.out (by omega)
      obtain ⟨b2, o2, rfl, hb2⟩ := H4.out (by omega)
      have c0 := (HW.out.trans HE.out).get (hb k hlt)
      have c1 := (HW.out.trans HE.out).get (hb2 k hlt)
      clear hb hb2
      generalize (xs.getD k 0 : Nat) = d at c0 c1
      go_wp2_with fail
      go_quiet (fail)
      go_wp2_with fail
      go_roundw
      case rel => exact ⟨k + 1, hlt, by go_num, HE.out.drewN _⟩
      case measure => simp [intOf]; omega
    · go_wp2_with fail
      go_ret
      exact ⟨rfl, HW.out.trans HE.out⟩

set_option maxHeartbeats 1000000 in
theorem same_any (a b : RV) (q : Rat) (L : Nat) (w : World) (ha : a.Is w q) (hb : b.Is w q) (hq : Nm.rl q ≤ L) (hL : L ≤ 1000000) :
    Calls Tryz.prog 34 #[.agg #[.bool a.n, .slice a.p a.l a.c, .bool a.m, .slice a.p2 a.l2 a.c2], .agg #[.bool b.n, .slice b.p b.l b.c, .bool b.m, .slice b.p2 b.l2 b.c2]] w fun e w' => e = .returned (.bool true) ∧ Ext w w' := by
  have H1 := Lib.hid (fun W (x : Ext w W) => sameInt_any a.n b.n _ _ q.num W (ha.1.ext x) (hb.1.ext x) (by have := Nat.le_max_left (Nm.nl q.num.natAbs) (Nm.nl q.den); unfold Nm.rl at hq; omega))
  have H2 := Lib.hid (fun W (x : Ext w W) => sameInt_any a.m b.m _ _ (q.den : Int) W (ha.2.ext x) (hb.2.ext x) (by have := Nat.le_max_right (Nm.nl q.num.natAbs) (Nm.nl q.den); unfold Nm.rl at hq; simp only [Int.natAbs_natCast]; omega))
  have HG := Lib.hid (show ∀ x, Ext ((w.alloc (.cells #[.bool a.n, .slice a.p a.l a.c, .bool a.m, .slice a.p2 a.l2 a.c2] 26)).alloc (.cells #[.bool b.n, .slice b.p b.l b.c, .bool b.m, .slice b.p2 b.l2 b.c2] 26)) x →
      x.cell? ⟨w.heap.size, 0, none⟩ = some (.bool a.n) ∧ x.cell? ⟨w.heap.size, 1, none⟩ = some (.slice a.p a.l a.c) ∧ x.cell? ⟨w.heap.size, 2, none⟩ = some (.bool a.m) ∧ x.cell? ⟨w.heap.size, 3, none⟩ = some (.slice a.p2 a.l2 a.c2) ∧
      x.cell? ⟨w.heap.size + 1, 0, none⟩ = some (.bool b.n) ∧ x.cell? ⟨w.heap.size + 1, 1, none⟩ = some (.slice b.p b.l b.c) ∧ x.cell? ⟨w.heap.size + 1, 2, none⟩ = some (.bool b.m) ∧ x.cell? ⟨w.heap.size + 1, 3, none⟩ = some (.slice b.p2 b.l2 b.c2) from fun x h =>
    ⟨h.get (by simp), h.get (by simp), h.get (by simp), h.get (by simp), h.get (by simp), h.get (by simp), h.get (by simp), h.get (by simp)⟩)
  have HW := Lib.hid (show Ext w ((w.alloc (.cells #[.bool a.n, .slice a.p a.l a.c, .bool a.m, .slice a.p2 a.l2 a.c2] 26)).alloc (.cells #[.bool b.n, .slice b.p b.l b.c, .bool b.m, .slice b.p2 b.l2 b.c2] 26)) from ((Ext.refl _).alloc _).alloc _)
  clear ha hb
  go_enter Tryz.func34, Tryz.ntmps34
  go_wp2_with fail
  generalize ((w.alloc (.cells #[.bool a.n, .slice a.p a.l a.c, .bool a.m, .slice a.p2 a.l2 a.c2] 26)).alloc (.cells #[.bool b.n, .slice b.p b.l b.c, .bool b.m, .slice b.p2 b.l2 b.c2] 26)) = wa at *
  have gl := HG.out _ (Ext.refl _)
  go_wp2_with fail
  refine (H1.out _ HW.out).mono ?_
  rintro e wx ⟨rfl, hx1⟩
  clear gl
  have gl := HG.out _ hx1
  go_wp2_with fail
  refine (H2.out _ (HW.out.trans hx1)).mono ?_
  rintro e wy ⟨rfl, hx2⟩
  go_wp2_with fail
  go_ret
  exact ⟨rfl, HW.out.trans (hx1.trans hx2)⟩
end Go.Proofs.YtllpkoinjompcaaGreat

namespace Go.Proofs.YtllpkoinjompcaaGreat
open Go.RowKit
attribute [local go_sem ↓] Go.wp_at_zero Go.wp_at_succ run_max_ii run_min_ii

/-- A number has at most six digits in its fields. -/
def RV.short (a : RV) : Bool := decide (a.l ≤ 6) && decide (a.l2 ≤ 6)
theorem xshort_any (a : RV) (w : World) :
    Calls Tryz.prog 6 #[.agg #[.bool a.n, .slice a.p a.l a.c, .bool a.m, .slice a.p2 a.l2 a.c2]] w fun e w' => e = .returned (.bool a.short) ∧ Ext w w' := by
  have HG := Lib.hid (show ∀ x, Ext (w.alloc (.cells #[.bool a.n, .slice a.p a.l a.c, .bool a.m, .slice a.p2 a.l2 a.c2] 26)) x → x.cell? ⟨w.heap.size, 0, none⟩ = some (.bool a.n) ∧ x.cell? ⟨w.heap.size, 1, none⟩ = some (.slice a.p a.l a.c) ∧ x.cell? ⟨w.heap.size, 2, none⟩ = some (.bool a.m) ∧ x.cell? ⟨w.heap.size, 3, none⟩ = some (.slice a.p2 a.l2 a.c2) from fun x h => ⟨h.get (by simp), h.get (by simp), h.get (by simp), h.get (by simp)⟩)
  have gl := HG.out _ (Ext.refl _)
  by_cases hl : a.l ≤ 6
  · by_cases hl2 : a.l2 ≤ 6
    · have e1 : decide ((a.l : Int) ≤ 6) = true := by simp; omega
      have e2 : decide ((a.l2 : Int) ≤ 6) = true := by simp; omega
      have hr : a.short = true := by unfold RV.short; simp [hl, hl2]
      rw [hr]
      clear hr
      go_enter Tryz.func6, Tryz.ntmps6
      go_wp2_with fail
      go_ret
      exact ⟨rfl, (Ext.refl _).alloc _⟩
    · have e1 : decide ((a.l : Int) ≤ 6) = true := by simp; omega
      have e2 : decide ((a.l2 : Int) ≤ 6) = false := by simp; omega
      have hr : a.short = false := by unfold RV.short; simp [hl, hl2]
      rw [hr]
      clear hr
      go_enter Tryz.func6, Tryz.ntmps6
      go_wp2_with fail
      go_ret
      exact ⟨rfl, (Ext.refl _).alloc _⟩
  · have e1 : decide ((a.l : Int) ≤ 6) = false := by simp; omega
    have hr : a.short = false := by unfold RV.short; simp [hl]
    rw [hr]
    clear hr
    go_enter Tryz.func6, Tryz.ntmps6
    go_wp2_with fail
    go_ret
    exact ⟨rfl, (Ext.refl _).alloc _⟩

set_option maxRecDepth 20000 in
set_option maxHeartbeats 2000000 in
theorem exactQuad_any (a0 a1 b0 b1 c0 c1 d0 d1 : RV) (w : World) :
    Calls Tryz.prog 8 #[.agg #[.bool a0.n, .slice a0.p a0.l a0.c, .bool a0.m, .slice a0.p2 a0.l2 a0.c2, .bool a1.n, .slice a1.p a1.l a1.c, .bool a1.m, .slice a1.p2 a1.l2 a1.c2, .bool b0.n, .slice b0.p b0.l b0.c, .bool b0.m, .slice b0.p2 b0.l2 b0.c2, .bool b1.n, .slice b1.p b1.l b1.c, .bool b1.m, .slice b1.p2 b1.l2 b1.c2, .bool c0.n, .slice c0.p c0.l c0.c, .bool c0.m, .slice c0.p2 c0.l2 c0.c2, .bool c1.n, .slice c1.p c1.l c1.c, .bool c1.m, .slice c1.p2 c1.l2 c1.c2, .bool d0.n, .slice d0.p d0.l d0.c, .bool d0.m, .slice d0.p2 d0.l2 d0.c2, .bool d1.n, .slice d1.p d1.l d1.c, .bool d1.m, .slice d1.p2 d1.l2 d1.c2]] w fun e w' => e = .returned (.agg #[.bool a0.n, .slice a0.p a0.l a0.c, .bool a0.m, .slice a0.p2 a0.l2 a0.c2, .bool a1.n, .slice a1.p a1.l a1.c, .bool a1.m, .slice a1.p2 a1.l2 a1.c2, .bool b0.n, .slice b0.p b0.l b0.c, .bool b0.m, .slice b0.p2 b0.l2 b0.c2, .bool b1.n, .slice b1.p b1.l b1.c, .bool b1.m, .slice b1.p2 b1.l2 b1.c2, .bool c0.n, .slice c0.p c0.l c0.c, .bool c0.m, .slice c0.p2 c0.l2 c0.c2, .bool c1.n, .slice c1.p c1.l c1.c, .bool c1.m, .slice c1.p2 c1.l2 c1.c2]) ∧ Ext w w' := by
  have HG := Lib.hid (show ∀ x, Ext ((w.alloc (.cells #[.bool a0.n, .slice a0.p a0.l a0.c, .bool a0.m, .slice a0.p2 a0.l2 a0.c2, .bool a1.n, .slice a1.p a1.l a1.c, .bool a1.m, .slice a1.p2 a1.l2 a1.c2, .bool b0.n, .slice b0.p b0.l b0.c, .bool b0.m, .slice b0.p2 b0.l2 b0.c2, .bool b1.n, .slice b1.p b1.l b1.c, .bool b1.m, .slice b1.p2 b1.l2 b1.c2, .bool c0.n, .slice c0.p c0.l c0.c, .bool c0.m, .slice c0.p2 c0.l2 c0.c2, .bool c1.n, .slice c1.p c1.l c1.c, .bool c1.m, .slice c1.p2 c1.l2 c1.c2, .bool d0.n, .slice d0.p d0.l d0.c, .bool d0.m, .slice d0.p2 d0.l2 d0.c2, .bool d1.n, .slice d1.p d1.l d1.c, .bool d1.m, .slice d1.p2 d1.l2 d1.c2] 28)).alloc (.cells #[.bool RV.zero.n, .slice RV.zero.p RV.zero.l RV.zero.c, .bool RV.zero.m, .slice RV.zero.p2 RV.zero.l2 RV.zero.c2, .bool RV.zero.n, .slice RV.zero.p RV.zero.l RV.zero.c, .bool RV.zero.m, .slice RV.zero.p2 RV.zero.l2 RV.zero.c2, .bool RV.zero.n, .slice RV.zero.p RV.zero.l RV.zero.c, .bool RV.zero.m, .slice RV.zero.p2 RV.zero.l2 RV.zero.c2, .bool RV.zero.n, .slice RV.zero.p RV.zero.l RV.zero.c, .bool RV.zero.m, .slice RV.zero.p2 RV.zero.l2 RV.zero.c2, .bool RV.zero.n, .slice RV.zero.p RV.zero.l RV.zero.c, .bool RV.zero.m, .slice RV.zero.p2 RV.zero.l2 RV.zero.c2, .bool RV.zero.n, .slice RV.zero.p RV.zero.l RV.zero.c, .bool RV.zero.m, .slice RV.zero.p2 RV.zero.l2 RV.zero.c2] 32)) x → x.cell? ⟨w.heap.size, 0, none⟩ = some (.bool a0.n) ∧ x.cell? ⟨w.heap.size, 1, none⟩ = some (.slice a0.p a0.l a0.c) ∧ x.cell? ⟨w.heap.size, 2, none⟩ = some (.bool a0.m) ∧ x.cell? ⟨w.heap.size, 3, none⟩ = some (.slice a0.p2 a0.l2 a0.c2) ∧ x.cell? ⟨w.heap.size, 4, none⟩ = some (.bool a1.n) ∧ x.cell? ⟨w.heap.size, 5, none⟩ = some (.slice a1.p a1.l a1.c) ∧ x.cell? ⟨w.heap.size, 6, none⟩ = some (.bool a1.m) ∧ x.cell? ⟨w.heap.size, 7, none⟩ = some (.slice a1.p2 a1.l2 a1.c2) ∧ x.cell? ⟨w.heap.size, 8, none⟩ = some (.bool b0.n) ∧ x.cell? ⟨w.heap.size, 9, none⟩ = some (.slice b0.p b0.l b0.c) ∧ x.cell? ⟨w.heap.size, 10, none⟩ = some (.bool b0.m) ∧ x.cell? ⟨w.heap.size, 11, none⟩ = some (.slice b0.p2 b0.l2 b0.c2) ∧ x.cell? ⟨w.heap.size, 12, none⟩ = some (.bool b1.n) ∧ x.cell? ⟨w.heap.size, 13, none⟩ = some (.slice b1.p b1.l b1.c) ∧ x.cell? ⟨w.heap.size, 14, none⟩ = some (.bool b1.m) ∧ x.cell? ⟨w.heap.size, 15, none⟩ = some (.slice b1.p2 b1.l2 b1.c2) ∧ x.cell? ⟨w.heap.size, 16, none⟩ = some (.bool c0.n) ∧ x.cell? ⟨w.heap.size, 17, none⟩ = some (.slice c0.p c0.l c0.c) ∧ x.cell? ⟨w.heap.size, 18, none⟩ = some (.bool c0.m) ∧ x.cell? ⟨w.heap.size, 19, none⟩ = some (.slice c0.p2 c0.l2 c0.c2) ∧ x.cell? ⟨w.heap.size, 20, none⟩ = some (.bool c1.n) ∧ x.cell? ⟨w.heap.size, 21, none⟩ = some (.slice c1.p c1.l c1.c) ∧ x.cell? ⟨w.heap.size, 22, none⟩ = some (.bool c1.m) ∧ x.cell? ⟨w.heap.size, 23, none⟩ = some (.slice c1.p2 c1.l2 c1.c2) ∧ x.cell? ⟨w.heap.size, 24, none⟩ = some (.bool d0.n) ∧ x.cell? ⟨w.heap.size, 25, none⟩ = some (.slice d0.p d0.l d0.c) ∧ x.cell? ⟨w.heap.size, 26, none⟩ = some (.bool d0.m) ∧ x.cell? ⟨w.heap.size, 27, none⟩ = some (.slice d0.p2 d0.l2 d0.c2) ∧ x.cell? ⟨w.heap.size, 28, none⟩ = some (.bool d1.n) ∧ x.cell? ⟨w.heap.size, 29, none⟩ = some (.slice d1.p d1.l d1.c) ∧ x.cell? ⟨w.heap.size, 30, none⟩ = some (.bool d1.m) ∧ x.cell? ⟨w.heap.size, 31, none⟩ = some (.slice d1.p2 d1.l2 d1.c2) from fun x h => ⟨h.get (by simp), h.get (by simp), h.get (by simp), h.get (by simp), h.get (by simp), h.get (by simp), h.get (by simp), h.get (by simp), h.get (by simp), h.get (by simp), h.get (by simp), h.get (by simp), h.get (by simp), h.get (by simp), h.get (by simp), h.get (by simp), h.get (by simp), h.get (by simp), h.get (by simp), h.get (by simp), h.get (by simp), h.get (by simp), h.get (by simp), h.get (by simp), h.get (by simp), h.get (by simp), h.get (by simp), h.get (by simp), h.get (by simp), h.get (by simp), h.get (by simp), h.get (by simp)⟩)
  have gl := HG.out _ (Ext.refl _)
  have bR : Blk ((w.alloc (.cells #[.bool a0.n, .slice a0.p a0.l a0.c, .bool a0.m, .slice a0.p2 a0.l2 a0.c2, .bool a1.n, .slice a1.p a1.l a1.c, .bool a1.m, .slice a1.p2 a1.l2 a1.c2, .bool b0.n, .slice b0.p b0.l b0.c, .bool b0.m, .slice b0.p2 b0.l2 b0.c2, .bool b1.n, .slice b1.p b1.l b1.c, .bool b1.m, .slice b1.p2 b1.l2 b1.c2, .bool c0.n, .slice c0.p c0.l c0.c, .bool c0.m, .slice c0.p2 c0.l2 c0.c2, .bool c1.n, .slice c1.p c1.l c1.c, .bool c1.m, .slice c1.p2 c1.l2 c1.c2, .bool d0.n, .slice d0.p d0.l d0.c, .bool d0.m, .slice d0.p2 d0.l2 d0.c2, .bool d1.n, .slice d1.p d1.l d1.c, .bool d1.m, .slice d1.p2 d1.l2 d1.c2] 28)).alloc (.cells #[.bool RV.zero.n, .slice RV.zero.p RV.zero.l RV.zero.c, .bool RV.zero.m, .slice RV.zero.p2 RV.zero.l2 RV.zero.c2, .bool RV.zero.n, .slice RV.zero.p RV.zero.l RV.zero.c, .bool RV.zero.m, .slice RV.zero.p2 RV.zero.l2 RV.zero.c2, .bool RV.zero.n, .slice RV.zero.p RV.zero.l RV.zero.c, .bool RV.zero.m, .slice RV.zero.p2 RV.zero.l2 RV.zero.c2, .bool RV.zero.n, .slice RV.zero.p RV.zero.l RV.zero.c, .bool RV.zero.m, .slice RV.zero.p2 RV.zero.l2 RV.zero.c2, .bool RV.zero.n, .slice RV.zero.p RV.zero.l RV.zero.c, .bool RV.zero.m, .slice RV.zero.p2 RV.zero.l2 RV.zero.c2, .bool RV.zero.n, .slice RV.zero.p RV.zero.l RV.zero.c, .bool RV.zero.m, .slice RV.zero.p2 RV.zero.l2 RV.zero.c2] 32)) (w.heap.size + 1) 32 #[.bool RV.zero.n, .slice RV.zero.p RV.zero.l RV.zero.c, .bool RV.zero.m, .slice RV.zero.p2 RV.zero.l2 RV.zero.c2, .bool RV.zero.n, .slice RV.zero.p RV.zero.l RV.zero.c, .bool RV.zero.m, .slice RV.zero.p2 RV.zero.l2 RV.zero.c2, .bool RV.zero.n, .slice RV.zero.p RV.zero.l RV.zero.c, .bool RV.zero.m, .slice RV.zero.p2 RV.zero.l2 RV.zero.c2, .bool RV.zero.n, .slice RV.zero.p RV.zero.l RV.zero.c, .bool RV.zero.m, .slice RV.zero.p2 RV.zero.l2 RV.zero.c2, .bool RV.zero.n, .slice RV.zero.p RV.zero.l RV.zero.c, .bool RV.zero.m, .slice RV.zero.p2 RV.zero.l2 RV.zero.c2, .bool RV.zero.n, .slice RV.zero.p RV.zero.l RV.zero.c, .bool RV.zero.m, .slice RV.zero.p2 RV.zero.l2 RV.zero.c2] := Blk.new_at _ _ (by simp) _ _
  have hE : Ext w ((w.alloc (.cells #[.bool a0.n, .slice a0.p a0.l a0.c, .bool a0.m, .slice a0.p2 a0.l2 a0.c2, .bool a1.n, .slice a1.p a1.l a1.c, .bool a1.m, .slice a1.p2 a1.l2 a1.c2, .bool b0.n, .slice b0.p b0.l b0.c, .bool b0.m, .slice b0.p2 b0.l2 b0.c2, .bool b1.n, .slice b1.p b1.l b1.c, .bool b1.m, .slice b1.p2 b1.l2 b1.c2, .bool c0.n, .slice c0.p c0.l c0.c, .bool c0.m, .slice c0.p2 c0.l2 c0.c2, .bool c1.n, .slice c1.p c1.l c1.c, .bool c1.m, .slice c1.p2 c1.l2 c1.c2, .bool d0.n, .slice d0.p d0.l d0.c, .bool d0.m, .slice d0.p2 d0.l2 d0.c2, .bool d1.n, .slice d1.p d1.l d1.c, .bool d1.m, .slice d1.p2 d1.l2 d1.c2] 28)).alloc (.cells #[.bool RV.zero.n, .slice RV.zero.p RV.zero.l RV.zero.c, .bool RV.zero.m, .slice RV.zero.p2 RV.zero.l2 RV.zero.c2, .bool RV.zero.n, .slice RV.zero.p RV.zero.l RV.zero.c, .bool RV.zero.m, .slice RV.zero.p2 RV.zero.l2 RV.zero.c2, .bool RV.zero.n, .slice RV.zero.p RV.zero.l RV.zero.c, .bool RV.zero.m, .slice RV.zero.p2 RV.zero.l2 RV.zero.c2, .bool RV.zero.n, .slice RV.zero.p RV.zero.l RV.zero.c, .bool RV.zero.m, .slice RV.zero.p2 RV.zero.l2 RV.zero.c2, .bool RV.zero.n, .slice RV.zero.p RV.zero.l RV.zero.c, .bool RV.zero.m, .slice RV.zero.p2 RV.zero.l2 RV.zero.c2, .bool RV.zero.n, .slice RV.zero.p RV.zero.l RV.zero.c, .bool RV.zero.m, .slice RV.zero.p2 RV.zero.l2 RV.zero.c2] 32)) := ((Ext.refl _).alloc _).alloc _
  have hlt : w.heap.size ≤ w.heap.size + 1 := by omega
  go_enter Tryz.func8, Tryz.ntmps8
  go_upto_region 1 with fail
  obtain ⟨wa, hwa⟩ : ∃ wa, wa = ((w.alloc (.cells #[.bool a0.n, .slice a0.p a0.l a0.c, .bool a0.m, .slice a0.p2 a0.l2 a0.c2, .bool a1.n, .slice a1.p a1.l a1.c, .bool a1.m, .slice a1.p2 a1.l2 a1.c2, .bool b0.n, .slice b0.p b0.l b0.c, .bool b0.m, .slice b0.p2 b0.l2 b0.c2, .bool b1.n, .slice b1.p b1.l b1.c, .bool b1.m, .slice b1.p2 b1.l2 b1.c2, .bool c0.n, .slice c0.p c0.l c0.c, .bool c0.m, .slice c0.p2 c0.l2 c0.c2, .bool c1.n, .slice c1.p c1.l c1.c, .bool c1.m, .slice c1.p2 c1.l2 c1.c2, .bool d0.n, .slice d0.p d0.l d0.c, .bool d0.m, .slice d0.p2 d0.l2 d0.c2, .bool d1.n, .slice d1.p d1.l d1.c, .bool d1.m, .slice d1.p2 d1.l2 d1.c2] 28)).alloc (.cells #[.bool RV.zero.n, .slice RV.zero.p RV.zero.l RV.zero.c, .bool RV.zero.m, .slice RV.zero.p2 RV.zero.l2 RV.zero.c2, .bool RV.zero.n, .slice RV.zero.p RV.zero.l RV.zero.c, .bool RV.zero.m, .slice RV.zero.p2 RV.zero.l2 RV.zero.c2, .bool RV.zero.n, .slice RV.zero.p RV.zero.l RV.zero.c, .bool RV.zero.m, .slice RV.zero.p2 RV.zero.l2 RV.zero.c2, .bool RV.zero.n, .slice RV.zero.p RV.zero.l RV.zero.c, .bool RV.zero.m, .slice RV.zero.p2 RV.zero.l2 RV.zero.c2, .bool RV.zero.n, .slice RV.zero.p RV.zero.l RV.zero.c, .bool RV.zero.m, .slice RV.zero.p2 RV.zero.l2 RV.zero.c2, .bool RV.zero.n, .slice RV.zero.p RV.zero.l RV.zero.c, .bool RV.zero.m, .slice RV.zero.p2 RV.zero.l2 RV.zero.c2] 32)) := ⟨_, rfl⟩
  have hwa2 := hwa
  simp only [RV.zero] at hwa2
  rw [← hwa] at HG gl bR hE
  rw [← hwa2]
  clear hwa hwa2
  generalize w.heap.size + 1 = R at *
  refine wp_region_lit ?_
  refine wpList_val (v := ?v0) (w' := wa) rfl ?h0 ?r0
  case h0 => (go_simp <;> with_reducible rfl)
  (try simp only [Act.put, List.setIfInBounds_toArray, List.set_cons_zero, List.set_cons_succ])
  refine wpList_val (v := ?v1) (w' := wa) rfl ?h1 ?r1
  case h1 => (go_simp <;> with_reducible rfl)
  (try simp only [Act.put, List.setIfInBounds_toArray, List.set_cons_zero, List.set_cons_succ])
  refine wpList_val (v := ?v2) (w' := wa) rfl ?h2 ?r2
  case h2 => (go_simp <;> with_reducible rfl)
  (try simp only [Act.put, List.setIfInBounds_toArray, List.set_cons_zero, List.set_cons_succ])
  refine wpList_val (v := ?v3) (w' := wa) rfl ?h3 ?r3
  case h3 => (go_simp <;> with_reducible rfl)
  (try simp only [Act.put, List.setIfInBounds_toArray, List.set_cons_zero, List.set_cons_succ])
  refine wpList_val (v := ?v4) (w' := wa) rfl ?h4 ?r4
  case h4 => (go_simp <;> with_reducible rfl)
  (try simp only [Act.put, List.setIfInBounds_toArray, List.set_cons_zero, List.set_cons_succ])
  refine wpList_val (v := ?v5) (w' := wa) rfl ?h5 ?r5
  case h5 => (go_simp <;> with_reducible rfl)
  (try simp only [Act.put, List.setIfInBounds_toArray, List.set_cons_zero, List.set_cons_succ])
  refine wpList_val (v := ?v6) (w' := wa) rfl ?h6 ?r6
  case h6 => (go_simp <;> with_reducible rfl)
  (try simp only [Act.put, List.setIfInBounds_toArray, List.set_cons_zero, List.set_cons_succ])
  refine wpList_store_blk rfl _ _ _ rfl R _ _ #[.bool a0.n, .slice a0.p a0.l a0.c, .bool a0.m, .slice a0.p2 a0.l2 a0.c2, .bool a1.n, .slice a1.p a1.l a1.c, .bool a1.m, .slice a1.p2 a1.l2 a1.c2, .bool b0.n, .slice b0.p b0.l b0.c, .bool b0.m, .slice b0.p2 b0.l2 b0.c2, .bool b1.n, .slice b1.p b1.l b1.c, .bool b1.m, .slice b1.p2 b1.l2 b1.c2, .bool c0.n, .slice c0.p c0.l c0.c, .bool c0.m, .slice c0.p2 c0.l2 c0.c2, .bool c1.n, .slice c1.p c1.l c1.c, .bool c1.m, .slice c1.p2 c1.l2 c1.c2] (by rfl) (by rfl) bR rfl (by kernel_rfl) (all_oneCell_toArray (by simp [Value.oneCell'])) ?_
  (try simp only [Act.put, List.setIfInBounds_toArray, List.set_cons_zero, List.set_cons_succ])
  have hb := bR.setCells #[.bool a0.n, .slice a0.p a0.l a0.c, .bool a0.m, .slice a0.p2 a0.l2 a0.c2, .bool a1.n, .slice a1.p a1.l a1.c, .bool a1.m, .slice a1.p2 a1.l2 a1.c2, .bool b0.n, .slice b0.p b0.l b0.c, .bool b0.m, .slice b0.p2 b0.l2 b0.c2, .bool b1.n, .slice b1.p b1.l b1.c, .bool b1.m, .slice b1.p2 b1.l2 b1.c2, .bool c0.n, .slice c0.p c0.l c0.c, .bool c0.m, .slice c0.p2 c0.l2 c0.c2, .bool c1.n, .slice c1.p c1.l c1.c, .bool c1.m, .slice c1.p2 c1.l2 c1.c2] rfl
  have ho := Own.setCells wa R #[.bool a0.n, .slice a0.p a0.l a0.c, .bool a0.m, .slice a0.p2 a0.l2 a0.c2, .bool a1.n, .slice a1.p a1.l a1.c, .bool a1.m, .slice a1.p2 a1.l2 a1.c2, .bool b0.n, .slice b0.p b0.l b0.c, .bool b0.m, .slice b0.p2 b0.l2 b0.c2, .bool b1.n, .slice b1.p b1.l b1.c, .bool b1.m, .slice b1.p2 b1.l2 b1.c2, .bool c0.n, .slice c0.p c0.l c0.c, .bool c0.m, .slice c0.p2 c0.l2 c0.c2, .bool c1.n, .slice c1.p c1.l c1.c, .bool c1.m, .slice c1.p2 c1.l2 c1.c2]
  generalize wa.setCells R 0 (#[.bool a0.n, .slice a0.p a0.l a0.c, .bool a0.m, .slice a0.p2 a0.l2 a0.c2, .bool a1.n, .slice a1.p a1.l a1.c, .bool a1.m, .slice a1.p2 a1.l2 a1.c2, .bool b0.n, .slice b0.p b0.l b0.c, .bool b0.m, .slice b0.p2 b0.l2 b0.c2, .bool b1.n, .slice b1.p b1.l b1.c, .bool b1.m, .slice b1.p2 b1.l2 b1.c2, .bool c0.n, .slice c0.p c0.l c0.c, .bool c0.m, .slice c0.p2 c0.l2 c0.c2, .bool c1.n, .slice c1.p c1.l c1.c, .bool c1.m, .slice c1.p2 c1.l2 c1.c2] : Array Value).toList = wb at *
  go_wp2_with fail
  refine bodyPost_ret (v := .agg #[.bool a0.n, .slice a0.p a0.l a0.c, .bool a0.m, .slice a0.p2 a0.l2 a0.c2, .bool a1.n, .slice a1.p a1.l a1.c, .bool a1.m, .slice a1.p2 a1.l2 a1.c2, .bool b0.n, .slice b0.p b0.l b0.c, .bool b0.m, .slice b0.p2 b0.l2 b0.c2, .bool b1.n, .slice b1.p b1.l b1.c, .bool b1.m, .slice b1.p2 b1.l2 b1.c2, .bool c0.n, .slice c0.p c0.l c0.c, .bool c0.m, .slice c0.p2 c0.l2 c0.c2, .bool c1.n, .slice c1.p c1.l c1.c, .bool c1.m, .slice c1.p2 c1.l2 c1.c2]) ?_ rfl ⟨rfl, ho.ext hE hlt⟩
  exact results_cell1 rfl rfl (hb.loadVar rfl rfl rfl)

set_option maxHeartbeats 1000000 in
theorem samePoint_any (a b c d : RV) (x y : Rat) (L : Nat) (w : World) (ha : a.Is w x) (hb : b.Is w y) (hc : c.Is w x) (hd : d.Is w y) (hx : Nm.rl x ≤ L) (hy : Nm.rl y ≤ L) (hL : L ≤ 1000000) :
    Calls Tryz.prog 13 #[.agg #[.bool a.n, .slice a.p a.l a.c, .bool a.m, .slice a.p2 a.l2 a.c2, .bool b.n, .slice b.p b.l b.c, .bool b.m, .slice b.p2 b.l2 b.c2], .agg #[.bool c.n, .slice c.p c.l c.c, .bool c.m, .slice c.p2 c.l2 c.c2, .bool d.n, .slice d.p d.l d.c, .bool d.m, .slice d.p2 d.l2 d.c2]] w fun e w' => e = .returned (.bool true) ∧ Ext w w' := by
  have H1 := Lib.hid (fun W (e : Ext w W) => same_any a c x L W (ha.ext e) (hc.ext e) hx hL)
  have H2 := Lib.hid (fun W (e : Ext w W) => same_any b d y L W (hb.ext e) (hd.ext e) hy hL)
  have HG := Lib.hid (show ∀ x, Ext ((w.alloc (.cells #[.bool a.n, .slice a.p a.l a.c, .bool a.m, .slice a.p2 a.l2 a.c2, .bool b.n, .slice b.p b.l b.c, .bool b.m, .slice b.p2 b.l2 b.c2] 27)).alloc (.cells #[.bool c.n, .slice c.p c.l c.c, .bool c.m, .slice c.p2 c.l2 c.c2, .bool d.n, .slice d.p d.l d.c, .bool d.m, .slice d.p2 d.l2 d.c2] 27)) x → x.cell? ⟨w.heap.size, 0, none⟩ = some (.bool a.n) ∧ x.cell? ⟨w.heap.size, 1, none⟩ = some (.slice a.p a.l a.c) ∧ x.cell? ⟨w.heap.size, 2, none⟩ = some (.bool a.m) ∧ x.cell? ⟨w.heap.size, 3, none⟩ = some (.slice a.p2 a.l2 a.c2) ∧ x.cell? ⟨w.heap.size, 4, none⟩ = some (.bool b.n) ∧ x.cell? ⟨w.heap.size, 5, none⟩ = some (.slice b.p b.l b.c) ∧ x.cell? ⟨w.heap.size, 6, none⟩ = some (.bool b.m) ∧ x.cell? ⟨w.heap.size, 7, none⟩ = some (.slice b.p2 b.l2 b.c2) ∧ x.cell? ⟨w.heap.size + 1, 0, none⟩ = some (.bool c.n) ∧ x.cell? ⟨w.heap.size + 1, 1, none⟩ = some (.slice c.p c.l c.c) ∧ x.cell? ⟨w.heap.size + 1, 2, none⟩ = some (.bool c.m) ∧ x.cell? ⟨w.heap.size + 1, 3, none⟩ = some (.slice c.p2 c.l2 c.c2) ∧ x.cell? ⟨w.heap.size + 1, 4, none⟩ = some (.bool d.n) ∧ x.cell? ⟨w.heap.size + 1, 5, none⟩ = some (.slice d.p d.l d.c) ∧ x.cell? ⟨w.heap.size + 1, 6, none⟩ = some (.bool d.m) ∧ x.cell? ⟨w.heap.size + 1, 7, none⟩ = some (.slice d.p2 d.l2 d.c2) from fun x h => ⟨h.get (by simp), h.get (by simp), h.get (by simp), h.get (by simp), h.get (by simp), h.get (by simp), h.get (by simp), h.get (by simp), h.get (by simp), h.get (by simp), h.get (by simp), h.get (by simp), h.get (by simp), h.get (by simp), h.get (by simp), h.get (by simp)⟩)
  have HW := Lib.hid (show Ext w ((w.alloc (.cells #[.bool a.n, .slice a.p a.l a.c, .bool a.m, .slice a.p2 a.l2 a.c2, .bool b.n, .slice b.p b.l b.c, .bool b.m, .slice b.p2 b.l2 b.c2] 27)).alloc (.cells #[.bool c.n, .slice c.p c.l c.c, .bool c.m, .slice c.p2 c.l2 c.c2, .bool d.n, .slice d.p d.l d.c, .bool d.m, .slice d.p2 d.l2 d.c2] 27)) from ((Ext.refl _).alloc _).alloc _)
  clear ha hb hc hd hx hy
  go_enter Tryz.func13, Tryz.ntmps13
  go_wp2_with fail
  generalize ((w.alloc (.cells #[.bool a.n, .slice a.p a.l a.c, .bool a.m, .slice a.p2 a.l2 a.c2, .bool b.n, .slice b.p b.l b.c, .bool b.m, .slice b.p2 b.l2 b.c2] 27)).alloc (.cells #[.bool c.n, .slice c.p c.l c.c, .bool c.m, .slice c.p2 c.l2 c.c2, .bool d.n, .slice d.p d.l d.c, .bool d.m, .slice d.p2 d.l2 d.c2] 27)) = wa at *
  have gl := HG.out _ (Ext.refl _)
  go_wp2_with fail
  refine (H1.out _ HW.out).mono ?_
  rintro e wx ⟨rfl, hx1⟩
  clear gl
  have gl := HG.out _ hx1
  go_wp2_with fail
  refine (H2.out _ (HW.out.trans hx1)).mono ?_
  rintro e wy ⟨rfl, hx2⟩
  go_wp2_with fail
  go_ret
  exact ⟨rfl, HW.out.trans (hx1.trans hx2)⟩
end Go.Proofs.YtllpkoinjompcaaGreat
