/- Contracts that the claim stands on: XRefO to XNumP. -/
import Derived.Deep.DeepCutAuto
import Derived.ChangeSlices
import Derived.Deep.MidRow
import Derived.Deep.AppendLies
import Derived.Test.YtmgibncehlpfkaaGreatM2
namespace Go.Proofs.YtmgibncehlpfkaaGreat
open Go.RowKit
attribute [local go_sem ↓] Go.wp_at_zero Go.wp_at_succ run_max_ii run_min_ii

theorem reduce_parts {y z : Int} (hz : z ≠ 0) :
    (0 < z → y = (Rat.divInt y z).num * (y.natAbs.gcd z.natAbs : Nat) ∧ z = ((Rat.divInt y z).den : Int) * (y.natAbs.gcd z.natAbs : Nat)) ∧
    (z < 0 → -y = (Rat.divInt y z).num * (y.natAbs.gcd z.natAbs : Nat) ∧ -z = ((Rat.divInt y z).den : Int) * (y.natAbs.gcd z.natAbs : Nat)) := by
  obtain ⟨e1, e2⟩ := Nm.num_of_pair y z hz
  have e3 := Nm.den_of_pair y z hz
  have d1 : (Rat.divInt y z).num.natAbs * y.natAbs.gcd z.natAbs = y.natAbs := by rw [e1]; exact Nat.div_mul_cancel (Nat.gcd_dvd_left _ _)
  have d2 : (Rat.divInt y z).den * y.natAbs.gcd z.natAbs = z.natAbs := by rw [e3]; exact Nat.div_mul_cancel (Nat.gcd_dvd_right _ _)
  generalize (Rat.divInt y z).num = a at *
  generalize (Rat.divInt y z).den = b at *
  generalize y.natAbs.gcd z.natAbs = g at *
  have d2' : (b : Int) * (g : Int) = (z.natAbs : Int) := by rw [← d2, Int.natCast_mul]
  have d1' : a * (g : Int) = if a < 0 then -(y.natAbs : Int) else (y.natAbs : Int) := by
    rw [← d1, Int.natCast_mul]
    split
    · rw [← Int.neg_mul]; congr 1; omega
    · congr 1; omega
  clear e1 e3 d1 d2
  constructor
  · intro hp
    rw [Int.sign_eq_one_of_pos hp, Int.mul_one, Int.sign_neg_iff] at e2
    refine ⟨?_, by omega⟩
    rw [d1']
    split
    · have := e2.1 ‹_›; omega
    · have : ¬ y < 0 := fun h => ‹¬ a < 0› (e2.2 h)
      omega
  · intro hn
    rw [Int.sign_eq_neg_one_of_neg hn] at e2
    have e4 : a < 0 ↔ 0 < y := by
      rw [e2, ← Int.sign_pos_iff]; omega
    refine ⟨?_, by omega⟩
    rw [d1']
    split
    · have := e4.1 ‹_›; omega
    · have : ¬ 0 < y := fun h => ‹¬ a < 0› (e4.2 h)
      omega

theorem put2_blk {w : World} {g : Nat} {t : TypeId} {a b : Value} (h : Blk w g t #[a, b]) (u0 u1 : Value) : Blk (put2 w g u0 u1) g t #[u0, u1] := (h.set_ 0 u0).set_ 1 u1

def Halves (L : Nat) (w : World) (G : Nat) (a b g : Int) (w' : World) : Prop :=
  ∃ b1 p1 l1 k1 b2 p2 l2 k2 b3 p3 l3 k3, Blk w' w.heap.size 25 #[.bool b1, .slice p1 l1 k1] ∧ Blk w' (w.heap.size + 1) 25 #[.bool b2, .slice p2 l2 k2] ∧ Blk w' G 25 #[.bool b3, .slice p3 l3 k3] ∧
    Blk w' (w.heap.size + 1 + 1) 27 #[.bool false, .slice none 0 0, .bool false, .slice none 0 0] ∧
    IntIn L w' b1 (.slice p1 l1 k1) (a * g) ∧ IntIn L w' b2 (.slice p2 l2 k2) (b * g) ∧ IntIn L w' b3 (.slice p3 l3 k3) g ∧ Ext w w'

set_option maxRecDepth 20000 in
set_option maxHeartbeats 2000000 in
theorem r3reduce_any (n m : Bool) (u v : Value) (L : Nat) (y z : Int) (w : World) (hu : IntIn L w n u y) (hv : IntIn L w m v z) (hL : L ≤ 150000) (hz : z ≠ 0) :
    Calls Tryz.prog 74 #[.agg #[.bool n, u], .agg #[.bool m, v]] w (RetR (Rat.divInt y z) w) := by
  have hlz := hv.nl
  have hly := hu.nl
  have hna := hu.abs.1
  have hnb := hv.abs.1
  obtain ⟨p, l, cp, rfl⟩ := hu.form
  obtain ⟨q, k, cq, rfl⟩ := hv.form
  have hG0 : y.natAbs.gcd z.natAbs ≠ 0 := by
    intro h
    have := Nat.eq_zero_of_gcd_eq_zero_right h
    omega
  have hGl : Nm.nl (y.natAbs.gcd z.natAbs) ≤ L := Nat.le_trans (Nm.nl_mono (Nat.gcd_le_right _ (by omega))) hlz
  have hE1 : Ext w ((((w.alloc (.cells #[.bool n, .slice p l cp] 25)).alloc (.cells #[.bool m, .slice q k cq] 25)).alloc (.cells #[.bool false, .slice none 0 0, .bool false, .slice none 0 0] 27))) := (((Ext.refl _).alloc _).alloc _).alloc _
  have HE1 := zH hE1
  have H1 := zH (rgcd_any _ _ L y.natAbs z.natAbs _ (hna.ext hE1) (hnb.ext hE1) (by omega))
  have HA := zH (fun W (h : Ext w W) => hu.ext h)
  have HB := zH (fun W (h : Ext w W) => hv.ext h)
  have hn0 := fun W t (h : NatC W t (y.natAbs.gcd z.natAbs)) => r2new_any false t L _ W (h.isIn hGl) (by omega)
  have HP := zH (reduce_parts (y := y) hz)
  generalize hq : Rat.divInt y z = r at HP ⊢
  have HNL := zH (And.intro hly (And.intro hlz hGl))
  clear hE1 hu hv hna hnb hGl hq hly hlz
  generalize y.natAbs.gcd z.natAbs = g at *
  rw [sg_false] at hn0
  have HN0 := zH hn0
  have HG0 := zH hG0
  have HZ := zH hz
  clear hn0 hG0 hz
  go_enter Tryz.func74, Tryz.ntmps74
  go_wp2_with fail
  refine H1.out.mono ?_
  rintro e w1 ⟨gv, rfl, hg, he1⟩
  have HGV := zH hg
  clear hg
  go_wp2_with fail
  refine (HN0.out _ _ HGV.out).mono ?_
  rintro e w2 ⟨b3, gv2, rfl, hg2, he2⟩
  obtain ⟨p3, l3, k3, rfl⟩ := hg2.form
  have HG2 := zH hg2
  clear hg2
  have he12 := he1.trans he2
  have hb12 : Ext ((w.alloc (.cells #[.bool n, .slice p l cp] 25)).alloc (.cells #[.bool m, .slice q k cq] 25)) w2 := ((Ext.refl _).alloc _).trans he12
  have gw2 : w2.cell? ⟨w.heap.size, 0, none⟩ = some (.bool n) ∧ w2.cell? ⟨w.heap.size, 1, none⟩ = some (.slice p l cp) ∧ w2.cell? ⟨w.heap.size + 1, 0, none⟩ = some (.bool m) ∧ w2.cell? ⟨w.heap.size + 1, 1, none⟩ = some (.slice q k cq) :=
    ⟨hb12.get (by simp), hb12.get (by simp), hb12.get (by simp), hb12.get (by simp)⟩
  have sz : w.heap.size + 1 + 1 < w2.heap.size := by
    have h1 := he12.size
    simp only [World.size_alloc] at h1
    omega
  have sza : w.heap.size < w2.heap.size := by omega
  have szb : w.heap.size + 1 < w2.heap.size := by omega
  have HSG := zH (fun W (h : Ext w W) => r2sign_any m (.slice q k cq) L z W (HB.out W h) (by omega))
  have HEW := zH (HE1.out.trans he12)
  have HB12 := zH hb12
  have HE12 := zH he12
  clear hb12 he12
  go_wp2_with fail
  refine (HSG.out _ (HEW.out.alloc _)).mono ?_
  rintro e w3 ⟨rfl, he3⟩
  have gw3 : w3.cell? ⟨w.heap.size, 0, none⟩ = some (.bool n) ∧ w3.cell? ⟨w.heap.size, 1, none⟩ = some (.slice p l cp) ∧ w3.cell? ⟨w.heap.size + 1, 0, none⟩ = some (.bool m) ∧ w3.cell? ⟨w.heap.size + 1, 1, none⟩ = some (.slice q k cq) :=
    ⟨(((Ext.refl w2).alloc _).trans he3).get gw2.1, (((Ext.refl w2).alloc _).trans he3).get gw2.2.1, (((Ext.refl w2).alloc _).trans he3).get gw2.2.2.1, (((Ext.refl w2).alloc _).trans he3).get gw2.2.2.2⟩
  have b1 : Blk w3 w.heap.size 25 #[.bool n, .slice p l cp] := Blk.ext (Blk.new_at w _ rfl _ _) (((Ext.refl _).alloc _).trans (HB12.out.trans (((Ext.refl w2).alloc _).trans he3)))
  have b2 : Blk w3 (w.heap.size + 1) 25 #[.bool m, .slice q k cq] := Blk.ext (Blk.new_at (w.alloc (.cells #[.bool n, .slice p l cp] 25)) _ (by simp) _ _) (HB12.out.trans (((Ext.refl w2).alloc _).trans he3))
  have b3' : Blk w3 w2.heap.size 25 #[.bool b3, .slice p3 l3 k3] := Blk.ext (Blk.new_at w2 _ rfl _ _) he3
  have b4 : Blk w3 (w.heap.size + 1 + 1) 27 #[.bool false, .slice none 0 0, .bool false, .slice none 0 0] := Blk.ext (Blk.new_at ((w.alloc (.cells #[.bool n, .slice p l cp] 25)).alloc (.cells #[.bool m, .slice q k cq] 25)) _ (by simp) _ _) (HE12.out.trans (((Ext.refl w2).alloc _).trans he3))
  have HEW3 := zH ((HEW.out.alloc _).trans he3)
  have HG3 := zH (HG2.out.ext (((Ext.refl w2).alloc _).trans he3))
  have HBB := zH (And.intro b1 (And.intro b2 (And.intro b3' b4)))
  clear b1 b2 b3' b4 gw2
  go_upto_if 20 with fail
  go_cut [] (fun wx => Halves L w w2.heap.size r.num r.den g wx)
  case first =>
    by_cases hneg : z < 0
    · have hs : z.sign = -1 := Int.sign_eq_neg_one_of_neg hneg
      have HPN := zH (HP.out.2 hneg)
      rw [hs]
      clear hs
      go_wp2_with fail
      refine (r2neg_any n (.slice p l cp) L y w3 (HA.out _ HEW3.out) (by omega)).mono ?_
      rintro e w4 ⟨b1, t1, rfl, hc1, he4⟩
      obtain ⟨x1, y1, z1, rfl⟩ := hc1.form
      have k1 := Blk.ext HBB.out.1 he4
      have k2 := Blk.ext HBB.out.2.1 he4
      have c10 := k1.cell 0
      have c11 := k1.cell 1
      have f10 := k1.frozen 0
      have f11 := k1.frozen 1
      have c20 := k2.cell 0
      have c21 := k2.cell 1
      simp at c10 c11 c20 c21
      have HK1 := zH k1
      have HK2 := zH k2
      have HC1 := zH hc1
      clear k1 k2 hc1 gw3
      go_wp2_with fail
      have o1 := put2_own w4 w.heap.size (.bool b1) (.slice x1 y1 z1)
      have e4 : Ext w (put2 w4 w.heap.size (.bool b1) (.slice x1 y1 z1)) := o1.ext (HEW3.out.trans he4) (Nat.le_refl _)
      have HNB := zH (r2neg_any m (.slice q k cq) L z _ (HB.out _ e4) (by omega))
      have j1 := put2_blk HK1.out (.bool b1) (.slice x1 y1 z1)
      have j2 := HK2.out.own o1 (by omega)
      have J3 := zH ((Blk.ext HBB.out.2.2.1 he4).own o1 (by omega))
      have J4 := zH ((Blk.ext HBB.out.2.2.2 he4).own o1 (by omega))
      have HC1' := zH (HC1.out.own HK1.out (noU2 _ _ _ _) o1)
      have HG4 := zH ((HG3.out.ext he4).own HK1.out (noU2 _ _ _ _) o1)
      obtain ⟨wm, hwm⟩ : ∃ wm, wm = put2 w4 w.heap.size (.bool b1) (.slice x1 y1 z1) := ⟨_, rfl⟩
      rw [← hwm] at o1 e4 HNB j1 j2 J3 J4 HC1' HG4
      simp only [put2] at hwm
      rw [← hwm]
      have HE4 := zH e4
      have HJ1 := zH j1
      have HJ2 := zH j2
      clear hwm o1 e4 j1 j2 c10 c11 c20 c21 f10 f11
      refine HNB.out.mono ?_
      rintro e w5 ⟨b2, t2, rfl, hc2, he5⟩
      obtain ⟨x2, y2, z2, rfl⟩ := hc2.form
      have HC2 := zH hc2
      have k2 := Blk.ext HJ2.out he5
      have c20 := k2.cell 0
      have c21 := k2.cell 1
      have f20 := k2.frozen 0
      have f21 := k2.frozen 1
      simp at c20 c21
      have HK2' := zH k2
      clear k2 hc2
      go_wp2_with fail
      go_meet
      have o2 := put2_own w5 (w.heap.size + 1) (.bool b2) (.slice x2 y2 z2)
      have i1 := (HC1'.out.ext he5).own HK2'.out (noU2 _ _ _ _) o2
      have i2 := HC2.out.own HK2'.out (noU2 _ _ _ _) o2
      have i3 := (HG4.out.ext he5).own HK2'.out (noU2 _ _ _ _) o2
      refine ⟨b1, x1, y1, z1, b2, x2, y2, z2, b3, p3, l3, k3, (Blk.ext HJ1.out he5).own o2 (by omega), put2_blk HK2'.out _ _, (Blk.ext J3.out he5).own o2 (by omega), (Blk.ext J4.out he5).own o2 (by omega), ?_, ?_, i3.isIn (by rw [Int.natAbs_natCast]; exact HNL.out.2.2), o2.ext (HE4.out.trans he5) (by omega)⟩
      · rw [← HPN.out.1]; exact i1.isIn (by rw [Int.natAbs_neg]; exact HNL.out.1)
      · rw [← HPN.out.2]; exact i2.isIn (by rw [Int.natAbs_neg]; exact HNL.out.2.1)
    · have hs : z.sign = 1 := Int.sign_eq_one_of_pos (by have := HZ.out; omega)
      have HPN := zH (HP.out.1 (by have := HZ.out; omega))
      rw [hs]
      clear hs
      go_wp2_with fail
      go_meet
      refine ⟨n, p, l, cp, m, q, k, cq, b3, p3, l3, k3, HBB.out.1, HBB.out.2.1, HBB.out.2.2.1, HBB.out.2.2.2, ?_, ?_, HG3.out.isIn (by rw [Int.natAbs_natCast]; exact HNL.out.2.2), HEW3.out⟩
      · rw [← HPN.out.1]; exact HA.out _ HEW3.out
      · rw [← HPN.out.2]; exact HB.out _ HEW3.out
  case rest =>
    obtain ⟨b1, x1, y1, z1, b2, x2, y2, z2, b4, x4, y4, z4, s1, s2, s3, s4, i1, i2, i3, hx⟩ := hcut
    have HD1 := zH (fun W (x : Ext wc W) => r2div_any b1 b4 _ _ L _ _ r.num W (i1.ext x) (i3.ext x) hL (by have := HG0.out; omega) rfl)
    have HD2 := zH (fun W (x : Ext wc W) => r2div_any b2 b4 _ _ L _ _ (r.den : Int) W (i2.ext x) (i3.ext x) hL (by have := HG0.out; omega) rfl)
    have HX := zH hx
    have HS := zH (show ∀ W, Ext wc W → Blk W w.heap.size 25 #[.bool b1, .slice x1 y1 z1] ∧ Blk W (w.heap.size + 1) 25 #[.bool b2, .slice x2 y2 z2] ∧ Blk W w2.heap.size 25 #[.bool b4, .slice x4 y4 z4] ∧ Blk W (w.heap.size + 1 + 1) 27 #[.bool false, .slice none 0 0, .bool false, .slice none 0 0] from fun W x => ⟨s1.ext x, s2.ext x, s3.ext x, s4.ext x⟩)
    clear i1 i2 i3 hx s1 s2 s3 s4 H1 HN0 HSG HP
    have g0 := HS.out wc (Ext.refl _)
    have c10 := g0.1.cell 0
    have c11 := g0.1.cell 1
    have c30 := g0.2.2.1.cell 0
    have c31 := g0.2.2.1.cell 1
    simp at c10 c11 c30 c31
    clear g0
    go_wp2_with fail
    refine (HD1.out _ (Ext.refl _)).mono ?_
    rintro e w5 ⟨n1, v1, n2, v2, rfl, hq1, hr1, he5⟩
    obtain ⟨f1, f2, f3, rfl⟩ := hq1.form
    obtain ⟨f4, f5, f6, rfl⟩ := hr1.form
    have HQ1 := zH hq1
    have g5 := HS.out w5 he5
    have c20 := g5.2.1.cell 0
    have c21 := g5.2.1.cell 1
    have c32 := g5.2.2.1.cell 0
    have c33 := g5.2.2.1.cell 1
    have z1 : w.heap.size + 1 < w5.heap.size := Blk.lt g5.2.1
    have z2 : w2.heap.size < w5.heap.size := Blk.lt g5.2.2.1
    have z0 : w.heap.size < w5.heap.size := by omega
    have z3 : w2.heap.size < w5.heap.size + 1 := by omega
    have z4 : w.heap.size + 1 < w5.heap.size + 1 := by omega
    simp at c20 c21 c32 c33
    clear g5 hq1 hr1 c10 c11 c30 c31
    go_wp2_with fail
    refine (HD2.out _ ((he5.alloc _).alloc _)).mono ?_
    rintro e w6 ⟨n3, v3, n4, v4, rfl, hq2, hr2, he6⟩
    obtain ⟨g1, g2, g3, rfl⟩ := hq2.form
    obtain ⟨g4, g5, g6, rfl⟩ := hr2.form
    have HQ2 := zH hq2
    have k6 := HS.out w6 (((he5.alloc _).alloc _).trans he6)
    have z5 : w.heap.size + 1 + 1 < w6.heap.size := Blk.lt k6.2.2.2
    have d0 := k6.2.2.2.cell 0
    have d1 := k6.2.2.2.cell 1
    have d2 := k6.2.2.2.cell 2
    have d3 := k6.2.2.2.cell 3
    have e0 := k6.2.2.2.frozen 0
    have e1 := k6.2.2.2.frozen 1
    have e2 := k6.2.2.2.frozen 2
    have e3 := k6.2.2.2.frozen 3
    have HR6 := zH k6.2.2.2
    simp at d0 d1 d2 d3
    have p0 : w6.cell? ⟨w5.heap.size, 0, none⟩ = some (.bool n1) := he6.get (by simp)
    have p1 : w6.cell? ⟨w5.heap.size, 1, none⟩ = some (.slice f1 f2 f3) := he6.get (by simp)
    have z6 : w5.heap.size + 1 < w6.heap.size := by
      have h1 := he6.size
      simp only [World.size_alloc] at h1
      omega
    have z7 : w5.heap.size < w6.heap.size := by omega
    have z8 : w5.heap.size < w6.heap.size + 1 := by omega
    have z9 : w.heap.size + 1 < w6.heap.size := by omega
    have z10 : w.heap.size + 1 + 1 ≠ w6.heap.size := by omega
    have z11 : w.heap.size + 1 + 1 ≠ w6.heap.size + 1 := by omega
    have HQ1' := zH (HQ1.out.ext ((((Ext.refl _).alloc _).alloc _).trans he6))
    have HX6 := zH (HX.out.trans (((he5.alloc _).alloc _).trans he6))
    clear k6 hq2 hr2 c20 c21 c32 c33
    go_wp2_with fail
    have o := put4_own w6 (w.heap.size + 1 + 1) (.bool n1) (.slice f1 f2 f3) (.bool n3) (.slice g1 g2 g3)
    have hrat : RatC _ n1 (.slice f1 f2 f3) n3 (.slice g1 g2 g3) r := RatC.own (⟨HQ1'.out, HQ2.out⟩ : RatC w6 n1 (.slice f1 f2 f3) n3 (.slice g1 g2 g3) r) HR6.out (noU4 _ _ _ _ _ _ _ _) o
    have hext := o.ext HX6.out (by omega)
    simp only [put4] at hrat hext
    refine bodyPost_ret (v := .agg #[.bool n1, .slice f1 f2 f3, .bool n3, .slice g1 g2 g3]) ?_ rfl ⟨_, _, _, _, rfl, hrat.ext (((Ext.refl _).alloc _).alloc _), (hext.alloc _).alloc _⟩
    simp [results, Tryz.results74, go_sem, *]

set_option maxHeartbeats 1000000 in
theorem r3fromInt_any (a : Int) (w : World) (h1 : -9223372036854775808 ≤ a) (h2 : a ≤ 9223372036854775807) :
    Calls Tryz.prog 14 #[.int .i64 a] w (RetR (a : Rat) w) := by
  have HF := zH (fun W => r2fromInt_any a W h1 h2)
  have HF1 := zH (fun W => r2fromInt_any 1 W (by omega) (by omega))
  have HG := zH (newRat w)
  have HST := zH (fun w1 n1 t1 n2 t2 u0 u1 u2 u3 => stored_rat (w := w) (w1 := w1) (n := n1) (u := t1) (m := n2) (v := t2) (q := (a : Rat)) (u0 := u0) (u1 := u1) (u2 := u2) (u3 := u3))
  clear h1 h2
  go_enter Tryz.func14, Tryz.ntmps14
  go_wp2_with fail
  refine (HF.out _).mono ?_
  rintro e w1 ⟨b1, t1, rfl, hc1, he1⟩
  have HC1 := zH hc1
  obtain ⟨p1, l1, k1, rfl⟩ := hc1.form
  clear hc1
  go_wp2_with fail
  refine (HF1.out _).mono ?_
  rintro e w2 ⟨b2, t2, rfl, hc2, he2⟩
  have HC2 := zH hc2
  obtain ⟨p2, l2, k2, rfl⟩ := hc2.form
  have gk := HG.out _ (he1.trans he2)
  clear hc2
  go_wp2_with fail
  have st := HST.out _ _ _ _ _ (.bool b1) (.slice p1 l1 k1) (.bool b2) (.slice p2 l2 k2) (he1.trans he2) (ratC_int (HC1.out.ext he2) HC2.out)
  refine bodyPost_ret (v := .agg #[.bool b1, .slice p1 l1 k1, .bool b2, .slice p2 l2 k2]) ?_ rfl ⟨_, _, _, _, rfl, st.1, st.2⟩
  simp [results, Tryz.results14, go_sem, *]

set_option maxRecDepth 20000 in
set_option maxHeartbeats 1000000 in
theorem r3norm_any (n m : Bool) (u v : Value) (L : Nat) (q : Rat) (w : World) (h : RatIn L w n u m v q) (hL : L ≤ 150000) :
    Calls Tryz.prog 46 #[.agg #[.bool n, u, .bool m, v]] w (RetR q w) := by
  obtain ⟨y, z, hu, hv, hq⟩ := h
  obtain ⟨p, l, cp, rfl⟩ := hu.form
  obtain ⟨q2, k, cq, rfl⟩ := hv.form
  have hE1 : Ext w ((w.alloc (.cells #[.bool n, .slice p l cp, .bool m, .slice q2 k cq] 27)).alloc (.cells #[.bool false, .slice none 0 0, .bool false, .slice none 0 0] 27)) := ((Ext.refl _).alloc _).alloc _
  have HG := zH (newRat (w.alloc (.cells #[.bool n, .slice p l cp, .bool m, .slice q2 k cq] 27)))
  have HST := zH (fun w1 n1 t1 n2 t2 u0 u1 u2 u3 => stored_rat (w := w.alloc (.cells #[.bool n, .slice p l cp, .bool m, .slice q2 k cq] 27)) (w1 := w1) (n := n1) (u := t1) (m := n2) (v := t2) (q := q) (u0 := u0) (u1 := u1) (u2 := u2) (u3 := u3))
  have HS := zH (r2sign_any m (.slice q2 k cq) L z _ (hv.ext hE1) (by omega))
  by_cases hz : z = 0
  · subst hz
    have hq0 : q = ((0 : Int) : Rat) := by rw [hq, Rat.divInt_zero]; rfl
    subst hq0
    have HF := zH (fun W => r3fromInt_any 0 W (by omega) (by omega))
    clear hu hv hq hE1
    go_enter Tryz.func46, Tryz.ntmps46
    go_wp2_with fail
    refine HS.out.mono ?_
    rintro e w1 ⟨rfl, he⟩
    rw [show Int.sign 0 = 0 from rfl]
    go_wp2_with fail
    refine (HF.out _).mono ?_
    rintro e w2 ⟨b1, t1, b2, t2, rfl, hc, he2⟩
    have HC := zH hc
    obtain ⟨p1, l1, k1, p2, l2, k2, rfl, rfl⟩ := hc.form
    have hE := he.trans he2
    have gk := HG.out _ hE
    simp only [World.size_alloc] at gk
    have HE := zH hE
    clear hc hE
    go_wp2_with fail
    have st := HST.out _ _ _ _ _ (.bool b1) (.slice p1 l1 k1) (.bool b2) (.slice p2 l2 k2) HE.out HC.out
    simp only [World.size_alloc] at st
    refine bodyPost_ret (v := .agg #[.bool b1, .slice p1 l1 k1, .bool b2, .slice p2 l2 k2]) ?_ rfl ⟨_, _, _, _, rfl, st.1, ((Ext.refl _).alloc _).trans st.2⟩
    simp [results, Tryz.results46, go_sem, *]
  · have HN0 := fun W (x : Ext w W) => r3reduce_any n m (.slice p l cp) (.slice q2 k cq) L y z W (hu.ext x) (hv.ext x) hL hz
    rw [← hq] at HN0
    have HN := zH HN0
    have hs0 : (z.sign == 0) = false := by
      rw [beq_eq_false_iff_ne, ne_eq, Int.sign_eq_zero_iff_zero]; exact hz
    have HE1 := zH hE1
    have hb : Ext (w.alloc (.cells #[.bool n, .slice p l cp, .bool m, .slice q2 k cq] 27)) ((w.alloc (.cells #[.bool n, .slice p l cp, .bool m, .slice q2 k cq] 27)).alloc (.cells #[.bool false, .slice none 0 0, .bool false, .slice none 0 0] 27)) := (Ext.refl _).alloc _
    have HB := zH hb
    generalize z.sign = sz at HS hs0
    clear hu hv hq hE1 hz HN0 hb
    go_enter Tryz.func46, Tryz.ntmps46
    go_wp2_with fail
    refine HS.out.mono ?_
    rintro e w1 ⟨rfl, he⟩
    have gr := ratBox w n m (.slice p l cp) (.slice q2 k cq) _ (HB.out.trans he)
    go_wp2_with fail
    refine (HN.out _ (HE1.out.trans he)).mono ?_
    rintro e w2 ⟨b1, t1, b2, t2, rfl, hc, he2⟩
    have HC := zH hc
    obtain ⟨p1, l1, k1, p2, l2, k2, rfl, rfl⟩ := hc.form
    have hE := he.trans he2
    have gk := HG.out _ hE
    simp only [World.size_alloc] at gk
    have HE := zH hE
    clear hc hE gr
    go_wp2_with fail
    have st := HST.out _ _ _ _ _ (.bool b1) (.slice p1 l1 k1) (.bool b2) (.slice p2 l2 k2) HE.out HC.out
    simp only [World.size_alloc] at st
    refine bodyPost_ret (v := .agg #[.bool b1, .slice p1 l1 k1, .bool b2, .slice p2 l2 k2]) ?_ rfl ⟨_, _, _, _, rfl, st.1, ((Ext.refl _).alloc _).trans st.2⟩
    simp [results, Tryz.results46, go_sem, *]

set_option maxRecDepth 20000 in
set_option maxHeartbeats 1000000 in
theorem r3neg_any (n m : Bool) (u v : Value) (L : Nat) (q : Rat) (w : World) (h : RatIn L w n u m v q) (hL : L ≤ 140000) :
    Calls Tryz.prog 98 #[.agg #[.bool n, u, .bool m, v]] w (RetR (-q) w) := by
  obtain ⟨p, l, cp, q2, k, cq, rfl, rfl⟩ := h.form
  have hE1 : Ext w ((w.alloc (.cells #[.bool n, .slice p l cp, .bool m, .slice q2 k cq] 27)).alloc (.cells #[.bool false, .slice none 0 0, .bool false, .slice none 0 0] 27)) := ((Ext.refl _).alloc _).alloc _
  have HN := zH (r3norm_any n m _ _ L q _ (h.ext hE1) (by omega))
  have HG := zH (newRat (w.alloc (.cells #[.bool n, .slice p l cp, .bool m, .slice q2 k cq] 27)))
  have HST := zH (fun w1 n1 t1 n2 t2 u0 u1 u2 u3 => stored_rat (w := w.alloc (.cells #[.bool n, .slice p l cp, .bool m, .slice q2 k cq] 27)) (w1 := w1) (n := n1) (u := t1) (m := n2) (v := t2) (q := -q) (u0 := u0) (u1 := u1) (u2 := u2) (u3 := u3))
  have hr := h.rl
  have hnn : Nm.nl q.num.natAbs ≤ L + 1 := by unfold Nm.rl at hr; omega
  clear h hE1 hr
  go_enter Tryz.func98, Tryz.ntmps98
  go_wp2_with fail
  refine HN.out.mono ?_
  rintro e w1 ⟨b1, t1, b2, t2, rfl, hc, he⟩
  obtain ⟨p1, l1, k1, p2, l2, k2, rfl, rfl⟩ := hc.form
  have HC := zH hc
  have HNG := zH (fun W (x : Ext w1 W) => r2neg_any b1 (.slice p1 l1 k1) (L + 1) q.num W ((hc.1.ext x).isIn hnn) (by omega))
  have HE := zH he
  clear hc
  go_wp2_with fail
  have X0 := Blk.ext (Blk.new_at (w.alloc (.cells #[.bool n, .slice p l cp, .bool m, .slice q2 k cq] 27)) (w.heap.size + 1) (by simp) 27 #[.bool false, .slice none 0 0, .bool false, .slice none 0 0]) (HE.out.alloc (.cells #[.bool b1, .slice p1 l1 k1, .bool b2, .slice p2 l2 k2] 27))
  have B0 := Blk.new_at w1 w1.heap.size rfl 27 #[.bool b1, .slice p1 l1 k1, .bool b2, .slice p2 l2 k2]
  have HX0 := zH X0
  have hlt := Blk.lt (Blk.ext (Blk.new_at (w.alloc (.cells #[.bool n, .slice p l cp, .bool m, .slice q2 k cq] 27)) (w.heap.size + 1) (by simp) 27 #[.bool false, .slice none 0 0, .bool false, .slice none 0 0]) HE.out)
  have HEW := zH (show Ext w (w1.alloc (.cells #[.bool b1, .slice p1 l1 k1, .bool b2, .slice p2 l2 k2] 27)) from (((Ext.refl _).alloc _).alloc _).trans (HE.out.alloc _))
  have HN2 := zH (fun W (x : Ext (w1.alloc (.cells #[.bool b1, .slice p1 l1 k1, .bool b2, .slice p2 l2 k2] 27)) W) => HNG.out W (((Ext.refl _).alloc _).trans x))
  have HDC := zH (HC.out.2.ext ((Ext.refl w1).alloc (.cells #[.bool b1, .slice p1 l1 k1, .bool b2, .slice p2 l2 k2] 27)))
  have HSZ := zH (show w.heap.size ≤ w.heap.size + 1 by omega)
  clear X0
  generalize (w1.alloc (.cells #[.bool b1, .slice p1 l1 k1, .bool b2, .slice p2 l2 k2] 27)) = wb at *
  generalize hX : w1.heap.size = X at *
  generalize hR : w.heap.size + 1 = R at *
  have n1 : X ≠ R := by omega
  have gl : ∀ x, Own R wb x → x.cell? ⟨X, 0, none⟩ = some (.bool b1) ∧ x.cell? ⟨X, 1, none⟩ = some (.slice p1 l1 k1) ∧ x.cell? ⟨X, 2, none⟩ = some (.bool b2) ∧ x.cell? ⟨X, 3, none⟩ = some (.slice p2 l2 k2) := fun x h =>
    ⟨(B0.own h n1).cell 0, (B0.own h n1).cell 1, (B0.own h n1).cell 2, (B0.own h n1).cell 3⟩
  clear B0 hX hlt
  go_region_held3 (fun x => Own R wb x) (first | (with_reducible assumption) | (with_reducible exact Own.drew (Own.refl _ _)) | (with_reducible (apply Own.of_ext; assumption)) | (with_reducible (refine Own.set_at (Own.set_at (Own.set_at (Own.set_at ?_ _ _ _) _ _ _) _ _ _) _ _ _; first | assumption | (apply Own.of_ext; assumption))))
    (first | (go_at_call 100; ((with_reducible refine (HN2.out _ (by first | assumption | exact Ext.drew (Ext.refl _))).mono ?_)); rintro e wz ⟨j1, t1, rfl, hi, hen3⟩; obtain ⟨g1, g2, g3, rfl⟩ := hi.form; have hx3 : Ext wb wz := Ext.trans (by first | assumption | exact Ext.drew (Ext.refl _)) hen3; have X0 := Blk.ext HX0.out hx3; have x00 := X0.cell 0; have x01 := X0.cell 1; have x02 := X0.cell 2; have x03 := X0.cell 3; have y00 := X0.frozen 0; have y01 := X0.frozen 1; have y02 := X0.frozen 2; have y03 := X0.frozen 3; simp at x00 x01 x02 x03))
  go_wp2_with fail
  have o := put4_own wz R (.bool j1) (.slice g1 g2 g3) (.bool b2) (.slice p2 l2 k2)
  have hrat : RatC _ j1 (.slice g1 g2 g3) b2 (.slice p2 l2 k2) (-q) := RatC.own (⟨by rw [Rat.neg_num]; exact hi, by rw [Rat.neg_den]; exact HDC.out.ext hx3⟩ : RatC wz j1 (.slice g1 g2 g3) b2 (.slice p2 l2 k2) (-q)) X0 (noU4 _ _ _ _ _ _ _ _) o
  have hext := o.ext (HEW.out.trans hx3) HSZ.out
  simp only [put4] at hrat hext
  refine bodyPost_ret (v := .agg #[.bool j1, .slice g1 g2 g3, .bool b2, .slice p2 l2 k2]) ?_ rfl ⟨_, _, _, _, rfl, hrat, hext⟩
  simp [results, Tryz.results98, go_sem, *]

theorem DigS.set {w : World} {v : Value} {xs : List Nat} (h : DigS w v xs) {p : Addr} {c : Value} (hc : w.cell? p = some c) (hn : ∀ x : Int, c ≠ .int .u32 x) (u : Value) : DigS (w.setCell p u) v xs := by
  obtain ⟨q, cap, rfl, hcap, hd, hq⟩ := h
  refine ⟨q, cap, rfl, hcap, hd, fun h0 => ?_⟩
  obtain ⟨b, o, rfl, hb⟩ := hq h0
  refine ⟨b, o, rfl, fun i hi => ?_⟩
  have h1 := hb i hi
  rw [World.cell?_setCell_other _ _ _ _ (by
    rintro rfl
    rw [hc] at h1
    exact hn _ (Option.some.inj h1))]
  exact h1
theorem RatC.setB {w : World} {n m : Bool} {u v : Value} {q : Rat} (h : RatC w n u m v q) {p : Addr} {b : Bool} (hc : w.cell? p = some (.bool b)) (x : Value) : RatC (w.setCell p x) n u m v q :=
  ⟨⟨h.1.1, DigS.set h.1.2 hc (fun _ => by simp) x⟩, ⟨h.2.1, DigS.set h.2.2 hc (fun _ => by simp) x⟩⟩
theorem RatC.setS {w : World} {n m : Bool} {u v : Value} {q : Rat} (h : RatC w n u m v q) {p : Addr} {a : Option Addr} {l c : Nat} (hc : w.cell? p = some (.slice a l c)) (x : Value) : RatC (w.setCell p x) n u m v q :=
  ⟨⟨h.1.1, DigS.set h.1.2 hc (fun _ => by simp) x⟩, ⟨h.2.1, DigS.set h.2.2 hc (fun _ => by simp) x⟩⟩
theorem RatC.via {w w' : World} {n m : Bool} {u v : Value} {q : Rat} (e : Ext w w') (h : RatC w n u m v q) : RatC w' n u m v q := h.ext e
theorem RatC.alloc {w : World} {n m : Bool} {u v : Value} {q : Rat} (h : RatC w n u m v q) (o : Obj) : RatC (w.alloc o) n u m v q := h.ext ((Ext.refl _).alloc o)
theorem RatC.drew {w : World} {n m : Bool} {u v : Value} {q : Rat} (h : RatC w n u m v q) : RatC w.drew n u m v q := h.ext (Ext.refl _).drew

theorem bcell {W w1 : World} (hb : Ext W w1) : (∀ b o, b < W.heap.size → w1.cell? ⟨b, o, none⟩ = W.cell? ⟨b, o, none⟩) ∧ (∀ b o, b < W.heap.size → w1.frozen? ⟨b, o, none⟩ = W.frozen? ⟨b, o, none⟩) :=
  ⟨fun b o h => hb.cell (p := ⟨b, o, none⟩) h, fun b o h => hb.frozen (p := ⟨b, o, none⟩) h⟩

def Two (w : World) (q r : Rat) (s t : Value) (w' : World) : Prop :=
  ∃ X Y b1 x1 y1 z1 b2 x2 y2 z2 b3 x3 y3 z3 b4 x4 y4 z4, s = .pointer (some ⟨X, 0, none⟩) ∧ t = .pointer (some ⟨Y, 0, none⟩) ∧ w.heap.size ≤ X ∧ w.heap.size ≤ Y ∧
    (w'.cell? ⟨X, 0, none⟩ = some (.bool b1) ∧ w'.cell? ⟨X, 1, none⟩ = some (.slice x1 y1 z1) ∧ w'.cell? ⟨X, 2, none⟩ = some (.bool b2) ∧ w'.cell? ⟨X, 3, none⟩ = some (.slice x2 y2 z2)) ∧
    (w'.cell? ⟨Y, 0, none⟩ = some (.bool b3) ∧ w'.cell? ⟨Y, 1, none⟩ = some (.slice x3 y3 z3) ∧ w'.cell? ⟨Y, 2, none⟩ = some (.bool b4) ∧ w'.cell? ⟨Y, 3, none⟩ = some (.slice x4 y4 z4)) ∧
    RatC w' b1 (.slice x1 y1 z1) b2 (.slice x2 y2 z2) q ∧ RatC w' b3 (.slice x3 y3 z3) b4 (.slice x4 y4 z4) r ∧ Ext w w'

set_option maxRecDepth 20000 in
set_option maxHeartbeats 4000000 in
theorem r3mul_any (n m n' m' : Bool) (u v u' v' : Value) (L : Nat) (q r : Rat) (w : World) (h : RatIn L w n u m v q) (h' : RatIn L w n' u' m' v' r) (hL : L ≤ 70000) :
    Calls Tryz.prog 71 #[.agg #[.bool n, u, .bool m, v], .agg #[.bool n', u', .bool m', v']] w (RetR (q * r) w) := by
  obtain ⟨p1, l1, c1, p2, l2, c2, rfl, rfl⟩ := h.form
  obtain ⟨p3, l3, c3, p4, l4, c4, rfl, rfl⟩ := h'.form
  have HNA := zH (fun W (x : Ext w W) => r3norm_any n m (.slice p1 l1 c1) (.slice p2 l2 c2) L q W (h.ext x) (by omega))
  have HNB := zH (fun W (x : Ext w W) => r3norm_any n' m' (.slice p3 l3 c3) (.slice p4 l4 c4) L r W (h'.ext x) (by omega))
  have hnl : Nm.nl q.num.natAbs ≤ L + 1 ∧ Nm.nl (q.den : Int).natAbs ≤ L + 1 ∧ Nm.nl r.num.natAbs ≤ L + 1 ∧ Nm.nl (r.den : Int).natAbs ≤ L + 1 := by
    have h1 := h.rl
    have h2 := h'.rl
    unfold Nm.rl at h1 h2
    simp only [Int.natAbs_natCast]
    omega
  have HNL := zH hnl
  clear h h' hnl
  go_enter Tryz.func71, Tryz.ntmps71
  go_wp2_with fail
  have gA : ∀ x, Ext (((w.alloc (.cells #[.bool n, .slice p1 l1 c1, .bool m, .slice p2 l2 c2] 27)).alloc (.cells #[.bool n', .slice p3 l3 c3, .bool m', .slice p4 l4 c4] 27)).alloc (.cells #[.bool false, .slice none 0 0, .bool false, .slice none 0 0] 27)) x → x.cell? ⟨w.heap.size, 0, none⟩ = some (.bool n) ∧ x.cell? ⟨w.heap.size, 1, none⟩ = some (.slice p1 l1 c1) ∧ x.cell? ⟨w.heap.size, 2, none⟩ = some (.bool m) ∧ x.cell? ⟨w.heap.size, 3, none⟩ = some (.slice p2 l2 c2) ∧
      x.cell? ⟨w.heap.size + 1, 0, none⟩ = some (.bool n') ∧ x.cell? ⟨w.heap.size + 1, 1, none⟩ = some (.slice p3 l3 c3) ∧ x.cell? ⟨w.heap.size + 1, 2, none⟩ = some (.bool m') ∧ x.cell? ⟨w.heap.size + 1, 3, none⟩ = some (.slice p4 l4 c4) := fun x hx => by
    have a1 := ratBox w n m (.slice p1 l1 c1) (.slice p2 l2 c2) x ((((Ext.refl _).alloc _).alloc _).trans hx)
    have a2 := ratBox (w.alloc (.cells #[.bool n, .slice p1 l1 c1, .bool m, .slice p2 l2 c2] 27)) n' m' (.slice p3 l3 c3) (.slice p4 l4 c4) x (((Ext.refl _).alloc _).trans hx)
    simp only [World.size_alloc] at a2
    exact ⟨a1.1, a1.2.1, a1.2.2.1, a1.2.2.2.1, a2.1, a2.2.1, a2.2.2.1, a2.2.2.2.1⟩
  have HWB := zH (show Ext w (((w.alloc (.cells #[.bool n, .slice p1 l1 c1, .bool m, .slice p2 l2 c2] 27)).alloc (.cells #[.bool n', .slice p3 l3 c3, .bool m', .slice p4 l4 c4] 27)).alloc (.cells #[.bool false, .slice none 0 0, .bool false, .slice none 0 0] 27)) from (((Ext.refl _).alloc _).alloc _).alloc _)
  have HR0 := zH (Blk.new_at ((w.alloc (.cells #[.bool n, .slice p1 l1 c1, .bool m, .slice p2 l2 c2] 27)).alloc (.cells #[.bool n', .slice p3 l3 c3, .bool m', .slice p4 l4 c4] 27)) (w.heap.size + 1 + 1) (by simp) 27 #[.bool false, .slice none 0 0, .bool false, .slice none 0 0])
  have hz : (((w.alloc (.cells #[.bool n, .slice p1 l1 c1, .bool m, .slice p2 l2 c2] 27)).alloc (.cells #[.bool n', .slice p3 l3 c3, .bool m', .slice p4 l4 c4] 27)).alloc (.cells #[.bool false, .slice none 0 0, .bool false, .slice none 0 0] 27)).heap.size = w.heap.size + 1 + 1 + 1 := by simp
  have HSZ := zH hz
  clear hz
  generalize (((w.alloc (.cells #[.bool n, .slice p1 l1 c1, .bool m, .slice p2 l2 c2] 27)).alloc (.cells #[.bool n', .slice p3 l3 c3, .bool m', .slice p4 l4 c4] 27)).alloc (.cells #[.bool false, .slice none 0 0, .bool false, .slice none 0 0] 27)) = wb at *
  go_cut [5, 6] (fun s t wx => Two wb q r s t wx)
  case first =>
    clear HR0 HNL
    go_region_held3 (fun x => Ext wb x) ((first | (with_reducible assumption) | ((repeat (first | (with_reducible assumption) | (with_reducible exact Ext.refl _) | (with_reducible apply Ext.drew) | (with_reducible apply Ext.alloc) | ((with_reducible refine Ext.setCell ?_ ?_ _); rotate_left; focus (first | omega | (simp; done) | (simp; omega))) | (with_reducible (apply Ext.via; assumption)))); done)))
      (first | (go_at_call 46; ((with_reducible refine (HNA.out _ (HWB.out.trans (by first | assumption | exact Ext.drew (Ext.refl _)))).mono ?_)); rintro e wa ⟨b1, t1, b2, t2, rfl, hca, hea⟩; obtain ⟨x1, y1, z1, x2, y2, z2, rfl, rfl⟩ := hca.form; have hsa := hea.size; (try simp at hsa); obtain ⟨ka, fa⟩ := bcell hea; (try simp at ka); (try simp at fa); (try have l1 : wb.heap.size < wa.heap.size := by omega); (try have l2 : wb.heap.size + 1 < wa.heap.size := by omega)) | (go_at_call 46; ((with_reducible refine (HNB.out _ (HWB.out.trans (by first | assumption | exact Ext.drew (Ext.refl _)))).mono ?_)); rintro e wd ⟨b3, t3, b4, t4, rfl, hcb, heb⟩; obtain ⟨x3, y3, z3, x4, y4, z4, rfl, rfl⟩ := hcb.form; have hsb := heb.size; (try simp at hsb); obtain ⟨kb, fb⟩ := bcell heb; (try simp at kb); (try simp at fb); (try have l3 : wb.heap.size < wd.heap.size := by omega); (try have l4 : wb.heap.size + 1 < wd.heap.size := by omega); (try have l5 : wa.heap.size < wd.heap.size := by omega); (try have l6 : wa.heap.size + 1 < wd.heap.size := by omega)))
    all_goals go_wp2_with fail
    all_goals go_meet
    all_goals have lt2 : ∀ a : Nat, a < a + 1 + 1 := fun a => by omega
    all_goals try have q1 : wa.heap.size ≠ wb.heap.size := by omega
    all_goals try have q2 : wb.heap.size ≠ wa.heap.size := by omega
    all_goals try have q3 : wb.heap.size < wa.heap.size + 1 := by omega
    all_goals refine ⟨_, _, b1, x1, y1, z1, b2, x2, y2, z2, b3, x3, y3, z3, b4, x4, y4, z4, rfl, rfl, ?_, ?_, ⟨?_, ?_, ?_, ?_⟩, ⟨?_, ?_, ?_, ?_⟩, ?_, ?_, ?_⟩
    all_goals first
      | (with_reducible assumption)
      | omega
      | (simp [go_sem, *]; done)
      | (rw [World.cell?_setCell_far, World.cell?_setCell_far, World.cell?_setCell_far, World.cell?_setCell_far] <;> first | (simp [go_sem, *]; done) | (simp; omega))
      | ((repeat (first | (with_reducible assumption) | (with_reducible apply RatC.drew) | (with_reducible apply RatC.alloc) | ((with_reducible refine RatC.setB (b := false) ?_ ?_ _); rotate_left; focus (simp [go_sem, *]; done)) | ((with_reducible refine RatC.setS (a := none) (l := 0) (c := 0) ?_ ?_ _); rotate_left; focus (simp [go_sem, *]; done)) | (with_reducible (apply RatC.via; assumption)))); done)
      | (first | (with_reducible assumption) | ((repeat (first | (with_reducible assumption) | (with_reducible exact Ext.refl _) | (with_reducible apply Ext.drew) | (with_reducible apply Ext.alloc) | ((with_reducible refine Ext.setCell ?_ ?_ _); rotate_left; focus (first | omega | (simp; done) | (simp; omega))) | (with_reducible (apply Ext.via; assumption)))); done))
  case rest =>
    clear HNA HNB gA
    obtain ⟨X, Y, b1, x1, y1, z1, b2, x2, y2, z2, b3, x3, y3, z3, b4, x4, y4, z4, rfl, rfl, hX, hY, cX, cY, s3, s4, s5⟩ := hcut
    have hnl := HNL.out
    have H1 := zH (fun W (x : Ext wc W) => r2mul_any _ _ _ _ (L + 1) q.num r.num W ((s3.ext x).1.isIn hnl.1) ((s4.ext x).1.isIn hnl.2.2.1) (by omega))
    have H2 := zH (fun W (x : Ext wc W) => r2mul_any _ _ _ _ (L + 1) q.den r.den W ((s3.ext x).2.isIn hnl.2.1) ((s4.ext x).2.isIn hnl.2.2.2) (by omega))
    have hd0 : (q.den : Int) * r.den ≠ 0 := Int.mul_ne_zero (by have := q.den_nz; omega) (by have := r.den_nz; omega)
    have HLW := zH (fun W n1 v1 n2 v2 (x : IntC W n1 v1 (q.num * r.num)) (y : IntC W n2 v2 ((q.den : Int) * r.den)) => (show Calls Tryz.prog 74 #[.agg #[.bool n1, v1], .agg #[.bool n2, v2]] W (RetR (q * r) W) by
      rw [Nm.mul_eq]; exact r3reduce_any n1 n2 v1 v2 (L + 1 + (L + 1)) _ _ W (x.isIn (nl_mul_int _ _ _ _ hnl.1 hnl.2.2.1)) (y.isIn (nl_mul_int _ _ _ _ hnl.2.1 hnl.2.2.2)) (by omega) hd0))
    clear hd0
    have HX0 := zH (HR0.out.ext s5)
    have HEM := zH (HWB.out.trans s5)
    have HCC := zH (And.intro cX cY)
    have n2 : X ≠ w.heap.size + 1 + 1 := by have := HSZ.out; omega
    have n5 : Y ≠ w.heap.size + 1 + 1 := by have := HSZ.out; omega
    have HS1 := zH (show w.heap.size ≤ w.heap.size + 1 + 1 by omega)
    clear s3 s4 s5 cX cY hnl hX hY
    go_wp2_with fail
    generalize hR : w.heap.size + 1 + 1 = R at *
    have gl : ∀ w', Own R wc w' → w'.cell? ⟨X, 0, none⟩ = some (.bool b1) ∧ w'.cell? ⟨X, 1, none⟩ = some (.slice x1 y1 z1) ∧ w'.cell? ⟨X, 2, none⟩ = some (.bool b2) ∧ w'.cell? ⟨X, 3, none⟩ = some (.slice x2 y2 z2) ∧
        w'.cell? ⟨Y, 0, none⟩ = some (.bool b3) ∧ w'.cell? ⟨Y, 1, none⟩ = some (.slice x3 y3 z3) ∧ w'.cell? ⟨Y, 2, none⟩ = some (.bool b4) ∧ w'.cell? ⟨Y, 3, none⟩ = some (.slice x4 y4 z4) := fun w' x =>
      ⟨x.get HCC.out.1.1 n2, x.get HCC.out.1.2.1 n2, x.get HCC.out.1.2.2.1 n2, x.get HCC.out.1.2.2.2 n2, x.get HCC.out.2.1 n5, x.get HCC.out.2.2.1 n5, x.get HCC.out.2.2.2.1 n5, x.get HCC.out.2.2.2.2 n5⟩
    go_region_held3 (fun w' => Own R wc w') (first | (with_reducible assumption) | (with_reducible exact Own.drew (Own.refl _ _)) | (with_reducible (apply Own.of_ext; assumption)) | (with_reducible (refine Own.set_at (Own.set_at (Own.set_at (Own.set_at ?_ _ _ _) _ _ _) _ _ _) _ _ _; first | assumption | (apply Own.of_ext; assumption))))
      (first | (go_at_call 48; ((with_reducible refine (H1.out _ (by first | assumption | exact Ext.drew (Ext.refl _))).mono ?_)); rintro e wx ⟨k1, r1, rfl, hi1, hen1⟩; obtain ⟨f1, f2, f3, rfl⟩ := hi1.form; have hx1 : Ext wc wx := Ext.trans (by first | assumption | exact Ext.drew (Ext.refl _)) hen1) | (go_at_call 48; ((with_reducible refine (H2.out _ (by first | assumption | exact Ext.drew (Ext.refl _))).mono ?_)); rintro e wy ⟨k2, r2, rfl, hi2, hen2⟩; obtain ⟨f4, f5, f6, rfl⟩ := hi2.form; have hx2 : Ext wc wy := Ext.trans (by first | assumption | exact Ext.drew (Ext.refl _)) hen2) | (go_at_call 74; ((with_reducible refine (HLW.out _ _ _ _ _ (hi1.ext hen2) hi2).mono ?_)); rintro e wz ⟨j1, t1, j2, t2, rfl, hc, hen9⟩; obtain ⟨g1, g2, g3, g4, g5, g6, rfl, rfl⟩ := hc.form; have hx : Ext wc wz := Ext.trans (by first | assumption | exact Ext.drew (Ext.refl _)) hen9; have X0 := Blk.ext HX0.out hx; have x00 := X0.cell 0; have x01 := X0.cell 1; have x02 := X0.cell 2; have x03 := X0.cell 3; have y00 := X0.frozen 0; have y01 := X0.frozen 1; have y02 := X0.frozen 2; have y03 := X0.frozen 3; simp at x00 x01 x02 x03))
    go_wp2_with fail
    have o := put4_own wz R (.bool j1) (.slice g1 g2 g3) (.bool j2) (.slice g4 g5 g6)
    have hrat := hc.own X0 (noU4 _ _ _ _ _ _ _ _) o
    have hext := o.ext (HEM.out.trans hx) HS1.out
    simp only [put4] at hrat hext
    refine bodyPost_ret (v := .agg #[.bool j1, .slice g1 g2 g3, .bool j2, .slice g4 g5 g6]) ?_ rfl ⟨_, _, _, _, rfl, hrat, hext⟩
    simp [results, Tryz.results71, go_sem, *]

set_option maxRecDepth 20000 in
set_option maxHeartbeats 4000000 in
theorem r3add_any (n m n' m' : Bool) (u v u' v' : Value) (L : Nat) (q r : Rat) (w : World) (h : RatIn L w n u m v q) (h' : RatIn L w n' u' m' v' r) (hL : L ≤ 70000) :
    Calls Tryz.prog 70 #[.agg #[.bool n, u, .bool m, v], .agg #[.bool n', u', .bool m', v']] w (RetR (q + r) w) := by
  obtain ⟨p1, l1, c1, p2, l2, c2, rfl, rfl⟩ := h.form
  obtain ⟨p3, l3, c3, p4, l4, c4, rfl, rfl⟩ := h'.form
  have HNA := zH (fun W (x : Ext w W) => r3norm_any n m (.slice p1 l1 c1) (.slice p2 l2 c2) L q W (h.ext x) (by omega))
  have HNB := zH (fun W (x : Ext w W) => r3norm_any n' m' (.slice p3 l3 c3) (.slice p4 l4 c4) L r W (h'.ext x) (by omega))
  have hnl : Nm.nl q.num.natAbs ≤ L + 1 ∧ Nm.nl (q.den : Int).natAbs ≤ L + 1 ∧ Nm.nl r.num.natAbs ≤ L + 1 ∧ Nm.nl (r.den : Int).natAbs ≤ L + 1 := by
    have h1 := h.rl
    have h2 := h'.rl
    unfold Nm.rl at h1 h2
    simp only [Int.natAbs_natCast]
    omega
  have HNL := zH hnl
  clear h h' hnl
  go_enter Tryz.func70, Tryz.ntmps70
  go_wp2_with fail
  have gA : ∀ x, Ext (((w.alloc (.cells #[.bool n, .slice p1 l1 c1, .bool m, .slice p2 l2 c2] 27)).alloc (.cells #[.bool n', .slice p3 l3 c3, .bool m', .slice p4 l4 c4] 27)).alloc (.cells #[.bool false, .slice none 0 0, .bool false, .slice none 0 0] 27)) x → x.cell? ⟨w.heap.size, 0, none⟩ = some (.bool n) ∧ x.cell? ⟨w.heap.size, 1, none⟩ = some (.slice p1 l1 c1) ∧ x.cell? ⟨w.heap.size, 2, none⟩ = some (.bool m) ∧ x.cell? ⟨w.heap.size, 3, none⟩ = some (.slice p2 l2 c2) ∧
      x.cell? ⟨w.heap.size + 1, 0, none⟩ = some (.bool n') ∧ x.cell? ⟨w.heap.size + 1, 1, none⟩ = some (.slice p3 l3 c3) ∧ x.cell? ⟨w.heap.size + 1, 2, none⟩ = some (.bool m') ∧ x.cell? ⟨w.heap.size + 1, 3, none⟩ = some (.slice p4 l4 c4) := fun x hx => by
    have a1 := ratBox w n m (.slice p1 l1 c1) (.slice p2 l2 c2) x ((((Ext.refl _).alloc _).alloc _).trans hx)
    have a2 := ratBox (w.alloc (.cells #[.bool n, .slice p1 l1 c1, .bool m, .slice p2 l2 c2] 27)) n' m' (.slice p3 l3 c3) (.slice p4 l4 c4) x (((Ext.refl _).alloc _).trans hx)
    simp only [World.size_alloc] at a2
    exact ⟨a1.1, a1.2.1, a1.2.2.1, a1.2.2.2.1, a2.1, a2.2.1, a2.2.2.1, a2.2.2.2.1⟩
  have HWB := zH (show Ext w (((w.alloc (.cells #[.bool n, .slice p1 l1 c1, .bool m, .slice p2 l2 c2] 27)).alloc (.cells #[.bool n', .slice p3 l3 c3, .bool m', .slice p4 l4 c4] 27)).alloc (.cells #[.bool false, .slice none 0 0, .bool false, .slice none 0 0] 27)) from (((Ext.refl _).alloc _).alloc _).alloc _)
  have HR0 := zH (Blk.new_at ((w.alloc (.cells #[.bool n, .slice p1 l1 c1, .bool m, .slice p2 l2 c2] 27)).alloc (.cells #[.bool n', .slice p3 l3 c3, .bool m', .slice p4 l4 c4] 27)) (w.heap.size + 1 + 1) (by simp) 27 #[.bool false, .slice none 0 0, .bool false, .slice none 0 0])
  have hz : (((w.alloc (.cells #[.bool n, .slice p1 l1 c1, .bool m, .slice p2 l2 c2] 27)).alloc (.cells #[.bool n', .slice p3 l3 c3, .bool m', .slice p4 l4 c4] 27)).alloc (.cells #[.bool false, .slice none 0 0, .bool false, .slice none 0 0] 27)).heap.size = w.heap.size + 1 + 1 + 1 := by simp
  have HSZ := zH hz
  clear hz
  generalize (((w.alloc (.cells #[.bool n, .slice p1 l1 c1, .bool m, .slice p2 l2 c2] 27)).alloc (.cells #[.bool n', .slice p3 l3 c3, .bool m', .slice p4 l4 c4] 27)).alloc (.cells #[.bool false, .slice none 0 0, .bool false, .slice none 0 0] 27)) = wb at *
  go_cut [5, 6] (fun s t wx => Two wb q r s t wx)
  case first =>
    clear HR0 HNL
    go_region_held3 (fun x => Ext wb x) ((first | (with_reducible assumption) | ((repeat (first | (with_reducible assumption) | (with_reducible exact Ext.refl _) | (with_reducible apply Ext.drew) | (with_reducible apply Ext.alloc) | ((with_reducible refine Ext.setCell ?_ ?_ _); rotate_left; focus (first | omega | (simp; done) | (simp; omega))) | (with_reducible (apply Ext.via; assumption)))); done)))
      (first | (go_at_call 46; ((with_reducible refine (HNA.out _ (HWB.out.trans (by first | assumption | exact Ext.drew (Ext.refl _)))).mono ?_)); rintro e wa ⟨b1, t1, b2, t2, rfl, hca, hea⟩; obtain ⟨x1, y1, z1, x2, y2, z2, rfl, rfl⟩ := hca.form; have hsa := hea.size; (try simp at hsa); obtain ⟨ka, fa⟩ := bcell hea; (try simp at ka); (try simp at fa); (try have l1 : wb.heap.size < wa.heap.size := by omega); (try have l2 : wb.heap.size + 1 < wa.heap.size := by omega)) | (go_at_call 46; ((with_reducible refine (HNB.out _ (HWB.out.trans (by first | assumption | exact Ext.drew (Ext.refl _)))).mono ?_)); rintro e wd ⟨b3, t3, b4, t4, rfl, hcb, heb⟩; obtain ⟨x3, y3, z3, x4, y4, z4, rfl, rfl⟩ := hcb.form; have hsb := heb.size; (try simp at hsb); obtain ⟨kb, fb⟩ := bcell heb; (try simp at kb); (try simp at fb); (try have l3 : wb.heap.size < wd.heap.size := by omega); (try have l4 : wb.heap.size + 1 < wd.heap.size := by omega); (try have l5 : wa.heap.size < wd.heap.size := by omega); (try have l6 : wa.heap.size + 1 < wd.heap.size := by omega)))
    all_goals go_wp2_with fail
    all_goals go_meet
    all_goals have lt2 : ∀ a : Nat, a < a + 1 + 1 := fun a => by omega
    all_goals try have q1 : wa.heap.size ≠ wb.heap.size := by omega
    all_goals try have q2 : wb.heap.size ≠ wa.heap.size := by omega
    all_goals try have q3 : wb.heap.size < wa.heap.size + 1 := by omega
    all_goals refine ⟨_, _, b1, x1, y1, z1, b2, x2, y2, z2, b3, x3, y3, z3, b4, x4, y4, z4, rfl, rfl, ?_, ?_, ⟨?_, ?_, ?_, ?_⟩, ⟨?_, ?_, ?_, ?_⟩, ?_, ?_, ?_⟩
    all_goals first
      | (with_reducible assumption)
      | omega
      | (simp [go_sem, *]; done)
      | (rw [World.cell?_setCell_far, World.cell?_setCell_far, World.cell?_setCell_far, World.cell?_setCell_far] <;> first | (simp [go_sem, *]; done) | (simp; omega))
      | ((repeat (first | (with_reducible assumption) | (with_reducible apply RatC.drew) | (with_reducible apply RatC.alloc) | ((with_reducible refine RatC.setB (b := false) ?_ ?_ _); rotate_left; focus (simp [go_sem, *]; done)) | ((with_reducible refine RatC.setS (a := none) (l := 0) (c := 0) ?_ ?_ _); rotate_left; focus (simp [go_sem, *]; done)) | (with_reducible (apply RatC.via; assumption)))); done)
      | (first | (with_reducible assumption) | ((repeat (first | (with_reducible assumption) | (with_reducible exact Ext.refl _) | (with_reducible apply Ext.drew) | (with_reducible apply Ext.alloc) | ((with_reducible refine Ext.setCell ?_ ?_ _); rotate_left; focus (first | omega | (simp; done) | (simp; omega))) | (with_reducible (apply Ext.via; assumption)))); done))
  case rest =>
    clear HNA HNB gA
    obtain ⟨X, Y, b1, x1, y1, z1, b2, x2, y2, z2, b3, x3, y3, z3, b4, x4, y4, z4, rfl, rfl, hX, hY, cX, cY, s3, s4, s5⟩ := hcut
    have hnl := HNL.out
    have H1 := zH (fun W (x : Ext wc W) => r2mul_any _ _ _ _ (L + 1) q.num r.den W ((s3.ext x).1.isIn hnl.1) ((s4.ext x).2.isIn hnl.2.2.2) (by omega))
    have H2 := zH (fun W (x : Ext wc W) => r2mul_any _ _ _ _ (L + 1) r.num q.den W ((s4.ext x).1.isIn hnl.2.2.1) ((s3.ext x).2.isIn hnl.2.1) (by omega))
    have H3 := zH (fun W (x : Ext wc W) => r2mul_any _ _ _ _ (L + 1) q.den r.den W ((s3.ext x).2.isIn hnl.2.1) ((s4.ext x).2.isIn hnl.2.2.2) (by omega))
    have hn1 := nl_mul_int q.num r.den _ _ hnl.1 hnl.2.2.2
    have hn2 := nl_mul_int r.num q.den _ _ hnl.2.2.1 hnl.2.1
    have HAD := zH (fun W n1 v1 n2 v2 (x : IntC W n1 v1 (q.num * r.den)) (y : IntC W n2 v2 (r.num * q.den)) => r2add_any n1 n2 v1 v2 (L + 1 + (L + 1)) _ _ W (x.isIn hn1) (y.isIn hn2) (by omega))
    have hd0 : (q.den : Int) * r.den ≠ 0 := Int.mul_ne_zero (by have := q.den_nz; omega) (by have := r.den_nz; omega)
    have HLW := zH (fun W n1 v1 n2 v2 (x : IntC W n1 v1 (q.num * r.den + r.num * q.den)) (y : IntC W n2 v2 ((q.den : Int) * r.den)) => (show Calls Tryz.prog 74 #[.agg #[.bool n1, v1], .agg #[.bool n2, v2]] W (RetR (q + r) W) by
      rw [Nm.add_eq]; exact r3reduce_any n1 n2 v1 v2 (L + 1 + (L + 1) + 1) _ _ W (x.isIn (nl_add_int _ _ _ hn1 hn2)) (y.isIn (Nat.le_trans (nl_mul_int _ _ _ _ hnl.2.1 hnl.2.2.2) (by omega))) (by omega) hd0))
    clear hd0 hn1 hn2
    have HX0 := zH (HR0.out.ext s5)
    have HEM := zH (HWB.out.trans s5)
    have HCC := zH (And.intro cX cY)
    have n2 : X ≠ w.heap.size + 1 + 1 := by have := HSZ.out; omega
    have n5 : Y ≠ w.heap.size + 1 + 1 := by have := HSZ.out; omega
    have HS1 := zH (show w.heap.size ≤ w.heap.size + 1 + 1 by omega)
    clear s3 s4 s5 cX cY hnl hX hY
    go_wp2_with fail
    generalize hR : w.heap.size + 1 + 1 = R at *
    have gl : ∀ w', Own R wc w' → w'.cell? ⟨X, 0, none⟩ = some (.bool b1) ∧ w'.cell? ⟨X, 1, none⟩ = some (.slice x1 y1 z1) ∧ w'.cell? ⟨X, 2, none⟩ = some (.bool b2) ∧ w'.cell? ⟨X, 3, none⟩ = some (.slice x2 y2 z2) ∧
        w'.cell? ⟨Y, 0, none⟩ = some (.bool b3) ∧ w'.cell? ⟨Y, 1, none⟩ = some (.slice x3 y3 z3) ∧ w'.cell? ⟨Y, 2, none⟩ = some (.bool b4) ∧ w'.cell? ⟨Y, 3, none⟩ = some (.slice x4 y4 z4) := fun w' x =>
      ⟨x.get HCC.out.1.1 n2, x.get HCC.out.1.2.1 n2, x.get HCC.out.1.2.2.1 n2, x.get HCC.out.1.2.2.2 n2, x.get HCC.out.2.1 n5, x.get HCC.out.2.2.1 n5, x.get HCC.out.2.2.2.1 n5, x.get HCC.out.2.2.2.2 n5⟩
    go_region_held3 (fun w' => Own R wc w') (first | (with_reducible assumption) | (with_reducible exact Own.drew (Own.refl _ _)) | (with_reducible (apply Own.of_ext; assumption)) | (with_reducible (refine Own.set_at (Own.set_at (Own.set_at (Own.set_at ?_ _ _ _) _ _ _) _ _ _) _ _ _; first | assumption | (apply Own.of_ext; assumption))))
      (first | (go_at_call 48; ((with_reducible refine (H1.out _ (by first | assumption | exact Ext.drew (Ext.refl _))).mono ?_)); rintro e wx ⟨k1, r1, rfl, hi1, hen1⟩; obtain ⟨f1, f2, f3, rfl⟩ := hi1.form; have hx1 : Ext wc wx := Ext.trans (by first | assumption | exact Ext.drew (Ext.refl _)) hen1) | (go_at_call 48; ((with_reducible refine (H2.out _ (by first | assumption | exact Ext.drew (Ext.refl _))).mono ?_)); rintro e wy ⟨k2, r2, rfl, hi2, hen2⟩; obtain ⟨f4, f5, f6, rfl⟩ := hi2.form; have hx2 : Ext wc wy := Ext.trans (by first | assumption | exact Ext.drew (Ext.refl _)) hen2) | (go_at_call 97; ((with_reducible refine (HAD.out _ _ _ _ _ (hi1.ext hen2) hi2).mono ?_)); rintro e wt ⟨k4, r4, rfl, hi4, hen4⟩; obtain ⟨f10, f11, f12, rfl⟩ := hi4.form; have hx4 : Ext wc wt := Ext.trans (by first | assumption | exact Ext.drew (Ext.refl _)) hen4) | (go_at_call 48; ((with_reducible refine (H3.out _ (by first | assumption | exact Ext.drew (Ext.refl _))).mono ?_)); rintro e wu ⟨k3, r3, rfl, hi3, hen3⟩; obtain ⟨f7, f8, f9, rfl⟩ := hi3.form; have hx3 : Ext wc wu := Ext.trans (by first | assumption | exact Ext.drew (Ext.refl _)) hen3) | (go_at_call 74; ((with_reducible refine (HLW.out _ _ _ _ _ (hi4.ext hen3) hi3).mono ?_)); rintro e wz ⟨j1, t1, j2, t2, rfl, hc, hen9⟩; obtain ⟨g1, g2, g3, g4, g5, g6, rfl, rfl⟩ := hc.form; have hx : Ext wc wz := Ext.trans (by first | assumption | exact Ext.drew (Ext.refl _)) hen9; have X0 := Blk.ext HX0.out hx; have x00 := X0.cell 0; have x01 := X0.cell 1; have x02 := X0.cell 2; have x03 := X0.cell 3; have y00 := X0.frozen 0; have y01 := X0.frozen 1; have y02 := X0.frozen 2; have y03 := X0.frozen 3; simp at x00 x01 x02 x03))
    go_wp2_with fail
    have o := put4_own wz R (.bool j1) (.slice g1 g2 g3) (.bool j2) (.slice g4 g5 g6)
    have hrat := hc.own X0 (noU4 _ _ _ _ _ _ _ _) o
    have hext := o.ext (HEM.out.trans hx) HS1.out
    simp only [put4] at hrat hext
    refine bodyPost_ret (v := .agg #[.bool j1, .slice g1 g2 g3, .bool j2, .slice g4 g5 g6]) ?_ rfl ⟨_, _, _, _, rfl, hrat, hext⟩
    simp [results, Tryz.results70, go_sem, *]

set_option maxRecDepth 20000 in
set_option maxHeartbeats 4000000 in
theorem r3cmp_any (n m n' m' : Bool) (u v u' v' : Value) (L : Nat) (q r : Rat) (w : World) (h : RatIn L w n u m v q) (h' : RatIn L w n' u' m' v' r) (hL : L ≤ 70000) :
    Calls Tryz.prog 23 #[.agg #[.bool n, u, .bool m, v], .agg #[.bool n', u', .bool m', v']] w (RetCmp (rcmp q r) w) := by
  obtain ⟨p1, l1, c1, p2, l2, c2, rfl, rfl⟩ := h.form
  obtain ⟨p3, l3, c3, p4, l4, c4, rfl, rfl⟩ := h'.form
  have HNA := zH (fun W (x : Ext w W) => r3norm_any n m (.slice p1 l1 c1) (.slice p2 l2 c2) L q W (h.ext x) (by omega))
  have HNB := zH (fun W (x : Ext w W) => r3norm_any n' m' (.slice p3 l3 c3) (.slice p4 l4 c4) L r W (h'.ext x) (by omega))
  have hnl : Nm.nl q.num.natAbs ≤ L + 1 ∧ Nm.nl (q.den : Int).natAbs ≤ L + 1 ∧ Nm.nl r.num.natAbs ≤ L + 1 ∧ Nm.nl (r.den : Int).natAbs ≤ L + 1 := by
    have h1 := h.rl
    have h2 := h'.rl
    unfold Nm.rl at h1 h2
    simp only [Int.natAbs_natCast]
    omega
  have HNL := zH hnl
  clear h h' hnl
  go_enter Tryz.func23, Tryz.ntmps23
  go_wp2_with fail
  have gA : ∀ x, Ext ((w.alloc (.cells #[.bool n, .slice p1 l1 c1, .bool m, .slice p2 l2 c2] 27)).alloc (.cells #[.bool n', .slice p3 l3 c3, .bool m', .slice p4 l4 c4] 27)) x → x.cell? ⟨w.heap.size, 0, none⟩ = some (.bool n) ∧ x.cell? ⟨w.heap.size, 1, none⟩ = some (.slice p1 l1 c1) ∧ x.cell? ⟨w.heap.size, 2, none⟩ = some (.bool m) ∧ x.cell? ⟨w.heap.size, 3, none⟩ = some (.slice p2 l2 c2) ∧
      x.cell? ⟨w.heap.size + 1, 0, none⟩ = some (.bool n') ∧ x.cell? ⟨w.heap.size + 1, 1, none⟩ = some (.slice p3 l3 c3) ∧ x.cell? ⟨w.heap.size + 1, 2, none⟩ = some (.bool m') ∧ x.cell? ⟨w.heap.size + 1, 3, none⟩ = some (.slice p4 l4 c4) := fun x hx => by
    have a1 := ratBox w n m (.slice p1 l1 c1) (.slice p2 l2 c2) x (((Ext.refl _).alloc _).trans hx)
    have a2 := ratBox (w.alloc (.cells #[.bool n, .slice p1 l1 c1, .bool m, .slice p2 l2 c2] 27)) n' m' (.slice p3 l3 c3) (.slice p4 l4 c4) x hx
    simp only [World.size_alloc] at a2
    exact ⟨a1.1, a1.2.1, a1.2.2.1, a1.2.2.2.1, a2.1, a2.2.1, a2.2.2.1, a2.2.2.2.1⟩
  have HWB := zH (show Ext w ((w.alloc (.cells #[.bool n, .slice p1 l1 c1, .bool m, .slice p2 l2 c2] 27)).alloc (.cells #[.bool n', .slice p3 l3 c3, .bool m', .slice p4 l4 c4] 27)) from ((Ext.refl _).alloc _).alloc _)
  have hz : ((w.alloc (.cells #[.bool n, .slice p1 l1 c1, .bool m, .slice p2 l2 c2] 27)).alloc (.cells #[.bool n', .slice p3 l3 c3, .bool m', .slice p4 l4 c4] 27)).heap.size = w.heap.size + 1 + 1 := by simp
  have HSZ := zH hz
  clear hz
  generalize ((w.alloc (.cells #[.bool n, .slice p1 l1 c1, .bool m, .slice p2 l2 c2] 27)).alloc (.cells #[.bool n', .slice p3 l3 c3, .bool m', .slice p4 l4 c4] 27)) = wb at *
  go_cut [5, 6] (fun s t wx => Two wb q r s t wx)
  case first =>
    clear HNL
    go_region_held3 (fun x => Ext wb x) ((first | (with_reducible assumption) | ((repeat (first | (with_reducible assumption) | (with_reducible exact Ext.refl _) | (with_reducible apply Ext.drew) | (with_reducible apply Ext.alloc) | ((with_reducible refine Ext.setCell ?_ ?_ _); rotate_left; focus (first | omega | (simp; done) | (simp; omega))) | (with_reducible (apply Ext.via; assumption)))); done)))
      (first | (go_at_call 46; ((with_reducible refine (HNA.out _ (HWB.out.trans (by first | assumption | exact Ext.drew (Ext.refl _)))).mono ?_)); rintro e wa ⟨b1, t1, b2, t2, rfl, hca, hea⟩; obtain ⟨x1, y1, z1, x2, y2, z2, rfl, rfl⟩ := hca.form; have hsa := hea.size; (try simp at hsa); obtain ⟨ka, fa⟩ := bcell hea; (try simp at ka); (try simp at fa); (try have l1 : wb.heap.size < wa.heap.size := by omega); (try have l2 : wb.heap.size + 1 < wa.heap.size := by omega)) | (go_at_call 46; ((with_reducible refine (HNB.out _ (HWB.out.trans (by first | assumption | exact Ext.drew (Ext.refl _)))).mono ?_)); rintro e wd ⟨b3, t3, b4, t4, rfl, hcb, heb⟩; obtain ⟨x3, y3, z3, x4, y4, z4, rfl, rfl⟩ := hcb.form; have hsb := heb.size; (try simp at hsb); obtain ⟨kb, fb⟩ := bcell heb; (try simp at kb); (try simp at fb); (try have l3 : wb.heap.size < wd.heap.size := by omega); (try have l4 : wb.heap.size + 1 < wd.heap.size := by omega); (try have l5 : wa.heap.size < wd.heap.size := by omega); (try have l6 : wa.heap.size + 1 < wd.heap.size := by omega)))
    all_goals go_wp2_with fail
    all_goals go_meet
    all_goals have lt2 : ∀ a : Nat, a < a + 1 + 1 := fun a => by omega
    all_goals try have q1 : wa.heap.size ≠ wb.heap.size := by omega
    all_goals try have q2 : wb.heap.size ≠ wa.heap.size := by omega
    all_goals try have q3 : wb.heap.size < wa.heap.size + 1 := by omega
    all_goals refine ⟨_, _, b1, x1, y1, z1, b2, x2, y2, z2, b3, x3, y3, z3, b4, x4, y4, z4, rfl, rfl, ?_, ?_, ⟨?_, ?_, ?_, ?_⟩, ⟨?_, ?_, ?_, ?_⟩, ?_, ?_, ?_⟩
    all_goals first
      | (with_reducible assumption)
      | omega
      | (simp [go_sem, *]; done)
      | (rw [World.cell?_setCell_far, World.cell?_setCell_far, World.cell?_setCell_far, World.cell?_setCell_far] <;> first | (simp [go_sem, *]; done) | (simp; omega))
      | ((repeat (first | (with_reducible assumption) | (with_reducible apply RatC.drew) | (with_reducible apply RatC.alloc) | ((with_reducible refine RatC.setB (b := false) ?_ ?_ _); rotate_left; focus (simp [go_sem, *]; done)) | ((with_reducible refine RatC.setS (a := none) (l := 0) (c := 0) ?_ ?_ _); rotate_left; focus (simp [go_sem, *]; done)) | (with_reducible (apply RatC.via; assumption)))); done)
      | (first | (with_reducible assumption) | ((repeat (first | (with_reducible assumption) | (with_reducible exact Ext.refl _) | (with_reducible apply Ext.drew) | (with_reducible apply Ext.alloc) | ((with_reducible refine Ext.setCell ?_ ?_ _); rotate_left; focus (first | omega | (simp; done) | (simp; omega))) | (with_reducible (apply Ext.via; assumption)))); done))
  case rest =>
    clear HNA HNB gA
    obtain ⟨X, Y, b1, x1, y1, z1, b2, x2, y2, z2, b3, x3, y3, z3, b4, x4, y4, z4, rfl, rfl, hX, hY, cX, cY, s3, s4, s5⟩ := hcut
    have hnl := HNL.out
    have H1 := zH (fun W (x : Ext wc W) => r2mul_any _ _ _ _ (L + 1) q.num r.den W ((s3.ext x).1.isIn hnl.1) ((s4.ext x).2.isIn hnl.2.2.2) (by omega))
    have H2 := zH (fun W (x : Ext wc W) => r2mul_any _ _ _ _ (L + 1) r.num q.den W ((s4.ext x).1.isIn hnl.2.2.1) ((s3.ext x).2.isIn hnl.2.1) (by omega))
    have hn1 := nl_mul_int q.num r.den _ _ hnl.1 hnl.2.2.2
    have hn2 := nl_mul_int r.num q.den _ _ hnl.2.2.1 hnl.2.1
    have HAD := zH (fun W n1 v1 n2 v2 (x : IntC W n1 v1 (q.num * r.den)) (y : IntC W n2 v2 (r.num * q.den)) => r2cmp_any n1 n2 v1 v2 (L + 1 + (L + 1)) _ _ W (x.isIn hn1) (y.isIn hn2) (by omega))
    clear hn1 hn2
    have HEM := zH (HWB.out.trans s5)
    have HCC := zH (And.intro cX cY)
    clear s3 s4 s5 cX cY hnl hX hY
    go_wp2_with fail
    have gl : ∀ w', Ext wc w' → w'.cell? ⟨X, 0, none⟩ = some (.bool b1) ∧ w'.cell? ⟨X, 1, none⟩ = some (.slice x1 y1 z1) ∧ w'.cell? ⟨X, 2, none⟩ = some (.bool b2) ∧ w'.cell? ⟨X, 3, none⟩ = some (.slice x2 y2 z2) ∧
        w'.cell? ⟨Y, 0, none⟩ = some (.bool b3) ∧ w'.cell? ⟨Y, 1, none⟩ = some (.slice x3 y3 z3) ∧ w'.cell? ⟨Y, 2, none⟩ = some (.bool b4) ∧ w'.cell? ⟨Y, 3, none⟩ = some (.slice x4 y4 z4) := fun w' x =>
      ⟨x.get HCC.out.1.1, x.get HCC.out.1.2.1, x.get HCC.out.1.2.2.1, x.get HCC.out.1.2.2.2, x.get HCC.out.2.1, x.get HCC.out.2.2.1, x.get HCC.out.2.2.2.1, x.get HCC.out.2.2.2.2⟩
    go_region_held3 (fun w' => Ext wc w') (first | (with_reducible assumption) | (with_reducible exact Ext.drew (Ext.refl _)) | (with_reducible (apply Ext.via; assumption; assumption)))
      (first | (go_at_call 48; ((with_reducible refine (H1.out _ (by first | assumption | exact Ext.drew (Ext.refl _))).mono ?_)); rintro e wx ⟨k1, r1, rfl, hi1, hen1⟩; obtain ⟨f1, f2, f3, rfl⟩ := hi1.form; have hx1 : Ext wc wx := Ext.trans (by first | assumption | exact Ext.drew (Ext.refl _)) hen1) | (go_at_call 48; ((with_reducible refine (H2.out _ (by first | assumption | exact Ext.drew (Ext.refl _))).mono ?_)); rintro e wy ⟨k2, r2, rfl, hi2, hen2⟩; obtain ⟨f4, f5, f6, rfl⟩ := hi2.form; have hx2 : Ext wc wy := Ext.trans (by first | assumption | exact Ext.drew (Ext.refl _)) hen2) | (go_at_call 47; ((with_reducible refine (HAD.out _ _ _ _ _ (hi1.ext hen2) hi2).mono ?_)); rintro e wt ⟨rfl, hen4⟩; have hx4 : Ext wc wt := Ext.trans (by first | assumption | exact Ext.drew (Ext.refl _)) hen4))
    go_wp2_with fail
    go_ret
    exact ⟨rfl, HEM.out.trans hx4⟩

set_option maxRecDepth 20000 in
set_option maxHeartbeats 4000000 in
theorem r3sub_any (n m n' m' : Bool) (u v u' v' : Value) (L : Nat) (q r : Rat) (w : World) (h : RatIn L w n u m v q) (h' : RatIn L w n' u' m' v' r) (hL : L ≤ 69000) :
    Calls Tryz.prog 72 #[.agg #[.bool n, u, .bool m, v], .agg #[.bool n', u', .bool m', v']] w (RetR (q - r) w) := by
  obtain ⟨p1, l1, c1, p2, l2, c2, rfl, rfl⟩ := h.form
  obtain ⟨p3, l3, c3, p4, l4, c4, rfl, rfl⟩ := h'.form
  have HN := zH (fun W (x : Ext w W) => r3neg_any n' m' (.slice p3 l3 c3) (.slice p4 l4 c4) L r W (h'.ext x) (by omega))
  have hl : Nm.rl (-r) ≤ L + 1 := by rw [Nm.rl_neg]; have := h'.rl; omega
  have HAD := zH (fun W n1 v1 n2 v2 (x : Ext w W) (y : RatC W n1 v1 n2 v2 (-r)) => (show Calls Tryz.prog 70 #[.agg #[.bool n, .slice p1 l1 c1, .bool m, .slice p2 l2 c2], .agg #[.bool n1, v1, .bool n2, v2]] W (RetR (q - r) W) by
    rw [Rat.sub_eq_add_neg]; exact r3add_any n m n1 n2 _ _ _ _ (L + 1) q (-r) W (by obtain ⟨y0, z0, a1, a2, a3⟩ := h.ext x; exact ⟨y0, z0, a1.mono (by omega), a2.mono (by omega), a3⟩) (y.isIn hl) (by omega)))
  clear h h' hl
  go_enter Tryz.func72, Tryz.ntmps72
  go_wp2_with fail
  have gA : ∀ x, Ext (((w.alloc (.cells #[.bool n, .slice p1 l1 c1, .bool m, .slice p2 l2 c2] 27)).alloc (.cells #[.bool n', .slice p3 l3 c3, .bool m', .slice p4 l4 c4] 27)).alloc (.cells #[.bool false, .slice none 0 0, .bool false, .slice none 0 0] 27)) x → x.cell? ⟨w.heap.size, 0, none⟩ = some (.bool n) ∧ x.cell? ⟨w.heap.size, 1, none⟩ = some (.slice p1 l1 c1) ∧ x.cell? ⟨w.heap.size, 2, none⟩ = some (.bool m) ∧ x.cell? ⟨w.heap.size, 3, none⟩ = some (.slice p2 l2 c2) ∧
      x.cell? ⟨w.heap.size + 1, 0, none⟩ = some (.bool n') ∧ x.cell? ⟨w.heap.size + 1, 1, none⟩ = some (.slice p3 l3 c3) ∧ x.cell? ⟨w.heap.size + 1, 2, none⟩ = some (.bool m') ∧ x.cell? ⟨w.heap.size + 1, 3, none⟩ = some (.slice p4 l4 c4) := fun x hx => by
    have a1 := ratBox w n m (.slice p1 l1 c1) (.slice p2 l2 c2) x ((((Ext.refl _).alloc _).alloc _).trans hx)
    have a2 := ratBox (w.alloc (.cells #[.bool n, .slice p1 l1 c1, .bool m, .slice p2 l2 c2] 27)) n' m' (.slice p3 l3 c3) (.slice p4 l4 c4) x (((Ext.refl _).alloc _).trans hx)
    simp only [World.size_alloc] at a2
    exact ⟨a1.1, a1.2.1, a1.2.2.1, a1.2.2.2.1, a2.1, a2.2.1, a2.2.2.1, a2.2.2.2.1⟩
  have HWB := zH (show Ext w (((w.alloc (.cells #[.bool n, .slice p1 l1 c1, .bool m, .slice p2 l2 c2] 27)).alloc (.cells #[.bool n', .slice p3 l3 c3, .bool m', .slice p4 l4 c4] 27)).alloc (.cells #[.bool false, .slice none 0 0, .bool false, .slice none 0 0] 27)) from (((Ext.refl _).alloc _).alloc _).alloc _)
  have HX0 := zH (Blk.new_at ((w.alloc (.cells #[.bool n, .slice p1 l1 c1, .bool m, .slice p2 l2 c2] 27)).alloc (.cells #[.bool n', .slice p3 l3 c3, .bool m', .slice p4 l4 c4] 27)) (w.heap.size + 1 + 1) (by simp) 27 #[.bool false, .slice none 0 0, .bool false, .slice none 0 0])
  have HS1 := zH (show w.heap.size ≤ w.heap.size + 1 + 1 by omega)
  have gB := gA _ (Ext.refl _)
  clear gA
  generalize (((w.alloc (.cells #[.bool n, .slice p1 l1 c1, .bool m, .slice p2 l2 c2] 27)).alloc (.cells #[.bool n', .slice p3 l3 c3, .bool m', .slice p4 l4 c4] 27)).alloc (.cells #[.bool false, .slice none 0 0, .bool false, .slice none 0 0] 27)) = wc at *
  have n1 : w.heap.size ≠ w.heap.size + 1 + 1 := by omega
  have n2 : w.heap.size + 1 ≠ w.heap.size + 1 + 1 := by omega
  generalize hR : w.heap.size + 1 + 1 = R at *
  generalize hY : w.heap.size + 1 = Y at *
  have HXS := zH hR
  generalize hX : w.heap.size = X at *
  have gl : ∀ w', Own R wc w' → w'.cell? ⟨X, 0, none⟩ = some (.bool n) ∧ w'.cell? ⟨X, 1, none⟩ = some (.slice p1 l1 c1) ∧ w'.cell? ⟨X, 2, none⟩ = some (.bool m) ∧ w'.cell? ⟨X, 3, none⟩ = some (.slice p2 l2 c2) ∧
      w'.cell? ⟨Y, 0, none⟩ = some (.bool n') ∧ w'.cell? ⟨Y, 1, none⟩ = some (.slice p3 l3 c3) ∧ w'.cell? ⟨Y, 2, none⟩ = some (.bool m') ∧ w'.cell? ⟨Y, 3, none⟩ = some (.slice p4 l4 c4) := fun w' x =>
    ⟨x.get gB.1 n1, x.get gB.2.1 n1, x.get gB.2.2.1 n1, x.get gB.2.2.2.1 n1, x.get gB.2.2.2.2.1 n2, x.get gB.2.2.2.2.2.1 n2, x.get gB.2.2.2.2.2.2.1 n2, x.get gB.2.2.2.2.2.2.2 n2⟩
  clear gB hR hY
  have HXX := zH hX
  clear hX
  go_region_held3 (fun w' => Own R wc w') (first | (with_reducible assumption) | (with_reducible exact Own.drew (Own.refl _ _)) | (with_reducible (apply Own.of_ext; assumption)) | (with_reducible (refine Own.set_at (Own.set_at (Own.set_at (Own.set_at ?_ _ _ _) _ _ _) _ _ _) _ _ _; first | assumption | (apply Own.of_ext; assumption))))
    (first | (go_at_call 98; ((with_reducible refine (HN.out _ (HWB.out.trans (by first | assumption | exact Ext.drew (Ext.refl _)))).mono ?_)); rintro e wx ⟨b1, t1, b2, t2, rfl, hc1, hen1⟩; obtain ⟨f1, f2, f3, f4, f5, f6, rfl, rfl⟩ := hc1.form; have hx1 : Ext wc wx := Ext.trans (by first | assumption | exact Ext.drew (Ext.refl _)) hen1) | (go_at_call 70; ((with_reducible refine (HAD.out _ _ _ _ _ (HWB.out.trans (by first | assumption | exact Ext.drew (Ext.refl _))) hc1).mono ?_)); rintro e wz ⟨j1, t1, j2, t2, rfl, hc, hen9⟩; obtain ⟨g1, g2, g3, g4, g5, g6, rfl, rfl⟩ := hc.form; have hx : Ext wc wz := Ext.trans (by first | assumption | exact Ext.drew (Ext.refl _)) hen9; have X0 := Blk.ext HX0.out hx; have x00 := X0.cell 0; have x01 := X0.cell 1; have x02 := X0.cell 2; have x03 := X0.cell 3; have y00 := X0.frozen 0; have y01 := X0.frozen 1; have y02 := X0.frozen 2; have y03 := X0.frozen 3; simp at x00 x01 x02 x03))
  go_wp2_with fail
  have o := put4_own wz R (.bool j1) (.slice g1 g2 g3) (.bool j2) (.slice g4 g5 g6)
  have hrat := hc.own X0 (noU4 _ _ _ _ _ _ _ _) o
  have hext := o.ext (HWB.out.trans hx) (by rw [HXX.out]; exact HS1.out)
  simp only [put4] at hrat hext
  refine bodyPost_ret (v := .agg #[.bool j1, .slice g1 g2 g3, .bool j2, .slice g4 g5 g6]) ?_ rfl ⟨_, _, _, _, rfl, hrat, hext⟩
  simp [results, Tryz.results72, go_sem, *]

structure RV where
  n : Bool
  p : Option Addr
  l : Nat
  c : Nat
  m : Bool
  p2 : Option Addr
  l2 : Nat
  c2 : Nat
def RV.In (L : Nat) (w : World) (a : RV) (q : Rat) : Prop := RatIn L w a.n (.slice a.p a.l a.c) a.m (.slice a.p2 a.l2 a.c2) q
def RV.Is (w : World) (a : RV) (q : Rat) : Prop := RatC w a.n (.slice a.p a.l a.c) a.m (.slice a.p2 a.l2 a.c2) q
theorem RV.In.ext {L : Nat} {w w' : World} {a : RV} {q : Rat} (h : a.In L w q) (e : Ext w w') : a.In L w' q := RatIn.ext h e
theorem RV.Is.ext {w w' : World} {a : RV} {q : Rat} (h : a.Is w q) (e : Ext w w') : a.Is w' q := RatC.ext h e
theorem RV.Is.isIn {L : Nat} {w : World} {a : RV} {q : Rat} (h : a.Is w q) (hl : Nm.rl q ≤ L) : a.In L w q := RatC.isIn h hl
theorem RV.In.rl {L : Nat} {w : World} {a : RV} {q : Rat} (h : a.In L w q) : Nm.rl q ≤ max L 1 := RatIn.rl h
theorem RV.In.mono {L M : Nat} {w : World} {a : RV} {q : Rat} (h : a.In L w q) (hl : L ≤ M) : a.In M w q := by
  obtain ⟨y, z, h1, h2, h3⟩ := h
  exact ⟨y, z, h1.mono hl, h2.mono hl, h3⟩
theorem RV.Is.own {w w' : World} {a : RV} {q : Rat} (h : a.Is w q) {g : Nat} {t : TypeId} {cs : Array Value} (hb : Blk w g t cs) (hn : NoU cs) (o : Own g w w') : a.Is w' q := RatC.own h hb hn o
def RV.zero : RV := ⟨false, none, 0, 0, false, none, 0, 0⟩

def RetV (q : Rat) (w : World) (e : Ending) (w' : World) : Prop := ∃ a : RV, e = .returned (.agg #[.bool a.n, .slice a.p a.l a.c, .bool a.m, .slice a.p2 a.l2 a.c2]) ∧ a.Is w' q ∧ Ext w w'
theorem RetR.v {q : Rat} {w w' : World} {e : Ending} (h : RetR q w e w') : RetV q w e w' := by
  obtain ⟨n, u, m, v, rfl, hc, he⟩ := h
  obtain ⟨p, l, c, p2, l2, c2, rfl, rfl⟩ := hc.form
  exact ⟨⟨n, p, l, c, m, p2, l2, c2⟩, rfl, hc, he⟩
def RetP (x y : Rat) (w : World) (e : Ending) (w' : World) : Prop := ∃ a b : RV, e = .returned (.agg #[.bool a.n, .slice a.p a.l a.c, .bool a.m, .slice a.p2 a.l2 a.c2, .bool b.n, .slice b.p b.l b.c, .bool b.m, .slice b.p2 b.l2 b.c2]) ∧ a.Is w' x ∧ b.Is w' y ∧ Ext w w'

theorem noU_of (cs : List Value) (h : ∀ v ∈ cs, ∀ x : Int, v ≠ .int .u32 x) : NoU cs.toArray := by
  intro i x hi
  rw [List.getElem?_toArray] at hi
  exact h _ (List.mem_of_getElem? hi) x rfl
section
variable {L : Nat} {w : World} {a b : RV} {q r : Rat}
theorem xadd (h : a.In L w q) (h' : b.In L w r) (hL : L ≤ 70000) : Calls Tryz.prog 86 #[.agg #[.bool a.n, .slice a.p a.l a.c, .bool a.m, .slice a.p2 a.l2 a.c2], .agg #[.bool b.n, .slice b.p b.l b.c, .bool b.m, .slice b.p2 b.l2 b.c2]] w (RetV (q + r) w) := (radd_any _ _ _ _ _ _ _ _ L q r w h h' hL).mono fun _ _ h => RetR.v h
theorem xsub (h : a.In L w q) (h' : b.In L w r) (hL : L ≤ 70000) : Calls Tryz.prog 59 #[.agg #[.bool a.n, .slice a.p a.l a.c, .bool a.m, .slice a.p2 a.l2 a.c2], .agg #[.bool b.n, .slice b.p b.l b.c, .bool b.m, .slice b.p2 b.l2 b.c2]] w (RetV (q - r) w) := (rsub_any _ _ _ _ _ _ _ _ L q r w h h' hL).mono fun _ _ h => RetR.v h
theorem xmul (h : a.In L w q) (h' : b.In L w r) (hL : L ≤ 70000) : Calls Tryz.prog 58 #[.agg #[.bool a.n, .slice a.p a.l a.c, .bool a.m, .slice a.p2 a.l2 a.c2], .agg #[.bool b.n, .slice b.p b.l b.c, .bool b.m, .slice b.p2 b.l2 b.c2]] w (RetV (q * r) w) := (rmul_any _ _ _ _ _ _ _ _ L q r w h h' hL).mono fun _ _ h => RetR.v h
theorem xnorm (h : a.In L w q) (hL : L ≤ 300000) : Calls Tryz.prog 20 #[.agg #[.bool a.n, .slice a.p a.l a.c, .bool a.m, .slice a.p2 a.l2 a.c2]] w (RetV q w) := (rnorm_any _ _ _ _ L q w h hL).mono fun _ _ h => RetR.v h
end

end Go.Proofs.YtmgibncehlpfkaaGreat

namespace Go.Proofs.YtmgibncehlpfkaaGreat
open Go.ChangeShapes Go.WideShapes Go.ChangeAt Go.RowKit

theorem cells_u32 : Tryz.prog.cellsOf 88 = 1 := by kernel_rfl
theorem cells_rint : Tryz.prog.cellsOf 25 = 2 := by kernel_rfl
theorem cells_rat : Tryz.prog.cellsOf 27 = 4 := by kernel_rfl
theorem cells_bool : Tryz.prog.cellsOf 4 = 1 := by kernel_rfl
theorem cells_mag : Tryz.prog.cellsOf 23 = 1 := by kernel_rfl

def RV.Raw (w : World) (a : RV) : Prop := ∃ xs ys, DigS w (.slice a.p a.l a.c) xs ∧ DigS w (.slice a.p2 a.l2 a.c2) ys
theorem RV.Raw.val {w : World} {a : RV} (h : a.Raw w) : ∃ q : Rat, ∀ L, a.l ≤ L → a.l2 ≤ L → a.In L w q := by
  obtain ⟨xs, ys, h1, h2⟩ := h
  have e1 : a.l = xs.length := by obtain ⟨p, c, e, _⟩ := h1; injection e
  have e2 : a.l2 = ys.length := by obtain ⟨p, c, e, _⟩ := h2; injection e
  refine ⟨Rat.divInt (sg a.n (Nm.val xs)) (sg a.m (Nm.val ys)), fun L k1 k2 => ?_⟩
  exact ⟨_, _, ⟨_, ⟨xs, h1, rfl, by omega⟩, rfl⟩, ⟨_, ⟨ys, h2, rfl, by omega⟩, rfl⟩, rfl⟩

section
variable {H : Type} {enc : TypeId × Value → H} {w : World} {base : Nat} {held : Bool}

theorem mag_open {fuel : Nat} {cs : List Value} {x : DataW H × List MemPlace} (h : DataW.trod enc Tryz.prog w base (fun _ => true) held fuel 23 cs = some x) :
    ∃ p l c xs, cs = [.slice p l c] ∧ DigS w (.slice p l c) xs := by
  rcases open_ints Tryz.underlying23 Tryz.underlying88 cells_u32 h with ⟨rfl, _⟩ | ⟨a, len, cap, zs, rfl, _, hl, hm, hz, _, hc, hw⟩
  · exact ⟨none, 0, 0, [], rfl, none, 0, rfl, Nat.le_refl _, (by intro x hx; simp at hx), fun h0 => absurd h0 (by simp)⟩
  · simp only [if_true] at hz
    refine ⟨some a, len, cap, (zs.take len).map Int.toNat, rfl, some a, cap, by simp [hz]; omega, by simp [hz]; omega, ?_, fun h0 => ?_⟩
    · intro d hd
      obtain ⟨z, hz1, rfl⟩ := List.mem_map.1 hd
      have := bounds_u32 (hw z (List.mem_of_mem_take hz1))
      show z.toNat < 4294967296
      omega
    · have hlen : ((zs.take len).map Int.toNat).length = len := by simp [hz]; omega
      rw [hlen] at h0 ⊢
      have hs : a.spot = none := by
        have h1 := hc 0 (by omega)
        unfold World.cell? at h1
        cases hsp : a.spot with
        | none => rfl
        | some s =>
          exfalso
          have e : (a.add 0).spot = some s := by simp [Addr.add, hsp]
          rw [e] at h1
          revert h1
          split <;> simp
      obtain ⟨b, o, sp⟩ := a
      obtain rfl : sp = none := hs
      refine ⟨b, o, rfl, fun i hi => ?_⟩
      have h1 := hc i (by omega)
      have e : (⟨b, o, none⟩ : Addr).add i = ⟨b, o + i, none⟩ := by unfold Addr.add; split <;> simp_all
      rw [e] at h1
      rw [h1]
      have hi2 : i < zs.length := by omega
      have h2 := bounds_u32 (hw (zs.getD i 0) (by rw [List.getD_eq_getElem?_getD, List.getElem?_eq_getElem hi2]; exact List.getElem_mem hi2))
      have h3 : (List.map Int.toNat (List.take len zs)).getD i 0 = (zs.getD i 0).toNat := by
        simp [List.getD, hi, List.getElem?_eq_getElem hi2]
      rw [h3]
      congr 2
      omega

theorem rint_open {fuel : Nat} {cs : List Value} {x : DataW H × List MemPlace} (h : DataW.trod enc Tryz.prog w base (fun _ => true) held fuel 25 cs = some x) :
    ∃ n p l c xs, cs = [.bool n, .slice p l c] ∧ DigS w (.slice p l c) xs := by
  obtain ⟨y0, y1, n, _, hl, h0, h1⟩ := trod_struct2 Tryz.underlying25 h
  rw [cells_rint] at hl
  rw [cells_bool] at h0
  obtain ⟨b, e0, _⟩ := DataW.trod_bool Tryz.underlying4 h0
  rw [cells_mag] at h1
  obtain ⟨p, l, c, xs, e1, hd⟩ := mag_open h1
  match cs, hl with
  | [u, v], _ =>
    simp at e0 e1
    exact ⟨b, p, l, c, xs, by rw [e0, e1], hd⟩

theorem rat_open {fuel : Nat} {cs : List Value} {x : DataW H × List MemPlace} (h : DataW.trod enc Tryz.prog w base (fun _ => true) held fuel 27 cs = some x) :
    ∃ a : RV, cs = [.bool a.n, .slice a.p a.l a.c, .bool a.m, .slice a.p2 a.l2 a.c2] ∧ a.Raw w := by
  obtain ⟨y0, y1, n, _, hl, h0, h1⟩ := trod_struct2 Tryz.underlying27 h
  rw [cells_rat] at hl
  rw [cells_rint] at h0 h1
  obtain ⟨n, p, l, c, xs, e0, d0⟩ := rint_open h0
  obtain ⟨m, p2, l2, c2, ys, e1, d1⟩ := rint_open h1
  match cs, hl with
  | [u, v, u', v'], _ =>
    simp at e0 e1
    exact ⟨⟨n, p, l, c, m, p2, l2, c2⟩, by simp [e0, e1], xs, ys, d0, d1⟩
end
end Go.Proofs.YtmgibncehlpfkaaGreat

namespace Go.Proofs.YtmgibncehlpfkaaGreat
open Go.RowKit
attribute [local go_sem ↓] Go.wp_at_zero Go.wp_at_succ run_max_ii run_min_ii

end Go.Proofs.YtmgibncehlpfkaaGreat

namespace Go.Proofs.YtmgibncehlpfkaaGreat
open Go.RowKit

section
variable {P : Program} {l : List Oper} {Q : Exit → Act → World → Prop} {md : Region.Mode} {S : World → Prop}

theorem wpAnyH_take_l {i : Nat} {oi : Oper} {v : Value} {fuel : Nat} {listed : Array Bool} {a : Act} {w : World} (hi : l[i]? = some oi)
    (hs : Region.noSelect l.toArray = true) (hf : Region.free md l.toArray listed i = true) (hr : (Region.ready md l.toArray listed).contains i = true)
    (hQ : ∀ c a w, Q (.panic c) (a.put oi.dst v) w → Q (.panic c) a w) (hy : YieldsIf P l.toArray S oi v a) (hS : S w)
    (h : wpAnyH P md l.toArray Q S fuel (listed.setIfInBounds i true) (a.put oi.dst v) w) : wpAnyH P md l.toArray Q S (fuel + 1) listed a w :=
  wpAnyH_take (by rw [List.getElem?_toArray]; exact hi) hs hf hr hQ hy hS h

theorem wpAnyH_skip_l {i : Nat} {oi : Oper} {fuel : Nat} {listed : Array Bool} {a : Act} {w : World} (hi : l[i]? = some oi)
    (hs : Region.noSelect l.toArray = true) (hf : Region.free md l.toArray listed i = true) (hr : (Region.ready md l.toArray listed).contains i = true)
    (hQ : ∀ c a w, Q (.panic c) (a.put oi.dst undef) w → Q (.panic c) a w) (hn : Region.wanted oi (yielded l.toArray a.tmps) = false) (hS : S w)
    (h : wpAnyH P md l.toArray Q S fuel (listed.setIfInBounds i true) (a.put oi.dst undef) w) : wpAnyH P md l.toArray Q S (fuel + 1) listed a w :=
  wpAnyH_take (by rw [List.getElem?_toArray]; exact hi) hs hf hr hQ (Or.inr ⟨hn, rfl⟩) hS h

theorem wpAnyH_one_l {i : Nat} {oi : Oper} {fuel : Nat} {listed : Array Bool} {a : Act} {w : World} (hi : l[i]? = some oi)
    (hr : Region.ready md l.toArray listed = [i])
    (h : ∀ K' : Act → World → Prop, Shut (∀ a w, S w → (S w → wpAnyH P md l.toArray Q S fuel (listed.setIfInBounds i true) a w) → K' a w) → if Region.wanted oi (yielded l.toArray a.tmps) = true then Oper.wp P oi a w K' Q else K' (a.put oi.dst undef) w) :
    wpAnyH P md l.toArray Q S (fuel + 1) listed a w :=
  wpAnyH_ready hr (by simp) (AllReadyH.cons (by rw [List.getElem?_toArray]; exact hi) h AllReadyH.nil)
end
end Go.Proofs.YtmgibncehlpfkaaGreat

namespace Go.Proofs.YtmgibncehlpfkaaGreat
open Go.RowKit

def both (p : Bool → Bool) : Bool := p false && p true
theorem both_spec {p : Bool → Bool} (h : both p = true) (b : Bool) : p b = true := by
  unfold both at h
  rw [Bool.and_eq_true] at h
  cases b
  · exact h.1
  · exact h.2

theorem set_chain4_1 {α : Type} (xs : Array α) (i1 i2 i3 i4 : Nat) (b1 b2 b3 b4 c : α) (h2 : i2 ≠ i1) (h3 : i3 ≠ i1) (h4 : i4 ≠ i1) : (((((xs.setIfInBounds i1 b1).setIfInBounds i2 b2).setIfInBounds i3 b3).setIfInBounds i4 b4).setIfInBounds i1 c) = ((((xs.setIfInBounds i1 c).setIfInBounds i2 b2).setIfInBounds i3 b3).setIfInBounds i4 b4) := by
  rw [Array.setIfInBounds_comm _ _ h4, Array.setIfInBounds_comm _ _ h3, Array.setIfInBounds_comm _ _ h2, Array.setIfInBounds_setIfInBounds]
theorem set_chain4_2 {α : Type} (xs : Array α) (i1 i2 i3 i4 : Nat) (b1 b2 b3 b4 c : α) (h3 : i3 ≠ i2) (h4 : i4 ≠ i2) : (((((xs.setIfInBounds i1 b1).setIfInBounds i2 b2).setIfInBounds i3 b3).setIfInBounds i4 b4).setIfInBounds i2 c) = ((((xs.setIfInBounds i1 b1).setIfInBounds i2 c).setIfInBounds i3 b3).setIfInBounds i4 b4) := by
  rw [Array.setIfInBounds_comm _ _ h4, Array.setIfInBounds_comm _ _ h3, Array.setIfInBounds_setIfInBounds]
theorem set_chain4_3 {α : Type} (xs : Array α) (i1 i2 i3 i4 : Nat) (b1 b2 b3 b4 c : α) (h4 : i4 ≠ i3) : (((((xs.setIfInBounds i1 b1).setIfInBounds i2 b2).setIfInBounds i3 b3).setIfInBounds i4 b4).setIfInBounds i3 c) = ((((xs.setIfInBounds i1 b1).setIfInBounds i2 b2).setIfInBounds i3 c).setIfInBounds i4 b4) := by
  rw [Array.setIfInBounds_comm _ _ h4, Array.setIfInBounds_setIfInBounds]
theorem set_chain4_4 {α : Type} (xs : Array α) (i1 i2 i3 i4 : Nat) (b1 b2 b3 b4 c : α)  : (((((xs.setIfInBounds i1 b1).setIfInBounds i2 b2).setIfInBounds i3 b3).setIfInBounds i4 b4).setIfInBounds i4 c) = ((((xs.setIfInBounds i1 b1).setIfInBounds i2 b2).setIfInBounds i3 b3).setIfInBounds i4 c) := by
  rw [Array.setIfInBounds_setIfInBounds]
def chk2 (md : Region.Mode) (l : List Oper) (listed : Array Bool) (i1 i2 i3 i4 : Nat) : Bool :=
  both fun b1 => both fun b2 => both fun b3 => both fun b4 => (b1 && b2 && b3 && b4) || !((!b2 || b1)) || (((Region.ready md l.toArray ((((listed.setIfInBounds i1 b1).setIfInBounds i2 b2).setIfInBounds i3 b3).setIfInBounds i4 b4)).all fun i => (i == i1 && !b1) || (i == i2 && !b2 && b1) || (i == i3 && !b3) || (i == i4 && !b4)) && !(Region.ready md l.toArray ((((listed.setIfInBounds i1 b1).setIfInBounds i2 b2).setIfInBounds i3 b3).setIfInBounds i4 b4)).isEmpty)
theorem cons2_1 (b1 b2 : Bool) (h : ((!b2 || b1)) = true) (h1 : b1 = false) : ((!b2 || true)) = true := by
  revert h h1
  cases b1 <;> cases b2 <;> simp
theorem cons2_2 (b1 b2 : Bool) (h : ((!b2 || b1)) = true) (h1 : b2 = false) (h2 : b1 = true) : ((!true || b1)) = true := by
  revert h h1 h2
  cases b1 <;> cases b2 <;> simp
theorem tuple2 {P : Program} {md : Region.Mode} {l : List Oper} {Q : Exit → Act → World → Prop} {S : World → Prop} {f : Nat} {listed : Array Bool} {a : Act} {w0 : World} (i1 i2 i3 i4 d1 d2 d3 d4 : Nat) {o1 o2 o3 o4 : Oper} (T : TypeId) (zs : Array Value) (Φ1 Φ2 : Value → World → Prop)
    (hi1 : l[i1]? = some o1)
    (hi2 : l[i2]? = some o2)
    (hi3 : l[i3]? = some o3)
    (hi4 : l[i4]? = some o4)
    (hni : [i1, i2, i3, i4].Nodup) (hnd : [d1, d2, d3, d4].Nodup)
    (hchk : chk2 md l listed i1 i2 i3 i4 = true)
    (hS : ∀ w, Ext w0 w → S w)
    (hΦ1 : ∀ v w w', Φ1 v w → Ext w w' → Φ1 v w')
    (hΦ2 : ∀ v w w', Φ2 v w → Ext w w' → Φ2 v w')
    (hc1 : ∀ (v1 v2 v3 v4 : Value) (w : World) (K : Act → World → Prop), Ext w0 w → S w → Shut (∀ v w', Φ1 v w' → Ext w w' → K (({ a with tmps := ((((a.tmps.setIfInBounds d1 v1).setIfInBounds d2 v2).setIfInBounds d3 v3).setIfInBounds d4 v4) } : Act).put (some d1) v) w') → if Region.wanted o1 (yielded l.toArray ({ a with tmps := ((((a.tmps.setIfInBounds d1 v1).setIfInBounds d2 v2).setIfInBounds d3 v3).setIfInBounds d4 v4) } : Act).tmps) = true then Oper.wp P o1 ({ a with tmps := ((((a.tmps.setIfInBounds d1 v1).setIfInBounds d2 v2).setIfInBounds d3 v3).setIfInBounds d4 v4) } : Act) w K Q else K (({ a with tmps := ((((a.tmps.setIfInBounds d1 v1).setIfInBounds d2 v2).setIfInBounds d3 v3).setIfInBounds d4 v4) } : Act).put o1.dst undef) w)
    (hc2 : ∀ (v1 v2 v3 v4 : Value) (w : World) (K : Act → World → Prop), Ext w0 w → S w → Shut (∀ v w', Φ2 v w' → Ext w w' → K (({ a with tmps := ((((a.tmps.setIfInBounds d1 v1).setIfInBounds d2 v2).setIfInBounds d3 v3).setIfInBounds d4 v4) } : Act).put (some d2) v) w') → if Region.wanted o2 (yielded l.toArray ({ a with tmps := ((((a.tmps.setIfInBounds d1 v1).setIfInBounds d2 v2).setIfInBounds d3 v3).setIfInBounds d4 v4) } : Act).tmps) = true then Oper.wp P o2 ({ a with tmps := ((((a.tmps.setIfInBounds d1 v1).setIfInBounds d2 v2).setIfInBounds d3 v3).setIfInBounds d4 v4) } : Act) w K Q else K (({ a with tmps := ((((a.tmps.setIfInBounds d1 v1).setIfInBounds d2 v2).setIfInBounds d3 v3).setIfInBounds d4 v4) } : Act).put o2.dst undef) w)
    (hc3 : ∀ (v1 v2 v3 v4 : Value) (w : World) (K : Act → World → Prop), Ext w0 w → S w → Shut (K (({ a with tmps := ((((a.tmps.setIfInBounds d1 v1).setIfInBounds d2 v2).setIfInBounds d3 v3).setIfInBounds d4 v4) } : Act).put (some d3) (.pointer (some ⟨w.heap.size, 0, none⟩))) (w.alloc (.cells zs T))) → if Region.wanted o3 (yielded l.toArray ({ a with tmps := ((((a.tmps.setIfInBounds d1 v1).setIfInBounds d2 v2).setIfInBounds d3 v3).setIfInBounds d4 v4) } : Act).tmps) = true then Oper.wp P o3 ({ a with tmps := ((((a.tmps.setIfInBounds d1 v1).setIfInBounds d2 v2).setIfInBounds d3 v3).setIfInBounds d4 v4) } : Act) w K Q else K (({ a with tmps := ((((a.tmps.setIfInBounds d1 v1).setIfInBounds d2 v2).setIfInBounds d3 v3).setIfInBounds d4 v4) } : Act).put o3.dst undef) w)
    (hc4 : ∀ (v1 v2 v3 v4 : Value) (w : World) (K : Act → World → Prop), Ext w0 w → S w → Shut (K (({ a with tmps := ((((a.tmps.setIfInBounds d1 v1).setIfInBounds d2 v2).setIfInBounds d3 v3).setIfInBounds d4 v4) } : Act).put (some d4) (.pointer (some ⟨w.heap.size, 0, none⟩))) (w.alloc (.cells zs T))) → if Region.wanted o4 (yielded l.toArray ({ a with tmps := ((((a.tmps.setIfInBounds d1 v1).setIfInBounds d2 v2).setIfInBounds d3 v3).setIfInBounds d4 v4) } : Act).tmps) = true then Oper.wp P o4 ({ a with tmps := ((((a.tmps.setIfInBounds d1 v1).setIfInBounds d2 v2).setIfInBounds d3 v3).setIfInBounds d4 v4) } : Act) w K Q else K (({ a with tmps := ((((a.tmps.setIfInBounds d1 v1).setIfInBounds d2 v2).setIfInBounds d3 v3).setIfInBounds d4 v4) } : Act).put o4.dst undef) w)
    (hend : ∀ (v1 v2 : Value) (X1 X2 : Nat) (w : World), Ext w0 w → S w → Φ1 v1 w → Φ2 v2 w → Blk w X1 T zs → Blk w X2 T zs → w0.heap.size ≤ X1 → w0.heap.size ≤ X2 → X1 ≠ X2 → wpAnyH P md l.toArray Q S f ((((listed.setIfInBounds i1 true).setIfInBounds i2 true).setIfInBounds i3 true).setIfInBounds i4 true) ({ a with tmps := ((((a.tmps.setIfInBounds d1 v1).setIfInBounds d2 v2).setIfInBounds d3 (.pointer (some ⟨X1, 0, none⟩))).setIfInBounds d4 (.pointer (some ⟨X2, 0, none⟩))) } : Act) w)
    (u1 u2 u3 u4 : Value)
    (hl : listed = ((((listed.setIfInBounds i1 false).setIfInBounds i2 false).setIfInBounds i3 false).setIfInBounds i4 false)) (ha : a = ({ a with tmps := ((((a.tmps.setIfInBounds d1 u1).setIfInBounds d2 u2).setIfInBounds d3 u3).setIfInBounds d4 u4) } : Act))
    : wpAnyH P md l.toArray Q S (f + 4) listed a w0 := by
  have e2_1 : i2 ≠ i1 := by intro h; simp [h] at hni
  have g2_1 : d2 ≠ d1 := by intro h; simp [h] at hnd
  have e3_1 : i3 ≠ i1 := by intro h; simp [h] at hni
  have g3_1 : d3 ≠ d1 := by intro h; simp [h] at hnd
  have e3_2 : i3 ≠ i2 := by intro h; simp [h] at hni
  have g3_2 : d3 ≠ d2 := by intro h; simp [h] at hnd
  have e4_1 : i4 ≠ i1 := by intro h; simp [h] at hni
  have g4_1 : d4 ≠ d1 := by intro h; simp [h] at hnd
  have e4_2 : i4 ≠ i2 := by intro h; simp [h] at hni
  have g4_2 : d4 ≠ d2 := by intro h; simp [h] at hnd
  have e4_3 : i4 ≠ i3 := by intro h; simp [h] at hni
  have g4_3 : d4 ≠ d3 := by intro h; simp [h] at hnd
  clear hni hnd
  have hall : ∀ b1 b2 b3 b4 : Bool, (b1 && b2 && b3 && b4) = false → ((!b2 || b1)) = true → (∀ i ∈ Region.ready md l.toArray ((((listed.setIfInBounds i1 b1).setIfInBounds i2 b2).setIfInBounds i3 b3).setIfInBounds i4 b4), (i = i1 ∧ b1 = false) ∨ (i = i2 ∧ b2 = false ∧ b1 = true) ∨ (i = i3 ∧ b3 = false) ∨ (i = i4 ∧ b4 = false)) ∧ Region.ready md l.toArray ((((listed.setIfInBounds i1 b1).setIfInBounds i2 b2).setIfInBounds i3 b3).setIfInBounds i4 b4) ≠ [] := by
    intro b1 b2 b3 b4 h0 h0c
    have h1 := (both_spec (both_spec (both_spec (both_spec hchk b1) b2) b3) b4)
    rw [h0, h0c, Bool.not_true, Bool.false_or, Bool.false_or, Bool.and_eq_true] at h1
    refine ⟨fun i hi => ?_, fun h2 => ?_⟩
    · have h3 := List.all_eq_true.1 h1.1 i hi
      simpa [or_assoc, and_assoc] using h3
    · have h3 := h1.2
      rw [h2] at h3
      cases h3
  clear hchk
  have H : ∀ (m : Nat) (b1 b2 b3 b4 : Bool) (v1 v2 v3 v4 : Value) (w : World), (!b1).toNat + (!b2).toNat + (!b3).toNat + (!b4).toNat = m → ((!b2 || b1)) = true → Ext w0 w → (b1 = true → Φ1 v1 w) → (b2 = true → Φ2 v2 w) → (b3 = true → ∃ X, v3 = .pointer (some ⟨X, 0, none⟩) ∧ Blk w X T zs ∧ w0.heap.size ≤ X) → (b4 = true → ∃ X, v4 = .pointer (some ⟨X, 0, none⟩) ∧ Blk w X T zs ∧ w0.heap.size ≤ X) → (b3 = true → b4 = true → v3 ≠ v4) → wpAnyH P md l.toArray Q S (f + m) ((((listed.setIfInBounds i1 b1).setIfInBounds i2 b2).setIfInBounds i3 b3).setIfInBounds i4 b4) ({ a with tmps := ((((a.tmps.setIfInBounds d1 v1).setIfInBounds d2 v2).setIfInBounds d3 v3).setIfInBounds d4 v4) } : Act) w := by
    intro m
    induction m with
    | zero =>
      intro b1 b2 b3 b4 v1 v2 v3 v4 w hm hcons hx F1 F2 F3 F4 D3_4
      obtain rfl : b1 = true := by cases b1 <;> simp at hm ⊢
      obtain rfl : b2 = true := by cases b2 <;> simp at hm ⊢
      obtain rfl : b3 = true := by cases b3 <;> simp at hm ⊢
      obtain rfl : b4 = true := by cases b4 <;> simp at hm ⊢
      obtain ⟨X1, rfl, B3, z3⟩ := F3 rfl
      obtain ⟨X2, rfl, B4, z4⟩ := F4 rfl
      exact hend _ _ _ _ w hx (hS _ hx) (F1 rfl) (F2 rfl) B3 B4 z3 z4 (fun h => D3_4 rfl rfl (by rw [h]))
    | succ m ih =>
      intro b1 b2 b3 b4 v1 v2 v3 v4 w hm hcons hx F1 F2 F3 F4 D3_4
      have hnot : (b1 && b2 && b3 && b4) = false := by
        cases hb : (b1 && b2 && b3 && b4)
        · rfl
        · exfalso; simp only [Bool.and_eq_true] at hb; simp [hb] at hm
      obtain ⟨hr, hne⟩ := hall b1 b2 b3 b4 hnot hcons
      refine ⟨fun h0 => absurd h0 hne, fun i hi => ?_⟩
      rcases hr i hi with ⟨hik, rfl⟩ | ⟨hik, rfl, rfl⟩ | ⟨hik, rfl⟩ | ⟨hik, rfl⟩
      · rw [hik]
        refine wpOp_step (by rw [List.getElem?_toArray]; exact hi1) (fun K' hK => hc1 v1 v2 v3 v4 w K' hx (hS _ hx) ?_)
        refine fun v w' hv he => hK _ _ ⟨hS _ (hx.trans he), ?_⟩
        rw [show ∀ (u : Value), ({ a with tmps := ((((a.tmps.setIfInBounds d1 v1).setIfInBounds d2 v2).setIfInBounds d3 v3).setIfInBounds d4 v4) } : Act).put (some d1) u = ({ a with tmps := ((((a.tmps.setIfInBounds d1 u).setIfInBounds d2 v2).setIfInBounds d3 v3).setIfInBounds d4 v4) } : Act) from fun u => by show ({ a with tmps := _ } : Act) = _; rw [set_chain4_1 _ d1 d2 d3 d4 _ _ _ _ _ g2_1 g3_1 g4_1]]
        rw [set_chain4_1 _ i1 i2 i3 i4 _ _ _ _ _ e2_1 e3_1 e4_1]
        exact ih true b2 b3 b4 v v2 v3 v4 _ (by simp at hm ⊢; omega) (cons2_1 _ _ hcons rfl) (hx.trans he) (fun _ => hv) (fun h => hΦ2 _ _ _ (F2 h) he) (fun h => by obtain ⟨X, q1, q2, q3⟩ := F3 h; exact ⟨X, q1, q2.ext he, q3⟩) (fun h => by obtain ⟨X, q1, q2, q3⟩ := F4 h; exact ⟨X, q1, q2.ext he, q3⟩) (D3_4)
      · rw [hik]
        refine wpOp_step (by rw [List.getElem?_toArray]; exact hi2) (fun K' hK => hc2 v1 v2 v3 v4 w K' hx (hS _ hx) ?_)
        refine fun v w' hv he => hK _ _ ⟨hS _ (hx.trans he), ?_⟩
        rw [show ∀ (u : Value), ({ a with tmps := ((((a.tmps.setIfInBounds d1 v1).setIfInBounds d2 v2).setIfInBounds d3 v3).setIfInBounds d4 v4) } : Act).put (some d2) u = ({ a with tmps := ((((a.tmps.setIfInBounds d1 v1).setIfInBounds d2 u).setIfInBounds d3 v3).setIfInBounds d4 v4) } : Act) from fun u => by show ({ a with tmps := _ } : Act) = _; rw [set_chain4_2 _ d1 d2 d3 d4 _ _ _ _ _ g3_2 g4_2]]
        rw [set_chain4_2 _ i1 i2 i3 i4 _ _ _ _ _ e3_2 e4_2]
        exact ih true true b3 b4 v1 v v3 v4 _ (by simp at hm ⊢; omega) (cons2_2 _ _ hcons rfl rfl) (hx.trans he) (fun h => hΦ1 _ _ _ (F1 h) he) (fun _ => hv) (fun h => by obtain ⟨X, q1, q2, q3⟩ := F3 h; exact ⟨X, q1, q2.ext he, q3⟩) (fun h => by obtain ⟨X, q1, q2, q3⟩ := F4 h; exact ⟨X, q1, q2.ext he, q3⟩) (D3_4)
      · rw [hik]
        refine wpOp_step (by rw [List.getElem?_toArray]; exact hi3) (fun K' hK => hc3 v1 v2 v3 v4 w K' hx (hS _ hx) ?_)
        refine hK _ _ ⟨hS _ (hx.alloc _), ?_⟩
        rw [show ∀ (u : Value), ({ a with tmps := ((((a.tmps.setIfInBounds d1 v1).setIfInBounds d2 v2).setIfInBounds d3 v3).setIfInBounds d4 v4) } : Act).put (some d3) u = ({ a with tmps := ((((a.tmps.setIfInBounds d1 v1).setIfInBounds d2 v2).setIfInBounds d3 u).setIfInBounds d4 v4) } : Act) from fun u => by show ({ a with tmps := _ } : Act) = _; rw [set_chain4_3 _ d1 d2 d3 d4 _ _ _ _ _ g4_3]]
        rw [set_chain4_3 _ i1 i2 i3 i4 _ _ _ _ _ e4_3]
        exact ih b1 b2 true b4 v1 v2 _ v4 _ (by simp at hm ⊢; omega) hcons (hx.alloc _) (fun h => hΦ1 _ _ _ (F1 h) ((Ext.refl w).alloc (.cells zs T))) (fun h => hΦ2 _ _ _ (F2 h) ((Ext.refl w).alloc (.cells zs T))) (fun _ => ⟨w.heap.size, rfl, Blk.new w _ _, hx.size⟩) (fun h => by obtain ⟨X, q1, q2, q3⟩ := F4 h; exact ⟨X, q1, q2.ext ((Ext.refl w).alloc (.cells zs T)), q3⟩) (fun _ h2 => by obtain ⟨X, q1, q2, q3⟩ := F4 h2; have hlt := Blk.lt q2; rw [q1]; intro hh; simp at hh <;> omega)
      · rw [hik]
        refine wpOp_step (by rw [List.getElem?_toArray]; exact hi4) (fun K' hK => hc4 v1 v2 v3 v4 w K' hx (hS _ hx) ?_)
        refine hK _ _ ⟨hS _ (hx.alloc _), ?_⟩
        rw [show ∀ (u : Value), ({ a with tmps := ((((a.tmps.setIfInBounds d1 v1).setIfInBounds d2 v2).setIfInBounds d3 v3).setIfInBounds d4 v4) } : Act).put (some d4) u = ({ a with tmps := ((((a.tmps.setIfInBounds d1 v1).setIfInBounds d2 v2).setIfInBounds d3 v3).setIfInBounds d4 u) } : Act) from fun u => by show ({ a with tmps := _ } : Act) = _; rw [set_chain4_4 _ d1 d2 d3 d4 _ _ _ _ _ ]]
        rw [set_chain4_4 _ i1 i2 i3 i4 _ _ _ _ _ ]
        exact ih b1 b2 b3 true v1 v2 v3 _ _ (by simp at hm ⊢; omega) hcons (hx.alloc _) (fun h => hΦ1 _ _ _ (F1 h) ((Ext.refl w).alloc (.cells zs T))) (fun h => hΦ2 _ _ _ (F2 h) ((Ext.refl w).alloc (.cells zs T))) (fun h => by obtain ⟨X, q1, q2, q3⟩ := F3 h; exact ⟨X, q1, q2.ext ((Ext.refl w).alloc (.cells zs T)), q3⟩) (fun _ => ⟨w.heap.size, rfl, Blk.new w _ _, hx.size⟩) (fun h2 _ => by obtain ⟨X, q1, q2, q3⟩ := F3 h2; have hlt := Blk.lt q2; rw [q1]; intro hh; simp at hh <;> omega)
  rw [hl, ha]
  exact H 4 false false false false u1 u2 u3 u4 w0 rfl rfl (Ext.refl _) (fun h => by cases h) (fun h => by cases h) (fun h => by cases h) (fun h => by cases h) (fun h => by cases h)

end Go.Proofs.YtmgibncehlpfkaaGreat

namespace Go.Proofs.YtmgibncehlpfkaaGreat
open Go.RowKit
attribute [local go_sem ↓] Go.wp_at_zero Go.wp_at_succ run_max_ii run_min_ii

def PtV (x y : Rat) (v : Value) (w : World) : Prop := ∃ a b : RV, v = .agg #[.bool a.n, .slice a.p a.l a.c, .bool a.m, .slice a.p2 a.l2 a.c2, .bool b.n, .slice b.p b.l b.c, .bool b.m, .slice b.p2 b.l2 b.c2] ∧ a.Is w x ∧ b.Is w y
theorem PtV.ext {x y : Rat} (v : Value) (w w' : World) (h : PtV x y v w) (e : Ext w w') : PtV x y v w' := by
  obtain ⟨a, b, h1, h2, h3⟩ := h
  exact ⟨a, b, h1, h2.ext e, h3.ext e⟩
theorem RetP.v {x y : Rat} {w w' : World} {e : Ending} (h : RetP x y w e w') : ∃ v, e = .returned v ∧ PtV x y v w' ∧ Ext w w' := by
  obtain ⟨a, b, rfl, h1, h2, h3⟩ := h
  exact ⟨_, rfl, ⟨a, b, rfl, h1, h2⟩, h3⟩

end Go.Proofs.YtmgibncehlpfkaaGreat

namespace Go.Proofs.YtmgibncehlpfkaaGreat
open Go.RowKit

theorem heap_setCells (g : Nat) : ∀ (vs : List Value) (o : Nat) (w : World) (t : TypeId) (cs : List Value), w.heap[g]? = some (.cells cs.toArray t (0, 0)) → o + vs.length ≤ cs.length →
    (w.setCells g o vs).heap[g]? = some (.cells (cs.take o ++ vs ++ cs.drop (o + vs.length)).toArray t (0, 0))
  | [], o, w, t, cs, h, _ => by simpa [World.setCells] using h
  | v :: r, o, w, t, cs, h, hl => by
    rw [World.setCells]
    have h2 : (w.setCell ⟨g, o, none⟩ v).heap[g]? = some (.cells (cs.set o v).toArray t (0, 0)) := by
      have h3 := Blk.set_ (w := w) (g := g) (t := t) (cs := cs.toArray) h o v
      simpa [Blk] using h3
    rw [heap_setCells g r (o + 1) _ t (cs.set o v) h2 (by simp at hl ⊢; omega)]
    congr 3
    have hlt : o < cs.length := by simp at hl; omega
    apply List.ext_getElem?
    intro i
    simp only [List.length_cons, List.append_assoc, List.getElem?_append, List.length_take, List.length_set, List.getElem?_take, List.getElem?_set, List.getElem?_drop]
    have e : o + 1 + r.length = o + (r.length + 1) := by omega
    have m : min o cs.length = o := by omega
    have m1 : min (o + 1) cs.length = o + 1 := by omega
    rw [m, m1]
    by_cases h1 : i < o
    · rw [if_pos (by omega), if_pos (by omega), if_pos h1, if_pos h1, if_neg (by omega)]
    · by_cases h2 : i = o
      · subst h2
        simp [hlt]
      · rw [if_neg (by omega), if_neg h1]
        obtain ⟨k, rfl⟩ : ∃ k, i = o + 1 + k := ⟨i - (o + 1), by omega⟩
        have q1 : o + 1 + k - (o + 1) = k := by omega
        have q2 : o + 1 + k - o = k + 1 := by omega
        rw [q1, q2]
        by_cases h3 : k < r.length
        · rw [if_pos h3, if_pos (by first | omega | (simp; omega))]; simp
        · rw [if_neg h3, if_neg (by first | omega | (simp; omega)), if_neg (by omega)]
          congr 1
          first | omega | (simp; omega)

theorem Blk.setCells {w : World} {g : Nat} {t : TypeId} {cs : Array Value} (h : Blk w g t cs) (vs : Array Value) (hl : vs.size = cs.size) : Blk (w.setCells g 0 vs.toList) g t vs := by
  have h2 := heap_setCells g vs.toList 0 w t cs.toList (by simpa [Blk] using h) (by simp [hl])
  unfold Blk
  rw [h2, List.drop_of_length_le (by simp [hl])]
  simp

theorem Own.setCells_l {g : Nat} : ∀ (vs : List Value) (o : Nat) {a w : World}, Own g a w → Own g a (w.setCells g o vs)
  | [], _, _, _, h => h
  | v :: r, o, _, _, h => by rw [World.setCells]; exact Own.setCells_l r (o + 1) (h.set_at o none v)
theorem Own.setCells (w : World) (g : Nat) (vs : Array Value) : Own g w (w.setCells g 0 vs.toList) := Own.setCells_l _ _ (Own.refl g w)

theorem Blk.range {w : World} {g : Nat} {t : TypeId} {cs : Array Value} (h : Blk w g t cs) : w.rangeAt g 0 cs.toList := fun j v hv => by
  rw [Nat.zero_add, h.cell j]
  simpa using hv
theorem Blk.thereN {w : World} {g : Nat} {t : TypeId} {cs : Array Value} (h : Blk w g t cs) : w.there g 0 cs.size := fun j hj => by
  rw [Nat.zero_add, h.cell j, h.frozen j]
  simp [hj]

theorem Blk.loadVar {P : Program} {w : World} {g : Nat} {t ty : TypeId} {cs : Array Value} {d : TypeDesc} (h : Blk w g t cs) (hu : P.underlying ty = some d) (hd : d.isRow = true) (hi : (P.info? ty).map (·.size) = some cs.size) :
    (Go.loadVar ty ⟨g, 0, none⟩).run P w = .ok (.agg cs) w := by
  have h2 := run_loadVar_mid (P := P) w g 0 ty cs.toList d h.range hu hd (by simpa using hi)
  simpa using h2

theorem wp_store_blk {P : Program} {op : Oper} {a : Act} {w : World} {K : Act → World → Prop} {Q : Exit → Act → World → Prop} (ty : TypeId) (x y : Operand) (ho : op.op = .store ty x y)
    (g : Nat) (t : TypeId) (cs0 cs : Array Value) (hx : a.eval x = .pointer (some ⟨g, 0, none⟩)) (hy : a.eval y = .agg cs) (hb : Blk w g t cs0) (hl : cs.size = cs0.size)
    (hi : (P.info? ty).map (·.size) = some cs.size) (h1 : cs.all (·.oneCell') = true)
    (h : K (a.put op.dst undef) (w.setCells g 0 cs.toList)) : op.wp P a w K Q :=
  wp_store_mid ty x y ho g 0 cs hx hy (by rw [hl]; exact hb.thereN) hi h1 h

theorem wpAnyH_store_l {P : Program} {l : List Oper} {Q : Exit → Act → World → Prop} {md : Region.Mode} {S : World → Prop} {i : Nat} {oi : Oper} {fuel : Nat} {listed : Array Bool} {a : Act} {w : World} (hi : l[i]? = some oi)
    (hr : Region.ready md l.toArray listed = [i]) (hg : oi.guard = none) (ty : TypeId) (x y : Operand) (ho : oi.op = .store ty x y)
    (g : Nat) (t : TypeId) (cs0 cs : Array Value) (hx : a.eval x = .pointer (some ⟨g, 0, none⟩)) (hy : a.eval y = .agg cs) (hb : Blk w g t cs0) (hl : cs.size = cs0.size)
    (hz : (P.info? ty).map (·.size) = some cs.size) (h1 : cs.all (·.oneCell') = true) (hS : S (w.setCells g 0 cs.toList))
    (h : wpAnyH P md l.toArray Q S fuel (listed.setIfInBounds i true) (a.put oi.dst undef) (w.setCells g 0 cs.toList)) : wpAnyH P md l.toArray Q S (fuel + 1) listed a w :=
  wpAnyH_one_l hi hr (fun K hK => by
    rw [if_pos (by simp only [Region.wanted, hg])]
    exact wp_store_blk ty x y ho g t cs0 cs hx hy hb hl hz h1 (hK.out _ _ hS (fun _ => h)))

theorem Own.then_ext' {g : Nat} {a b c : World} (h : Ext a b) (k : Own g b c) : Own g a c :=
  ⟨k.os.trans h.os, k.tape.trans h.tape, k.output.trans h.output, Nat.le_trans h.size k.size, fun i hi hn => (k.block i (Nat.lt_of_lt_of_le hi h.size) hn).trans (h.block i hi)⟩
theorem results_cell1 {P : Program} {fn : Func} {i : Tmp} {t : TypeId} (h : fn.results = #[.cell i t]) {tmps : Array Value} {w : World} {p : Addr} {v : Value}
    (hi : tmps.getD i undef = .pointer (some p)) (h1 : (Go.loadVar t p).run P w = .ok v w) :
    (results fn tmps).run P w = .ok v w := by
  simp only [Array.getD_eq_getD_getElem?] at hi
  simp [results, h, hi, h1, asAddr]
end Go.Proofs.YtmgibncehlpfkaaGreat

namespace Go.Proofs.YtmgibncehlpfkaaGreat
open Go.RowKit
attribute [local go_sem ↓] Go.wp_at_zero Go.wp_at_succ run_max_ii run_min_ii

def Own2 (g h : Nat) (w w' : World) : Prop := ∃ x, Own g w x ∧ Own h x w'
theorem Own2.refl (g h : Nat) (w : World) : Own2 g h w w := ⟨w, Own.refl _ _, Own.refl _ _⟩
theorem Own2.drew {g h : Nat} {a w : World} (k : Own2 g h a w) : Own2 g h a w.drew := by obtain ⟨x, h1, h2⟩ := k; exact ⟨x, h1, h2.drew⟩
theorem Own2.of_ext {g h : Nat} {a b : World} (k : Ext a b) : Own2 g h a b := ⟨b, Own.of_ext k, Own.refl _ _⟩
theorem Own2.one {g h : Nat} {a b : World} (k : Own g a b) : Own2 g h a b := ⟨b, k, Own.refl _ _⟩



set_option maxHeartbeats 1000000 in
theorem sameInt_any (n m : Bool) (u v : Value) (z : Int) (w : World) (hu : IntC w n u z) (hv : IntC w m v z) (hL : Nm.nl z.natAbs ≤ 1000000) :
    Calls Tryz.prog 49 #[.agg #[.bool n, u], .agg #[.bool m, v]] w fun e w' => e = .returned (.bool true) ∧ Ext w w' := by
  obtain ⟨rfl, p, cp, rfl, _, _, h3⟩ := hu
  obtain ⟨rfl, q, cq, rfl, _, _, h4⟩ := hv
  unfold Nm.nl at hL
  generalize Nm.digs z.natAbs = xs at *
  generalize decide (z < 0) = s at *
  have H3 := zH h3
  have H4 := zH h4
  clear h3 h4
  have HG := zH (show ∀ x, Ext ((w.alloc (.cells #[.bool s, .slice p xs.length cp] 25)).alloc (.cells #[.bool s, .slice q xs.length cq] 25)) x →
      x.cell? ⟨w.heap.size, 0, none⟩ = some (.bool s) ∧ x.cell? ⟨w.heap.size, 1, none⟩ = some (.slice p xs.length cp) ∧ x.cell? ⟨w.heap.size + 1, 0, none⟩ = some (.bool s) ∧ x.cell? ⟨w.heap.size + 1, 1, none⟩ = some (.slice q xs.length cq) from fun x h =>
    ⟨h.get (by simp), h.get (by simp), h.get (by simp), h.get (by simp)⟩)
  have HW := zH (show Ext w ((w.alloc (.cells #[.bool s, .slice p xs.length cp] 25)).alloc (.cells #[.bool s, .slice q xs.length cq] 25)) from ((Ext.refl _).alloc _).alloc _)
  have hbb : (s != s) = false := by cases s <;> rfl
  go_enter Tryz.func49, Tryz.ntmps49
  go_wp2_with fail
  generalize ((w.alloc (.cells #[.bool s, .slice p xs.length cp] 25)).alloc (.cells #[.bool s, .slice q xs.length cq] 25)) = wa at *
  go_loopw [5] (fun i wr => ∃ k : Nat, k ≤ xs.length ∧ i = .int .i64 k ∧ Ext wa wr) (fun i _ => xs.length - (intOf i).toNat)
  case atStart => exact ⟨0, Nat.zero_le _, rfl, Ext.refl _⟩
  case round =>
    obtain ⟨k, hk, rfl, he⟩ := hrel
    have gl := HG.out _ he
    have HE := zH he
    clear he
    by_cases hlt : k < xs.length
    · obtain ⟨b, o, rfl, hb⟩ := H3.out (by omega)
      obtain ⟨b2, o2, rfl, hb2⟩ := H4.out (by omega)
      have c0 := (HW.out.trans HE.out).get (hb k hlt)
      have c1 := (HW.out.trans HE.out).get (hb2 k hlt)
      clear hb hb2
      generalize (xs.getD k 0 : Nat) = d at c0 c1
      go_wp2_with fail
      go_quiet (fail)
      go_wp2_with fail
      go_roundw
      case rel => exact ⟨k + 1, hlt, by go_num, HE.out.drewN _⟩
      case measure => simp [intOf]; omega
    · go_wp2_with fail
      go_ret
      exact ⟨rfl, HW.out.trans HE.out⟩

set_option maxHeartbeats 1000000 in
theorem same_any (a b : RV) (q : Rat) (L : Nat) (w : World) (ha : a.Is w q) (hb : b.Is w q) (hq : Nm.rl q ≤ L) (hL : L ≤ 1000000) :
    Calls Tryz.prog 24 #[.agg #[.bool a.n, .slice a.p a.l a.c, .bool a.m, .slice a.p2 a.l2 a.c2], .agg #[.bool b.n, .slice b.p b.l b.c, .bool b.m, .slice b.p2 b.l2 b.c2]] w fun e w' => e = .returned (.bool true) ∧ Ext w w' := by
  have H1 := zH (fun W (x : Ext w W) => sameInt_any a.n b.n _ _ q.num W (ha.1.ext x) (hb.1.ext x) (by have := Nat.le_max_left (Nm.nl q.num.natAbs) (Nm.nl q.den); unfold Nm.rl at hq; omega))
  have H2 := zH (fun W (x : Ext w W) => sameInt_any a.m b.m _ _ (q.den : Int) W (ha.2.ext x) (hb.2.ext x) (by have := Nat.le_max_right (Nm.nl q.num.natAbs) (Nm.nl q.den); unfold Nm.rl at hq; simp only [Int.natAbs_natCast]; omega))
  have HG := zH (show ∀ x, Ext ((w.alloc (.cells #[.bool a.n, .slice a.p a.l a.c, .bool a.m, .slice a.p2 a.l2 a.c2] 27)).alloc (.cells #[.bool b.n, .slice b.p b.l b.c, .bool b.m, .slice b.p2 b.l2 b.c2] 27)) x →
      x.cell? ⟨w.heap.size, 0, none⟩ = some (.bool a.n) ∧ x.cell? ⟨w.heap.size, 1, none⟩ = some (.slice a.p a.l a.c) ∧ x.cell? ⟨w.heap.size, 2, none⟩ = some (.bool a.m) ∧ x.cell? ⟨w.heap.size, 3, none⟩ = some (.slice a.p2 a.l2 a.c2) ∧
      x.cell? ⟨w.heap.size + 1, 0, none⟩ = some (.bool b.n) ∧ x.cell? ⟨w.heap.size + 1, 1, none⟩ = some (.slice b.p b.l b.c) ∧ x.cell? ⟨w.heap.size + 1, 2, none⟩ = some (.bool b.m) ∧ x.cell? ⟨w.heap.size + 1, 3, none⟩ = some (.slice b.p2 b.l2 b.c2) from fun x h =>
    ⟨h.get (by simp), h.get (by simp), h.get (by simp), h.get (by simp), h.get (by simp), h.get (by simp), h.get (by simp), h.get (by simp)⟩)
  have HW := zH (show Ext w ((w.alloc (.cells #[.bool a.n, .slice a.p a.l a.c, .bool a.m, .slice a.p2 a.l2 a.c2] 27)).alloc (.cells #[.bool b.n, .slice b.p b.l b.c, .bool b.m, .slice b.p2 b.l2 b.c2] 27)) from ((Ext.refl _).alloc _).alloc _)
  clear ha hb
  go_enter Tryz.func24, Tryz.ntmps24
  go_wp2_with fail
  generalize ((w.alloc (.cells #[.bool a.n, .slice a.p a.l a.c, .bool a.m, .slice a.p2 a.l2 a.c2] 27)).alloc (.cells #[.bool b.n, .slice b.p b.l b.c, .bool b.m, .slice b.p2 b.l2 b.c2] 27)) = wa at *
  have gl := HG.out _ (Ext.refl _)
  go_wp2_with fail
  refine (H1.out _ HW.out).mono ?_
  rintro e wx ⟨rfl, hx1⟩
  clear gl
  have gl := HG.out _ hx1
  go_wp2_with fail
  refine (H2.out _ (HW.out.trans hx1)).mono ?_
  rintro e wy ⟨rfl, hx2⟩
  go_wp2_with fail
  go_ret
  exact ⟨rfl, HW.out.trans (hx1.trans hx2)⟩

def RV.short (a : RV) : Bool := decide (a.l ≤ 6) && decide (a.l2 ≤ 6)

theorem RetRE.v {q : Rat} {w w' : World} {e : Ending} (h : RetRE q 0 w e w') : ∃ a : RV, e = .returned (.tuple #[.agg #[.bool a.n, .slice a.p a.l a.c, .bool a.m, .slice a.p2 a.l2 a.c2], .int .i64 0]) ∧ a.Is w' q ∧ Ext w w' := by
  obtain ⟨n, u, m, v, rfl, hc, he⟩ := h
  obtain ⟨p, l, c, p2, l2, c2, rfl, rfl⟩ := hc.form
  exact ⟨⟨n, p, l, c, m, p2, l2, c2⟩, rfl, hc, he⟩
end Go.Proofs.YtmgibncehlpfkaaGreat

namespace Go.Proofs.YtmgibncehlpfkaaGreat
open Go.RowKit

def NIn (L : Nat) (w : World) (cs : Array Value) (q : Rat) : Prop := ∃ a : RV, cs = #[.bool a.n, .slice a.p a.l a.c, .bool a.m, .slice a.p2 a.l2 a.c2] ∧ a.In L w q
def NIs (w : World) (cs : Array Value) (q : Rat) : Prop := ∃ a : RV, cs = #[.bool a.n, .slice a.p a.l a.c, .bool a.m, .slice a.p2 a.l2 a.c2] ∧ a.Is w q
theorem NIn.ext {L : Nat} {w w' : World} {cs : Array Value} {q : Rat} (h : NIn L w cs q) (e : Ext w w') : NIn L w' cs q := by obtain ⟨a, h1, h2⟩ := h; exact ⟨a, h1, h2.ext e⟩
theorem NIs.ext {w w' : World} {cs : Array Value} {q : Rat} (h : NIs w cs q) (e : Ext w w') : NIs w' cs q := by obtain ⟨a, h1, h2⟩ := h; exact ⟨a, h1, h2.ext e⟩
theorem NIs.isIn {L : Nat} {w : World} {cs : Array Value} {q : Rat} (h : NIs w cs q) (hl : Nm.rl q ≤ L) : NIn L w cs q := by obtain ⟨a, h1, h2⟩ := h; exact ⟨a, h1, h2.isIn hl⟩
theorem NIn.mono {L M : Nat} {w : World} {cs : Array Value} {q : Rat} (h : NIn L w cs q) (hl : L ≤ M) : NIn M w cs q := by obtain ⟨a, h1, h2⟩ := h; exact ⟨a, h1, h2.mono hl⟩
theorem NIn.rl {L : Nat} {w : World} {cs : Array Value} {q : Rat} (h : NIn L w cs q) (h1 : 1 ≤ L) : Nm.rl q ≤ L := by obtain ⟨a, _, h2⟩ := h; have := h2.rl; omega
theorem NIn.size {L : Nat} {w : World} {cs : Array Value} {q : Rat} (h : NIn L w cs q) : cs.size = 4 := by obtain ⟨a, rfl, _⟩ := h; rfl
theorem NIs.size {w : World} {cs : Array Value} {q : Rat} (h : NIs w cs q) : cs.size = 4 := by obtain ⟨a, rfl, _⟩ := h; rfl
theorem NIs.one {w : World} {cs : Array Value} {q : Rat} (h : NIs w cs q) : cs.all (·.oneCell') = true := by obtain ⟨a, rfl, _⟩ := h; exact all_oneCell_toArray (by simp [Value.oneCell'])

def PtIn (L : Nat) (w : World) (cs : Array Value) (A0 A1 : Rat) : Prop := ∃ a0 a1 : RV, cs = #[.bool a0.n, .slice a0.p a0.l a0.c, .bool a0.m, .slice a0.p2 a0.l2 a0.c2, .bool a1.n, .slice a1.p a1.l a1.c, .bool a1.m, .slice a1.p2 a1.l2 a1.c2] ∧ a0.In L w A0 ∧ a1.In L w A1
theorem PtIn.ext {L : Nat} {w : World} {cs : Array Value} {A0 A1 : Rat} {w' : World} (h : PtIn L w cs A0 A1) (x : Ext w w') : PtIn L w' cs A0 A1 := by obtain ⟨a0, a1, e, h0, h1⟩ := h; exact ⟨a0, a1, e, h0.ext x, h1.ext x⟩
theorem PtIn.size {L : Nat} {w : World} {cs : Array Value} {A0 A1 : Rat} (h : PtIn L w cs A0 A1) : cs.size = 8 := by obtain ⟨a0, a1, e, h0, h1⟩ := h; rw [e]; rfl
theorem PtIn.one {L : Nat} {w : World} {cs : Array Value} {A0 A1 : Rat} (h : PtIn L w cs A0 A1) : cs.all (·.oneCell') = true := by obtain ⟨a0, a1, e, h0, h1⟩ := h; rw [e]; exact all_oneCell_toArray (by simp [Value.oneCell'])
theorem PtIn.c0 {L : Nat} {w : World} {cs : Array Value} {A0 A1 : Rat} (h : PtIn L w cs A0 A1) : NIn L w (cs.extract 0 (0 + 4)) A0 := by obtain ⟨a0, a1, e, h0, h1⟩ := h; exact ⟨a0, by rw [e]; rfl, h0⟩
theorem PtIn.c1 {L : Nat} {w : World} {cs : Array Value} {A0 A1 : Rat} (h : PtIn L w cs A0 A1) : NIn L w (cs.extract 4 (4 + 4)) A1 := by obtain ⟨a0, a1, e, h0, h1⟩ := h; exact ⟨a1, by rw [e]; rfl, h1⟩
theorem PtIn.mono {L : Nat} {w : World} {cs : Array Value} {A0 A1 : Rat} {M : Nat} (h : PtIn L w cs A0 A1) (hl : L ≤ M) : PtIn M w cs A0 A1 := by obtain ⟨a0, a1, e, h0, h1⟩ := h; exact ⟨a0, a1, e, h0.mono hl, h1.mono hl⟩
def PtIs (w : World) (cs : Array Value) (A0 A1 : Rat) : Prop := ∃ a0 a1 : RV, cs = #[.bool a0.n, .slice a0.p a0.l a0.c, .bool a0.m, .slice a0.p2 a0.l2 a0.c2, .bool a1.n, .slice a1.p a1.l a1.c, .bool a1.m, .slice a1.p2 a1.l2 a1.c2] ∧ a0.Is w A0 ∧ a1.Is w A1
theorem PtIs.ext {w : World} {cs : Array Value} {A0 A1 : Rat} {w' : World} (h : PtIs w cs A0 A1) (x : Ext w w') : PtIs w' cs A0 A1 := by obtain ⟨a0, a1, e, h0, h1⟩ := h; exact ⟨a0, a1, e, h0.ext x, h1.ext x⟩
theorem PtIs.size {w : World} {cs : Array Value} {A0 A1 : Rat} (h : PtIs w cs A0 A1) : cs.size = 8 := by obtain ⟨a0, a1, e, h0, h1⟩ := h; rw [e]; rfl
theorem PtIs.one {w : World} {cs : Array Value} {A0 A1 : Rat} (h : PtIs w cs A0 A1) : cs.all (·.oneCell') = true := by obtain ⟨a0, a1, e, h0, h1⟩ := h; rw [e]; exact all_oneCell_toArray (by simp [Value.oneCell'])
theorem PtIs.map {w : World} {cs : Array Value} {A0 A1 : Rat} {w' : World} (h : PtIs w cs A0 A1) (x : ∀ (r : RV) (q : Rat), r.Is w q → r.Is w' q) : PtIs w' cs A0 A1 := by obtain ⟨a0, a1, e, h0, h1⟩ := h; exact ⟨a0, a1, e, x _ _ h0, x _ _ h1⟩
theorem PtIs.c0 {w : World} {cs : Array Value} {A0 A1 : Rat} (h : PtIs w cs A0 A1) : NIs w (cs.extract 0 (0 + 4)) A0 := by obtain ⟨a0, a1, e, h0, h1⟩ := h; exact ⟨a0, by rw [e]; rfl, h0⟩
theorem PtIs.c1 {w : World} {cs : Array Value} {A0 A1 : Rat} (h : PtIs w cs A0 A1) : NIs w (cs.extract 4 (4 + 4)) A1 := by obtain ⟨a0, a1, e, h0, h1⟩ := h; exact ⟨a1, by rw [e]; rfl, h1⟩
def Q3In (L : Nat) (w : World) (cs : Array Value) (A0 A1 B0 B1 C0 C1 : Rat) : Prop := ∃ a0 a1 b0 b1 c0 c1 : RV, cs = #[.bool a0.n, .slice a0.p a0.l a0.c, .bool a0.m, .slice a0.p2 a0.l2 a0.c2, .bool a1.n, .slice a1.p a1.l a1.c, .bool a1.m, .slice a1.p2 a1.l2 a1.c2, .bool b0.n, .slice b0.p b0.l b0.c, .bool b0.m, .slice b0.p2 b0.l2 b0.c2, .bool b1.n, .slice b1.p b1.l b1.c, .bool b1.m, .slice b1.p2 b1.l2 b1.c2, .bool c0.n, .slice c0.p c0.l c0.c, .bool c0.m, .slice c0.p2 c0.l2 c0.c2, .bool c1.n, .slice c1.p c1.l c1.c, .bool c1.m, .slice c1.p2 c1.l2 c1.c2] ∧ a0.In L w A0 ∧ a1.In L w A1 ∧ b0.In L w B0 ∧ b1.In L w B1 ∧ c0.In L w C0 ∧ c1.In L w C1
theorem Q3In.ext {L : Nat} {w : World} {cs : Array Value} {A0 A1 B0 B1 C0 C1 : Rat} {w' : World} (h : Q3In L w cs A0 A1 B0 B1 C0 C1) (x : Ext w w') : Q3In L w' cs A0 A1 B0 B1 C0 C1 := by obtain ⟨a0, a1, b0, b1, c0, c1, e, h0, h1, h2, h3, h4, h5⟩ := h; exact ⟨a0, a1, b0, b1, c0, c1, e, h0.ext x, h1.ext x, h2.ext x, h3.ext x, h4.ext x, h5.ext x⟩
theorem Q3In.size {L : Nat} {w : World} {cs : Array Value} {A0 A1 B0 B1 C0 C1 : Rat} (h : Q3In L w cs A0 A1 B0 B1 C0 C1) : cs.size = 24 := by obtain ⟨a0, a1, b0, b1, c0, c1, e, h0, h1, h2, h3, h4, h5⟩ := h; rw [e]; rfl
theorem Q3In.one {L : Nat} {w : World} {cs : Array Value} {A0 A1 B0 B1 C0 C1 : Rat} (h : Q3In L w cs A0 A1 B0 B1 C0 C1) : cs.all (·.oneCell') = true := by obtain ⟨a0, a1, b0, b1, c0, c1, e, h0, h1, h2, h3, h4, h5⟩ := h; rw [e]; exact all_oneCell_toArray (by simp [Value.oneCell'])
theorem Q3In.e0 {L : Nat} {w : World} {cs : Array Value} {A0 A1 B0 B1 C0 C1 : Rat} (h : Q3In L w cs A0 A1 B0 B1 C0 C1) : NIn L w (cs.extract 0 (0 + 4)) A0 := by obtain ⟨a0, a1, b0, b1, c0, c1, e, h0, h1, h2, h3, h4, h5⟩ := h; exact ⟨a0, by rw [e]; rfl, h0⟩
theorem Q3In.e1 {L : Nat} {w : World} {cs : Array Value} {A0 A1 B0 B1 C0 C1 : Rat} (h : Q3In L w cs A0 A1 B0 B1 C0 C1) : NIn L w (cs.extract 4 (4 + 4)) A1 := by obtain ⟨a0, a1, b0, b1, c0, c1, e, h0, h1, h2, h3, h4, h5⟩ := h; exact ⟨a1, by rw [e]; rfl, h1⟩
theorem Q3In.e2 {L : Nat} {w : World} {cs : Array Value} {A0 A1 B0 B1 C0 C1 : Rat} (h : Q3In L w cs A0 A1 B0 B1 C0 C1) : NIn L w (cs.extract 8 (8 + 4)) B0 := by obtain ⟨a0, a1, b0, b1, c0, c1, e, h0, h1, h2, h3, h4, h5⟩ := h; exact ⟨b0, by rw [e]; rfl, h2⟩
theorem Q3In.e3 {L : Nat} {w : World} {cs : Array Value} {A0 A1 B0 B1 C0 C1 : Rat} (h : Q3In L w cs A0 A1 B0 B1 C0 C1) : NIn L w (cs.extract 12 (12 + 4)) B1 := by obtain ⟨a0, a1, b0, b1, c0, c1, e, h0, h1, h2, h3, h4, h5⟩ := h; exact ⟨b1, by rw [e]; rfl, h3⟩
theorem Q3In.e4 {L : Nat} {w : World} {cs : Array Value} {A0 A1 B0 B1 C0 C1 : Rat} (h : Q3In L w cs A0 A1 B0 B1 C0 C1) : NIn L w (cs.extract 16 (16 + 4)) C0 := by obtain ⟨a0, a1, b0, b1, c0, c1, e, h0, h1, h2, h3, h4, h5⟩ := h; exact ⟨c0, by rw [e]; rfl, h4⟩
theorem Q3In.e5 {L : Nat} {w : World} {cs : Array Value} {A0 A1 B0 B1 C0 C1 : Rat} (h : Q3In L w cs A0 A1 B0 B1 C0 C1) : NIn L w (cs.extract 20 (20 + 4)) C1 := by obtain ⟨a0, a1, b0, b1, c0, c1, e, h0, h1, h2, h3, h4, h5⟩ := h; exact ⟨c1, by rw [e]; rfl, h5⟩
theorem Q3In.p0 {L : Nat} {w : World} {cs : Array Value} {A0 A1 B0 B1 C0 C1 : Rat} (h : Q3In L w cs A0 A1 B0 B1 C0 C1) : PtIn L w (cs.extract 0 (0 + 8)) A0 A1 := by obtain ⟨a0, a1, b0, b1, c0, c1, e, h0, h1, h2, h3, h4, h5⟩ := h; exact ⟨a0, a1, by rw [e]; rfl, h0, h1⟩
theorem Q3In.p1 {L : Nat} {w : World} {cs : Array Value} {A0 A1 B0 B1 C0 C1 : Rat} (h : Q3In L w cs A0 A1 B0 B1 C0 C1) : PtIn L w (cs.extract 8 (8 + 8)) B0 B1 := by obtain ⟨a0, a1, b0, b1, c0, c1, e, h0, h1, h2, h3, h4, h5⟩ := h; exact ⟨b0, b1, by rw [e]; rfl, h2, h3⟩
theorem Q3In.p2 {L : Nat} {w : World} {cs : Array Value} {A0 A1 B0 B1 C0 C1 : Rat} (h : Q3In L w cs A0 A1 B0 B1 C0 C1) : PtIn L w (cs.extract 16 (16 + 8)) C0 C1 := by obtain ⟨a0, a1, b0, b1, c0, c1, e, h0, h1, h2, h3, h4, h5⟩ := h; exact ⟨c0, c1, by rw [e]; rfl, h4, h5⟩
theorem Q3In.mono {L : Nat} {w : World} {cs : Array Value} {A0 A1 B0 B1 C0 C1 : Rat} {M : Nat} (h : Q3In L w cs A0 A1 B0 B1 C0 C1) (hl : L ≤ M) : Q3In M w cs A0 A1 B0 B1 C0 C1 := by obtain ⟨a0, a1, b0, b1, c0, c1, e, h0, h1, h2, h3, h4, h5⟩ := h; exact ⟨a0, a1, b0, b1, c0, c1, e, h0.mono hl, h1.mono hl, h2.mono hl, h3.mono hl, h4.mono hl, h5.mono hl⟩
def Q3Is (w : World) (cs : Array Value) (A0 A1 B0 B1 C0 C1 : Rat) : Prop := ∃ a0 a1 b0 b1 c0 c1 : RV, cs = #[.bool a0.n, .slice a0.p a0.l a0.c, .bool a0.m, .slice a0.p2 a0.l2 a0.c2, .bool a1.n, .slice a1.p a1.l a1.c, .bool a1.m, .slice a1.p2 a1.l2 a1.c2, .bool b0.n, .slice b0.p b0.l b0.c, .bool b0.m, .slice b0.p2 b0.l2 b0.c2, .bool b1.n, .slice b1.p b1.l b1.c, .bool b1.m, .slice b1.p2 b1.l2 b1.c2, .bool c0.n, .slice c0.p c0.l c0.c, .bool c0.m, .slice c0.p2 c0.l2 c0.c2, .bool c1.n, .slice c1.p c1.l c1.c, .bool c1.m, .slice c1.p2 c1.l2 c1.c2] ∧ a0.Is w A0 ∧ a1.Is w A1 ∧ b0.Is w B0 ∧ b1.Is w B1 ∧ c0.Is w C0 ∧ c1.Is w C1
theorem Q3Is.ext {w : World} {cs : Array Value} {A0 A1 B0 B1 C0 C1 : Rat} {w' : World} (h : Q3Is w cs A0 A1 B0 B1 C0 C1) (x : Ext w w') : Q3Is w' cs A0 A1 B0 B1 C0 C1 := by obtain ⟨a0, a1, b0, b1, c0, c1, e, h0, h1, h2, h3, h4, h5⟩ := h; exact ⟨a0, a1, b0, b1, c0, c1, e, h0.ext x, h1.ext x, h2.ext x, h3.ext x, h4.ext x, h5.ext x⟩
theorem Q3Is.size {w : World} {cs : Array Value} {A0 A1 B0 B1 C0 C1 : Rat} (h : Q3Is w cs A0 A1 B0 B1 C0 C1) : cs.size = 24 := by obtain ⟨a0, a1, b0, b1, c0, c1, e, h0, h1, h2, h3, h4, h5⟩ := h; rw [e]; rfl
theorem Q3Is.one {w : World} {cs : Array Value} {A0 A1 B0 B1 C0 C1 : Rat} (h : Q3Is w cs A0 A1 B0 B1 C0 C1) : cs.all (·.oneCell') = true := by obtain ⟨a0, a1, b0, b1, c0, c1, e, h0, h1, h2, h3, h4, h5⟩ := h; rw [e]; exact all_oneCell_toArray (by simp [Value.oneCell'])
theorem Q3Is.map {w : World} {cs : Array Value} {A0 A1 B0 B1 C0 C1 : Rat} {w' : World} (h : Q3Is w cs A0 A1 B0 B1 C0 C1) (x : ∀ (r : RV) (q : Rat), r.Is w q → r.Is w' q) : Q3Is w' cs A0 A1 B0 B1 C0 C1 := by obtain ⟨a0, a1, b0, b1, c0, c1, e, h0, h1, h2, h3, h4, h5⟩ := h; exact ⟨a0, a1, b0, b1, c0, c1, e, x _ _ h0, x _ _ h1, x _ _ h2, x _ _ h3, x _ _ h4, x _ _ h5⟩
theorem Q3Is.e0 {w : World} {cs : Array Value} {A0 A1 B0 B1 C0 C1 : Rat} (h : Q3Is w cs A0 A1 B0 B1 C0 C1) : NIs w (cs.extract 0 (0 + 4)) A0 := by obtain ⟨a0, a1, b0, b1, c0, c1, e, h0, h1, h2, h3, h4, h5⟩ := h; exact ⟨a0, by rw [e]; rfl, h0⟩
theorem Q3Is.e1 {w : World} {cs : Array Value} {A0 A1 B0 B1 C0 C1 : Rat} (h : Q3Is w cs A0 A1 B0 B1 C0 C1) : NIs w (cs.extract 4 (4 + 4)) A1 := by obtain ⟨a0, a1, b0, b1, c0, c1, e, h0, h1, h2, h3, h4, h5⟩ := h; exact ⟨a1, by rw [e]; rfl, h1⟩
theorem Q3Is.e2 {w : World} {cs : Array Value} {A0 A1 B0 B1 C0 C1 : Rat} (h : Q3Is w cs A0 A1 B0 B1 C0 C1) : NIs w (cs.extract 8 (8 + 4)) B0 := by obtain ⟨a0, a1, b0, b1, c0, c1, e, h0, h1, h2, h3, h4, h5⟩ := h; exact ⟨b0, by rw [e]; rfl, h2⟩
theorem Q3Is.e3 {w : World} {cs : Array Value} {A0 A1 B0 B1 C0 C1 : Rat} (h : Q3Is w cs A0 A1 B0 B1 C0 C1) : NIs w (cs.extract 12 (12 + 4)) B1 := by obtain ⟨a0, a1, b0, b1, c0, c1, e, h0, h1, h2, h3, h4, h5⟩ := h; exact ⟨b1, by rw [e]; rfl, h3⟩
theorem Q3Is.e4 {w : World} {cs : Array Value} {A0 A1 B0 B1 C0 C1 : Rat} (h : Q3Is w cs A0 A1 B0 B1 C0 C1) : NIs w (cs.extract 16 (16 + 4)) C0 := by obtain ⟨a0, a1, b0, b1, c0, c1, e, h0, h1, h2, h3, h4, h5⟩ := h; exact ⟨c0, by rw [e]; rfl, h4⟩
theorem Q3Is.e5 {w : World} {cs : Array Value} {A0 A1 B0 B1 C0 C1 : Rat} (h : Q3Is w cs A0 A1 B0 B1 C0 C1) : NIs w (cs.extract 20 (20 + 4)) C1 := by obtain ⟨a0, a1, b0, b1, c0, c1, e, h0, h1, h2, h3, h4, h5⟩ := h; exact ⟨c1, by rw [e]; rfl, h5⟩
theorem Q3Is.p0 {w : World} {cs : Array Value} {A0 A1 B0 B1 C0 C1 : Rat} (h : Q3Is w cs A0 A1 B0 B1 C0 C1) : PtIs w (cs.extract 0 (0 + 8)) A0 A1 := by obtain ⟨a0, a1, b0, b1, c0, c1, e, h0, h1, h2, h3, h4, h5⟩ := h; exact ⟨a0, a1, by rw [e]; rfl, h0, h1⟩
theorem Q3Is.p1 {w : World} {cs : Array Value} {A0 A1 B0 B1 C0 C1 : Rat} (h : Q3Is w cs A0 A1 B0 B1 C0 C1) : PtIs w (cs.extract 8 (8 + 8)) B0 B1 := by obtain ⟨a0, a1, b0, b1, c0, c1, e, h0, h1, h2, h3, h4, h5⟩ := h; exact ⟨b0, b1, by rw [e]; rfl, h2, h3⟩
theorem Q3Is.p2 {w : World} {cs : Array Value} {A0 A1 B0 B1 C0 C1 : Rat} (h : Q3Is w cs A0 A1 B0 B1 C0 C1) : PtIs w (cs.extract 16 (16 + 8)) C0 C1 := by obtain ⟨a0, a1, b0, b1, c0, c1, e, h0, h1, h2, h3, h4, h5⟩ := h; exact ⟨c0, c1, by rw [e]; rfl, h4, h5⟩
def C4In (L : Nat) (w : World) (cs : Array Value) (A0 A1 B0 B1 C0 C1 D0 D1 : Rat) : Prop := ∃ a0 a1 b0 b1 c0 c1 d0 d1 : RV, cs = #[.bool a0.n, .slice a0.p a0.l a0.c, .bool a0.m, .slice a0.p2 a0.l2 a0.c2, .bool a1.n, .slice a1.p a1.l a1.c, .bool a1.m, .slice a1.p2 a1.l2 a1.c2, .bool b0.n, .slice b0.p b0.l b0.c, .bool b0.m, .slice b0.p2 b0.l2 b0.c2, .bool b1.n, .slice b1.p b1.l b1.c, .bool b1.m, .slice b1.p2 b1.l2 b1.c2, .bool c0.n, .slice c0.p c0.l c0.c, .bool c0.m, .slice c0.p2 c0.l2 c0.c2, .bool c1.n, .slice c1.p c1.l c1.c, .bool c1.m, .slice c1.p2 c1.l2 c1.c2, .bool d0.n, .slice d0.p d0.l d0.c, .bool d0.m, .slice d0.p2 d0.l2 d0.c2, .bool d1.n, .slice d1.p d1.l d1.c, .bool d1.m, .slice d1.p2 d1.l2 d1.c2] ∧ a0.In L w A0 ∧ a1.In L w A1 ∧ b0.In L w B0 ∧ b1.In L w B1 ∧ c0.In L w C0 ∧ c1.In L w C1 ∧ d0.In L w D0 ∧ d1.In L w D1
theorem C4In.ext {L : Nat} {w : World} {cs : Array Value} {A0 A1 B0 B1 C0 C1 D0 D1 : Rat} {w' : World} (h : C4In L w cs A0 A1 B0 B1 C0 C1 D0 D1) (x : Ext w w') : C4In L w' cs A0 A1 B0 B1 C0 C1 D0 D1 := by obtain ⟨a0, a1, b0, b1, c0, c1, d0, d1, e, h0, h1, h2, h3, h4, h5, h6, h7⟩ := h; exact ⟨a0, a1, b0, b1, c0, c1, d0, d1, e, h0.ext x, h1.ext x, h2.ext x, h3.ext x, h4.ext x, h5.ext x, h6.ext x, h7.ext x⟩
theorem C4In.size {L : Nat} {w : World} {cs : Array Value} {A0 A1 B0 B1 C0 C1 D0 D1 : Rat} (h : C4In L w cs A0 A1 B0 B1 C0 C1 D0 D1) : cs.size = 32 := by obtain ⟨a0, a1, b0, b1, c0, c1, d0, d1, e, h0, h1, h2, h3, h4, h5, h6, h7⟩ := h; rw [e]; rfl
theorem C4In.one {L : Nat} {w : World} {cs : Array Value} {A0 A1 B0 B1 C0 C1 D0 D1 : Rat} (h : C4In L w cs A0 A1 B0 B1 C0 C1 D0 D1) : cs.all (·.oneCell') = true := by obtain ⟨a0, a1, b0, b1, c0, c1, d0, d1, e, h0, h1, h2, h3, h4, h5, h6, h7⟩ := h; rw [e]; exact all_oneCell_toArray (by simp [Value.oneCell'])
theorem C4In.e0 {L : Nat} {w : World} {cs : Array Value} {A0 A1 B0 B1 C0 C1 D0 D1 : Rat} (h : C4In L w cs A0 A1 B0 B1 C0 C1 D0 D1) : NIn L w (cs.extract 0 (0 + 4)) A0 := by obtain ⟨a0, a1, b0, b1, c0, c1, d0, d1, e, h0, h1, h2, h3, h4, h5, h6, h7⟩ := h; exact ⟨a0, by rw [e]; rfl, h0⟩
theorem C4In.e1 {L : Nat} {w : World} {cs : Array Value} {A0 A1 B0 B1 C0 C1 D0 D1 : Rat} (h : C4In L w cs A0 A1 B0 B1 C0 C1 D0 D1) : NIn L w (cs.extract 4 (4 + 4)) A1 := by obtain ⟨a0, a1, b0, b1, c0, c1, d0, d1, e, h0, h1, h2, h3, h4, h5, h6, h7⟩ := h; exact ⟨a1, by rw [e]; rfl, h1⟩
theorem C4In.e2 {L : Nat} {w : World} {cs : Array Value} {A0 A1 B0 B1 C0 C1 D0 D1 : Rat} (h : C4In L w cs A0 A1 B0 B1 C0 C1 D0 D1) : NIn L w (cs.extract 8 (8 + 4)) B0 := by obtain ⟨a0, a1, b0, b1, c0, c1, d0, d1, e, h0, h1, h2, h3, h4, h5, h6, h7⟩ := h; exact ⟨b0, by rw [e]; rfl, h2⟩
theorem C4In.e3 {L : Nat} {w : World} {cs : Array Value} {A0 A1 B0 B1 C0 C1 D0 D1 : Rat} (h : C4In L w cs A0 A1 B0 B1 C0 C1 D0 D1) : NIn L w (cs.extract 12 (12 + 4)) B1 := by obtain ⟨a0, a1, b0, b1, c0, c1, d0, d1, e, h0, h1, h2, h3, h4, h5, h6, h7⟩ := h; exact ⟨b1, by rw [e]; rfl, h3⟩
theorem C4In.e4 {L : Nat} {w : World} {cs : Array Value} {A0 A1 B0 B1 C0 C1 D0 D1 : Rat} (h : C4In L w cs A0 A1 B0 B1 C0 C1 D0 D1) : NIn L w (cs.extract 16 (16 + 4)) C0 := by obtain ⟨a0, a1, b0, b1, c0, c1, d0, d1, e, h0, h1, h2, h3, h4, h5, h6, h7⟩ := h; exact ⟨c0, by rw [e]; rfl, h4⟩
theorem C4In.e5 {L : Nat} {w : World} {cs : Array Value} {A0 A1 B0 B1 C0 C1 D0 D1 : Rat} (h : C4In L w cs A0 A1 B0 B1 C0 C1 D0 D1) : NIn L w (cs.extract 20 (20 + 4)) C1 := by obtain ⟨a0, a1, b0, b1, c0, c1, d0, d1, e, h0, h1, h2, h3, h4, h5, h6, h7⟩ := h; exact ⟨c1, by rw [e]; rfl, h5⟩
theorem C4In.e6 {L : Nat} {w : World} {cs : Array Value} {A0 A1 B0 B1 C0 C1 D0 D1 : Rat} (h : C4In L w cs A0 A1 B0 B1 C0 C1 D0 D1) : NIn L w (cs.extract 24 (24 + 4)) D0 := by obtain ⟨a0, a1, b0, b1, c0, c1, d0, d1, e, h0, h1, h2, h3, h4, h5, h6, h7⟩ := h; exact ⟨d0, by rw [e]; rfl, h6⟩
theorem C4In.e7 {L : Nat} {w : World} {cs : Array Value} {A0 A1 B0 B1 C0 C1 D0 D1 : Rat} (h : C4In L w cs A0 A1 B0 B1 C0 C1 D0 D1) : NIn L w (cs.extract 28 (28 + 4)) D1 := by obtain ⟨a0, a1, b0, b1, c0, c1, d0, d1, e, h0, h1, h2, h3, h4, h5, h6, h7⟩ := h; exact ⟨d1, by rw [e]; rfl, h7⟩
theorem C4In.p0 {L : Nat} {w : World} {cs : Array Value} {A0 A1 B0 B1 C0 C1 D0 D1 : Rat} (h : C4In L w cs A0 A1 B0 B1 C0 C1 D0 D1) : PtIn L w (cs.extract 0 (0 + 8)) A0 A1 := by obtain ⟨a0, a1, b0, b1, c0, c1, d0, d1, e, h0, h1, h2, h3, h4, h5, h6, h7⟩ := h; exact ⟨a0, a1, by rw [e]; rfl, h0, h1⟩
theorem C4In.p1 {L : Nat} {w : World} {cs : Array Value} {A0 A1 B0 B1 C0 C1 D0 D1 : Rat} (h : C4In L w cs A0 A1 B0 B1 C0 C1 D0 D1) : PtIn L w (cs.extract 8 (8 + 8)) B0 B1 := by obtain ⟨a0, a1, b0, b1, c0, c1, d0, d1, e, h0, h1, h2, h3, h4, h5, h6, h7⟩ := h; exact ⟨b0, b1, by rw [e]; rfl, h2, h3⟩
theorem C4In.p2 {L : Nat} {w : World} {cs : Array Value} {A0 A1 B0 B1 C0 C1 D0 D1 : Rat} (h : C4In L w cs A0 A1 B0 B1 C0 C1 D0 D1) : PtIn L w (cs.extract 16 (16 + 8)) C0 C1 := by obtain ⟨a0, a1, b0, b1, c0, c1, d0, d1, e, h0, h1, h2, h3, h4, h5, h6, h7⟩ := h; exact ⟨c0, c1, by rw [e]; rfl, h4, h5⟩
theorem C4In.p3 {L : Nat} {w : World} {cs : Array Value} {A0 A1 B0 B1 C0 C1 D0 D1 : Rat} (h : C4In L w cs A0 A1 B0 B1 C0 C1 D0 D1) : PtIn L w (cs.extract 24 (24 + 8)) D0 D1 := by obtain ⟨a0, a1, b0, b1, c0, c1, d0, d1, e, h0, h1, h2, h3, h4, h5, h6, h7⟩ := h; exact ⟨d0, d1, by rw [e]; rfl, h6, h7⟩
theorem C4In.mono {L : Nat} {w : World} {cs : Array Value} {A0 A1 B0 B1 C0 C1 D0 D1 : Rat} {M : Nat} (h : C4In L w cs A0 A1 B0 B1 C0 C1 D0 D1) (hl : L ≤ M) : C4In M w cs A0 A1 B0 B1 C0 C1 D0 D1 := by obtain ⟨a0, a1, b0, b1, c0, c1, d0, d1, e, h0, h1, h2, h3, h4, h5, h6, h7⟩ := h; exact ⟨a0, a1, b0, b1, c0, c1, d0, d1, e, h0.mono hl, h1.mono hl, h2.mono hl, h3.mono hl, h4.mono hl, h5.mono hl, h6.mono hl, h7.mono hl⟩
def C4Is (w : World) (cs : Array Value) (A0 A1 B0 B1 C0 C1 D0 D1 : Rat) : Prop := ∃ a0 a1 b0 b1 c0 c1 d0 d1 : RV, cs = #[.bool a0.n, .slice a0.p a0.l a0.c, .bool a0.m, .slice a0.p2 a0.l2 a0.c2, .bool a1.n, .slice a1.p a1.l a1.c, .bool a1.m, .slice a1.p2 a1.l2 a1.c2, .bool b0.n, .slice b0.p b0.l b0.c, .bool b0.m, .slice b0.p2 b0.l2 b0.c2, .bool b1.n, .slice b1.p b1.l b1.c, .bool b1.m, .slice b1.p2 b1.l2 b1.c2, .bool c0.n, .slice c0.p c0.l c0.c, .bool c0.m, .slice c0.p2 c0.l2 c0.c2, .bool c1.n, .slice c1.p c1.l c1.c, .bool c1.m, .slice c1.p2 c1.l2 c1.c2, .bool d0.n, .slice d0.p d0.l d0.c, .bool d0.m, .slice d0.p2 d0.l2 d0.c2, .bool d1.n, .slice d1.p d1.l d1.c, .bool d1.m, .slice d1.p2 d1.l2 d1.c2] ∧ a0.Is w A0 ∧ a1.Is w A1 ∧ b0.Is w B0 ∧ b1.Is w B1 ∧ c0.Is w C0 ∧ c1.Is w C1 ∧ d0.Is w D0 ∧ d1.Is w D1
theorem C4Is.ext {w : World} {cs : Array Value} {A0 A1 B0 B1 C0 C1 D0 D1 : Rat} {w' : World} (h : C4Is w cs A0 A1 B0 B1 C0 C1 D0 D1) (x : Ext w w') : C4Is w' cs A0 A1 B0 B1 C0 C1 D0 D1 := by obtain ⟨a0, a1, b0, b1, c0, c1, d0, d1, e, h0, h1, h2, h3, h4, h5, h6, h7⟩ := h; exact ⟨a0, a1, b0, b1, c0, c1, d0, d1, e, h0.ext x, h1.ext x, h2.ext x, h3.ext x, h4.ext x, h5.ext x, h6.ext x, h7.ext x⟩
theorem C4Is.size {w : World} {cs : Array Value} {A0 A1 B0 B1 C0 C1 D0 D1 : Rat} (h : C4Is w cs A0 A1 B0 B1 C0 C1 D0 D1) : cs.size = 32 := by obtain ⟨a0, a1, b0, b1, c0, c1, d0, d1, e, h0, h1, h2, h3, h4, h5, h6, h7⟩ := h; rw [e]; rfl
theorem C4Is.one {w : World} {cs : Array Value} {A0 A1 B0 B1 C0 C1 D0 D1 : Rat} (h : C4Is w cs A0 A1 B0 B1 C0 C1 D0 D1) : cs.all (·.oneCell') = true := by obtain ⟨a0, a1, b0, b1, c0, c1, d0, d1, e, h0, h1, h2, h3, h4, h5, h6, h7⟩ := h; rw [e]; exact all_oneCell_toArray (by simp [Value.oneCell'])
theorem C4Is.map {w : World} {cs : Array Value} {A0 A1 B0 B1 C0 C1 D0 D1 : Rat} {w' : World} (h : C4Is w cs A0 A1 B0 B1 C0 C1 D0 D1) (x : ∀ (r : RV) (q : Rat), r.Is w q → r.Is w' q) : C4Is w' cs A0 A1 B0 B1 C0 C1 D0 D1 := by obtain ⟨a0, a1, b0, b1, c0, c1, d0, d1, e, h0, h1, h2, h3, h4, h5, h6, h7⟩ := h; exact ⟨a0, a1, b0, b1, c0, c1, d0, d1, e, x _ _ h0, x _ _ h1, x _ _ h2, x _ _ h3, x _ _ h4, x _ _ h5, x _ _ h6, x _ _ h7⟩
theorem C4Is.e0 {w : World} {cs : Array Value} {A0 A1 B0 B1 C0 C1 D0 D1 : Rat} (h : C4Is w cs A0 A1 B0 B1 C0 C1 D0 D1) : NIs w (cs.extract 0 (0 + 4)) A0 := by obtain ⟨a0, a1, b0, b1, c0, c1, d0, d1, e, h0, h1, h2, h3, h4, h5, h6, h7⟩ := h; exact ⟨a0, by rw [e]; rfl, h0⟩
theorem C4Is.e1 {w : World} {cs : Array Value} {A0 A1 B0 B1 C0 C1 D0 D1 : Rat} (h : C4Is w cs A0 A1 B0 B1 C0 C1 D0 D1) : NIs w (cs.extract 4 (4 + 4)) A1 := by obtain ⟨a0, a1, b0, b1, c0, c1, d0, d1, e, h0, h1, h2, h3, h4, h5, h6, h7⟩ := h; exact ⟨a1, by rw [e]; rfl, h1⟩
theorem C4Is.e2 {w : World} {cs : Array Value} {A0 A1 B0 B1 C0 C1 D0 D1 : Rat} (h : C4Is w cs A0 A1 B0 B1 C0 C1 D0 D1) : NIs w (cs.extract 8 (8 + 4)) B0 := by obtain ⟨a0, a1, b0, b1, c0, c1, d0, d1, e, h0, h1, h2, h3, h4, h5, h6, h7⟩ := h; exact ⟨b0, by rw [e]; rfl, h2⟩
theorem C4Is.e3 {w : World} {cs : Array Value} {A0 A1 B0 B1 C0 C1 D0 D1 : Rat} (h : C4Is w cs A0 A1 B0 B1 C0 C1 D0 D1) : NIs w (cs.extract 12 (12 + 4)) B1 := by obtain ⟨a0, a1, b0, b1, c0, c1, d0, d1, e, h0, h1, h2, h3, h4, h5, h6, h7⟩ := h; exact ⟨b1, by rw [e]; rfl, h3⟩
theorem C4Is.e4 {w : World} {cs : Array Value} {A0 A1 B0 B1 C0 C1 D0 D1 : Rat} (h : C4Is w cs A0 A1 B0 B1 C0 C1 D0 D1) : NIs w (cs.extract 16 (16 + 4)) C0 := by obtain ⟨a0, a1, b0, b1, c0, c1, d0, d1, e, h0, h1, h2, h3, h4, h5, h6, h7⟩ := h; exact ⟨c0, by rw [e]; rfl, h4⟩
theorem C4Is.e5 {w : World} {cs : Array Value} {A0 A1 B0 B1 C0 C1 D0 D1 : Rat} (h : C4Is w cs A0 A1 B0 B1 C0 C1 D0 D1) : NIs w (cs.extract 20 (20 + 4)) C1 := by obtain ⟨a0, a1, b0, b1, c0, c1, d0, d1, e, h0, h1, h2, h3, h4, h5, h6, h7⟩ := h; exact ⟨c1, by rw [e]; rfl, h5⟩
theorem C4Is.e6 {w : World} {cs : Array Value} {A0 A1 B0 B1 C0 C1 D0 D1 : Rat} (h : C4Is w cs A0 A1 B0 B1 C0 C1 D0 D1) : NIs w (cs.extract 24 (24 + 4)) D0 := by obtain ⟨a0, a1, b0, b1, c0, c1, d0, d1, e, h0, h1, h2, h3, h4, h5, h6, h7⟩ := h; exact ⟨d0, by rw [e]; rfl, h6⟩
theorem C4Is.e7 {w : World} {cs : Array Value} {A0 A1 B0 B1 C0 C1 D0 D1 : Rat} (h : C4Is w cs A0 A1 B0 B1 C0 C1 D0 D1) : NIs w (cs.extract 28 (28 + 4)) D1 := by obtain ⟨a0, a1, b0, b1, c0, c1, d0, d1, e, h0, h1, h2, h3, h4, h5, h6, h7⟩ := h; exact ⟨d1, by rw [e]; rfl, h7⟩
theorem C4Is.p0 {w : World} {cs : Array Value} {A0 A1 B0 B1 C0 C1 D0 D1 : Rat} (h : C4Is w cs A0 A1 B0 B1 C0 C1 D0 D1) : PtIs w (cs.extract 0 (0 + 8)) A0 A1 := by obtain ⟨a0, a1, b0, b1, c0, c1, d0, d1, e, h0, h1, h2, h3, h4, h5, h6, h7⟩ := h; exact ⟨a0, a1, by rw [e]; rfl, h0, h1⟩
theorem C4Is.p1 {w : World} {cs : Array Value} {A0 A1 B0 B1 C0 C1 D0 D1 : Rat} (h : C4Is w cs A0 A1 B0 B1 C0 C1 D0 D1) : PtIs w (cs.extract 8 (8 + 8)) B0 B1 := by obtain ⟨a0, a1, b0, b1, c0, c1, d0, d1, e, h0, h1, h2, h3, h4, h5, h6, h7⟩ := h; exact ⟨b0, b1, by rw [e]; rfl, h2, h3⟩
theorem C4Is.p2 {w : World} {cs : Array Value} {A0 A1 B0 B1 C0 C1 D0 D1 : Rat} (h : C4Is w cs A0 A1 B0 B1 C0 C1 D0 D1) : PtIs w (cs.extract 16 (16 + 8)) C0 C1 := by obtain ⟨a0, a1, b0, b1, c0, c1, d0, d1, e, h0, h1, h2, h3, h4, h5, h6, h7⟩ := h; exact ⟨c0, c1, by rw [e]; rfl, h4, h5⟩
theorem C4Is.p3 {w : World} {cs : Array Value} {A0 A1 B0 B1 C0 C1 D0 D1 : Rat} (h : C4Is w cs A0 A1 B0 B1 C0 C1 D0 D1) : PtIs w (cs.extract 24 (24 + 8)) D0 D1 := by obtain ⟨a0, a1, b0, b1, c0, c1, d0, d1, e, h0, h1, h2, h3, h4, h5, h6, h7⟩ := h; exact ⟨d0, d1, by rw [e]; rfl, h6, h7⟩

section
variable {L : Nat} {w : World} {cs ct : Array Value}

end
end Go.Proofs.YtmgibncehlpfkaaGreat

namespace Go.Proofs.YtmgibncehlpfkaaGreat
open Go.RowKit

theorem wp_call_op {P : Program} {op : Oper} {a : Act} {w : World} {K : Act → World → Prop} {Q : Exit → Act → World → Prop} {f : FuncId} {args : Array Value} {Φ : Ending → World → Prop}
    (hv : (execOp a.eval op).run P w = .ok (.enter f args) w) (hc : Calls P f args w Φ) (h : ∀ e w', Φ e w' → ∃ v, e = .returned v ∧ K (a.put op.dst v) w') : op.wp P a w K Q := by
  unfold Oper.wp
  rw [hv]
  simp only [Oper.upon]
  refine Calls.mono hc fun e w' he => ?_
  obtain ⟨v, rfl, hk⟩ := h e w' he
  exact hk

section
variable {P : Program} {ops : Array Oper} {rest : List Oper} {op : Oper} {a : Act} {w w' : World} {Q : Exit → Act → World → Prop} {v : Value}

theorem wpList_if (hw : Region.wanted op (yielded ops a.tmps) = true) (h : op.wp P a w (wpList P ops Q rest) Q) : wpList P ops Q (op :: rest) a w := by
  rw [wpList, if_pos hw]
  exact .inl h
theorem mv_skip (hw : Region.wanted op (yielded ops a.tmps) = false) (h : wpList P ops Q rest (a.put op.dst undef) w) : wpList P ops Q (op :: rest) a w := by
  rw [wpList, if_neg (by rw [hw]; exact Bool.false_ne_true)]
  exact h
theorem mv_val (hw : Region.wanted op (yielded ops a.tmps) = true) (hv : (execOp a.eval op).run P w = .ok (.value v) w') (h : wpList P ops Q rest (a.put op.dst v) w') : wpList P ops Q (op :: rest) a w :=
  wpList_if hw (by unfold Oper.wp; rw [hv]; exact h)
theorem mv_call {f : FuncId} {args : Array Value} {Φ : Ending → World → Prop} (hw : Region.wanted op (yielded ops a.tmps) = true) (hv : (execOp a.eval op).run P w = .ok (.enter f args) w) (hc : Calls P f args w Φ)
    (h : ∀ e w', Φ e w' → ∃ v, e = .returned v ∧ wpList P ops Q rest (a.put op.dst v) w') : wpList P ops Q (op :: rest) a w := wpList_if hw (wp_call_op hv hc h)
theorem mv_load (hw : Region.wanted op (yielded ops a.tmps) = true) (ty : TypeId) (x : Operand) (ho : op.op = .load ty x) (g : Nat) (t : TypeId) (cs : Array Value) (d : TypeDesc) (hx : a.eval x = .pointer (some ⟨g, 0, none⟩)) (hb : Blk w g t cs)
    (hu : P.underlying ty = some d) (hd : d.isRow = true) (hi : (P.info? ty).map (·.size) = some cs.size) (h : wpList P ops Q rest (a.put op.dst (.agg cs)) w) : wpList P ops Q (op :: rest) a w :=
  wpList_if hw (wp_load_mid ty x ho g 0 hx cs.toList d hb.range hu hd (by simpa using hi) (by simpa using h))
theorem mv_store (hw : Region.wanted op (yielded ops a.tmps) = true) (ty : TypeId) (x y : Operand) (ho : op.op = .store ty x y) (g : Nat) (t : TypeId) (cs0 cs : Array Value) (hx : a.eval x = .pointer (some ⟨g, 0, none⟩)) (hy : a.eval y = .agg cs)
    (hb : Blk w g t cs0) (hl : cs.size = cs0.size) (hi : (P.info? ty).map (·.size) = some cs.size) (h1 : cs.all (·.oneCell') = true)
    (h : wpList P ops Q rest (a.put op.dst undef) (w.setCells g 0 cs.toList)) : wpList P ops Q (op :: rest) a w :=
  wpList_if hw (wp_store_blk ty x y ho g t cs0 cs hx hy hb hl hi h1 h)
theorem Blk.part {w : World} {g : Nat} {t : TypeId} {cs : Array Value} (h : Blk w g t cs) (o n : Nat) : w.rangeAt g o (cs.extract o (o + n)).toList := World.rangeAt_of_block h o n
theorem mv_part (hw : Region.wanted op (yielded ops a.tmps) = true) (ty : TypeId) (x : Operand) (ho : op.op = .load ty x) (g o n : Nat) (t : TypeId) (cs : Array Value) (d : TypeDesc) (hx : a.eval x = .pointer (some ⟨g, o, none⟩)) (hb : Blk w g t cs)
    (hu : P.underlying ty = some d) (hd : d.isRow = true) (hi : (P.info? ty).map (·.size) = some n) (hn : o + n ≤ cs.size) (h : wpList P ops Q rest (a.put op.dst (.agg (cs.extract o (o + n)))) w) : wpList P ops Q (op :: rest) a w :=
  wpList_if hw (wp_load_mid ty x ho g o hx (cs.extract o (o + n)).toList d (hb.part o n) hu hd (by rw [hi]; congr 1; simp; omega) (by rw [Array.toArray_toList]; exact h))
end

section
variable {P : Program} {l : List Oper} {Q : Exit → Act → World → Prop} {md : Region.Mode} {S : World → Prop} {i : Nat} {oi : Oper} {fuel : Nat} {listed listed' : Array Bool} {a : Act} {w w' : World} {v : Value}

theorem stored_one {wb w : World} {T : TypeId} {X1 : Nat} {zs c1 : Array Value} (hn : NoU zs) (hx : Ext wb w) (B1 : Blk w X1 T zs) (z1 : wb.heap.size ≤ X1) (h1 : c1.size = zs.size) :
    Ext wb (w.setCells X1 0 c1.toList) ∧ Blk (w.setCells X1 0 c1.toList) X1 T c1 ∧ (∀ (r : RV) (q : Rat), r.Is w q → r.Is (w.setCells X1 0 c1.toList) q) := by
  have o1 := Own.setCells w X1 c1
  exact ⟨o1.ext hx z1, B1.setCells c1 h1, fun r q h => h.own B1 hn o1⟩
theorem stored_two {wb w : World} {T : TypeId} {X1 X2 : Nat} {zs c1 c2 : Array Value} (hn : NoU zs) (hx : Ext wb w) (B1 : Blk w X1 T zs) (B2 : Blk w X2 T zs) (z1 : wb.heap.size ≤ X1) (z2 : wb.heap.size ≤ X2) (n12 : X1 ≠ X2) (h1 : c1.size = zs.size) (h2 : c2.size = zs.size) :
  Blk (w.setCells X1 0 c1.toList) X2 T zs ∧ Ext wb ((w.setCells X1 0 c1.toList).setCells X2 0 c2.toList) ∧ Blk ((w.setCells X1 0 c1.toList).setCells X2 0 c2.toList) X1 T c1 ∧ Blk ((w.setCells X1 0 c1.toList).setCells X2 0 c2.toList) X2 T c2 ∧ Ext wb (w.setCells X1 0 c1.toList) ∧
  (∀ (r : RV) (q : Rat), r.Is w q → r.Is ((w.setCells X1 0 c1.toList).setCells X2 0 c2.toList) q) := by
 obtain ⟨e1, b1, f1⟩ := stored_one hn hx B1 z1 h1
 have B2' := B2.own (Own.setCells w X1 c1) (Ne.symm n12)
 obtain ⟨e2, b2, f2⟩ := stored_one hn e1 B2' z2 h2
 exact ⟨B2', e2, b1.own (Own.setCells _ X2 c2) n12, b2, e1, fun r q h => f2 r q (f1 r q h)⟩
theorem new_var (w : World) (T : TypeId) (zs cs : Array Value) (hl : cs.size = zs.size) : Ext w ((w.alloc (.cells zs T)).setCells w.heap.size 0 cs.toList) ∧ Blk ((w.alloc (.cells zs T)).setCells w.heap.size 0 cs.toList) w.heap.size T cs :=
  ⟨(Own.setCells _ _ cs).ext ((Ext.refl w).alloc _) (Nat.le_refl _), Blk.setCells (Blk.new_at w _ rfl _ _) cs hl⟩

theorem md_val (hi : l[i]? = some oi) (hs : Region.noSelect l.toArray = true) (hf : Region.free md l.toArray listed i = true) (hr : (Region.ready md l.toArray listed).contains i = true)
    (hQ : ∀ c a w, Q (.panic c) (a.put oi.dst v) w → Q (.panic c) a w) (hw : Region.wanted oi (yielded l.toArray a.tmps) = true) (hv : ∀ w, S w → (execOp a.eval oi).run P w = .ok (.value v) w) (hS : S w)
    (hl : listed.setIfInBounds i true = listed') (h : wpAnyH P md l.toArray Q S fuel listed' (a.put oi.dst v) w) : wpAnyH P md l.toArray Q S (fuel + 1) listed a w :=
  wpAnyH_take_l hi hs hf hr hQ (Or.inl ⟨hw, hv⟩) hS (by rw [hl]; exact h)
theorem md_load (hi : l[i]? = some oi) (hs : Region.noSelect l.toArray = true) (hf : Region.free md l.toArray listed i = true) (hr : (Region.ready md l.toArray listed).contains i = true)
    (ty : TypeId) (x : Operand) (ho : oi.op = .load ty x) (g : Nat) (t : TypeId) (cs : Array Value) (d : TypeDesc)
    (hQ : ∀ c a w, Q (.panic c) (a.put oi.dst (.agg cs)) w → Q (.panic c) a w) (hw : Region.wanted oi (yielded l.toArray a.tmps) = true) (hx : a.eval x = .pointer (some ⟨g, 0, none⟩)) (hb : ∀ w, S w → Blk w g t cs)
    (hu : P.underlying ty = some d) (hd : d.isRow = true) (hz : (P.info? ty).map (·.size) = some cs.size) (hS : S w)
    (hl : listed.setIfInBounds i true = listed') (h : wpAnyH P md l.toArray Q S fuel listed' (a.put oi.dst (.agg cs)) w) : wpAnyH P md l.toArray Q S (fuel + 1) listed a w :=
  wpAnyH_take_l (v := .agg cs) hi hs hf hr hQ (by
    have h2 := yieldsIf_load_mid (P := P) (ops := l.toArray) (S := S) hw ty x ho g 0 hx cs.toList d (fun w hw => (hb w hw).range) hu hd (by simpa using hz)
    simpa using h2) hS (by rw [hl]; exact h)
theorem md_part (hi : l[i]? = some oi) (hs : Region.noSelect l.toArray = true) (hf : Region.free md l.toArray listed i = true) (hr : (Region.ready md l.toArray listed).contains i = true)
    (ty : TypeId) (x : Operand) (ho : oi.op = .load ty x) (g o n : Nat) (t : TypeId) (cs : Array Value) (d : TypeDesc)
    (hQ : ∀ c a w, Q (.panic c) (a.put oi.dst (.agg (cs.extract o (o + n)))) w → Q (.panic c) a w) (hw : Region.wanted oi (yielded l.toArray a.tmps) = true) (hx : a.eval x = .pointer (some ⟨g, o, none⟩)) (hb : ∀ w, S w → Blk w g t cs)
    (hu : P.underlying ty = some d) (hd : d.isRow = true) (hz : (P.info? ty).map (·.size) = some n) (hn : o + n ≤ cs.size) (hS : S w)
    (hl : listed.setIfInBounds i true = listed') (h : wpAnyH P md l.toArray Q S fuel listed' (a.put oi.dst (.agg (cs.extract o (o + n)))) w) : wpAnyH P md l.toArray Q S (fuel + 1) listed a w :=
  wpAnyH_take_l (v := .agg (cs.extract o (o + n))) hi hs hf hr hQ (by
    have h2 := yieldsIf_load_mid (P := P) (ops := l.toArray) (S := S) hw ty x ho g o hx (cs.extract o (o + n)).toList d (fun w hw => (hb w hw).part o n) hu hd (by rw [hz]; congr 1; simp; omega)
    rw [Array.toArray_toList] at h2
    exact h2) hS (by rw [hl]; exact h)
theorem md_skip (hi : l[i]? = some oi) (hs : Region.noSelect l.toArray = true) (hf : Region.free md l.toArray listed i = true) (hr : (Region.ready md l.toArray listed).contains i = true)
    (hQ : ∀ c a w, Q (.panic c) (a.put oi.dst undef) w → Q (.panic c) a w) (hn : Region.wanted oi (yielded l.toArray a.tmps) = false) (hS : S w)
    (hl : listed.setIfInBounds i true = listed') (h : wpAnyH P md l.toArray Q S fuel listed' (a.put oi.dst undef) w) : wpAnyH P md l.toArray Q S (fuel + 1) listed a w :=
  wpAnyH_skip_l hi hs hf hr hQ hn hS (by rw [hl]; exact h)
theorem md_call {f : FuncId} {args : Array Value} {Φ : Ending → World → Prop} (hi : l[i]? = some oi) (hr : Region.ready md l.toArray listed = [i]) (hw : Region.wanted oi (yielded l.toArray a.tmps) = true)
    (hv : (execOp a.eval oi).run P w = .ok (.enter f args) w) (hc : Calls P f args w Φ) (hl : listed.setIfInBounds i true = listed')
    (h : ∀ e w', Φ e w' → ∃ v, e = .returned v ∧ S w' ∧ wpAnyH P md l.toArray Q S fuel listed' (a.put oi.dst v) w') : wpAnyH P md l.toArray Q S (fuel + 1) listed a w :=
  wpAnyH_one_l hi hr (fun K hK => by
    rw [if_pos hw]
    refine wp_call_op hv hc fun e w' he => ?_
    obtain ⟨v, hv, hS, hh⟩ := h e w' he
    exact ⟨v, hv, hK.out _ _ hS (fun _ => by rw [hl]; exact hh)⟩)
theorem md_one (hi : l[i]? = some oi) (hr : Region.ready md l.toArray listed = [i]) (hw : Region.wanted oi (yielded l.toArray a.tmps) = true)
    (hv : (execOp a.eval oi).run P w = .ok (.value v) w') (hS : S w') (hl : listed.setIfInBounds i true = listed')
    (h : wpAnyH P md l.toArray Q S fuel listed' (a.put oi.dst v) w') : wpAnyH P md l.toArray Q S (fuel + 1) listed a w :=
  wpAnyH_one_l hi hr (fun K hK => by
    rw [if_pos hw]
    unfold Oper.wp
    rw [hv]
    exact hK.out _ _ hS (fun _ => by rw [hl]; exact h))
theorem md_store (hi : l[i]? = some oi) (hr : Region.ready md l.toArray listed = [i]) (hg : oi.guard = none) (ty : TypeId) (x y : Operand) (ho : oi.op = .store ty x y)
    (g : Nat) (t : TypeId) (cs0 cs : Array Value) (hx : a.eval x = .pointer (some ⟨g, 0, none⟩)) (hy : a.eval y = .agg cs) (hb : Blk w g t cs0) (hl0 : cs.size = cs0.size)
    (hz : (P.info? ty).map (·.size) = some cs.size) (h1 : cs.all (·.oneCell') = true) (hS : S (w.setCells g 0 cs.toList)) (hl : listed.setIfInBounds i true = listed')
    (h : wpAnyH P md l.toArray Q S fuel listed' (a.put oi.dst undef) (w.setCells g 0 cs.toList)) : wpAnyH P md l.toArray Q S (fuel + 1) listed a w :=
  wpAnyH_store_l hi hr hg ty x y ho g t cs0 cs hx hy hb hl0 hz h1 hS (by rw [hl]; exact h)
theorem md_call_or {f : FuncId} {args : Array Value} {Φ : Ending → World → Prop} {j : Nat} {oj : Oper} {u : Value} {wj : World} {lj : Array Bool} (hi : l[i]? = some oi) (hj : l[j]? = some oj) (hr : Region.ready md l.toArray listed = [i, j])
    (hw : Region.wanted oi (yielded l.toArray a.tmps) = true) (hv : (execOp a.eval oi).run P w = .ok (.enter f args) w) (hc : Calls P f args w Φ) (hl : listed.setIfInBounds i true = listed')
    (hwj : Region.wanted oj (yielded l.toArray a.tmps) = true) (hvj : (execOp a.eval oj).run P w = .ok (.value u) wj) (hSj : S wj) (hlj : listed.setIfInBounds j true = lj)
    (h : ∀ e w', Φ e w' → ∃ v, e = .returned v ∧ S w' ∧ wpAnyH P md l.toArray Q S fuel listed' (a.put oi.dst v) w') (h2 : wpAnyH P md l.toArray Q S fuel lj (a.put oj.dst u) wj) : wpAnyH P md l.toArray Q S (fuel + 1) listed a w :=
  wpAnyH_ready hr (by simp) (AllReadyH.cons (by rw [List.getElem?_toArray]; exact hi) (fun K hK => by
    rw [if_pos hw]
    refine wp_call_op hv hc fun e w' he => ?_
    obtain ⟨v, hv, hS, hh⟩ := h e w' he
    exact ⟨v, hv, hK.out _ _ hS (fun _ => by rw [hl]; exact hh)⟩) (AllReadyH.cons (by rw [List.getElem?_toArray]; exact hj) (fun K hK => by
    rw [if_pos hwj]
    unfold Oper.wp
    rw [hvj]
    exact hK.out _ _ hSj (fun _ => by rw [hlj]; exact h2)) AllReadyH.nil))
theorem md_two {j : Nat} {oj : Oper} {u : Value} {wi wj : World} {lj : Array Bool} (hi : l[i]? = some oi) (hj : l[j]? = some oj) (hr : Region.ready md l.toArray listed = [i, j])
    (hw : Region.wanted oi (yielded l.toArray a.tmps) = true) (hv : (execOp a.eval oi).run P w = .ok (.value v) wi) (hS : S wi) (hl : listed.setIfInBounds i true = listed')
    (hwj : Region.wanted oj (yielded l.toArray a.tmps) = true) (hvj : (execOp a.eval oj).run P w = .ok (.value u) wj) (hSj : S wj) (hlj : listed.setIfInBounds j true = lj)
    (h : wpAnyH P md l.toArray Q S fuel listed' (a.put oi.dst v) wi) (h2 : wpAnyH P md l.toArray Q S fuel lj (a.put oj.dst u) wj) : wpAnyH P md l.toArray Q S (fuel + 1) listed a w :=
  wpAnyH_ready hr (by simp) (AllReadyH.cons (by rw [List.getElem?_toArray]; exact hi) (fun K hK => by
    rw [if_pos hw]
    unfold Oper.wp
    rw [hv]
    exact hK.out _ _ hS (fun _ => by rw [hl]; exact h)) (AllReadyH.cons (by rw [List.getElem?_toArray]; exact hj) (fun K hK => by
    rw [if_pos hwj]
    unfold Oper.wp
    rw [hvj]
    exact hK.out _ _ hSj (fun _ => by rw [hlj]; exact h2)) AllReadyH.nil))
end
theorem Blk.setPart {w : World} {g : Nat} {t : TypeId} {cs : List Value} (h : Blk w g t cs.toArray) (o : Nat) (vs : List Value) (hl : o + vs.length ≤ cs.length) : Blk (w.setCells g o vs) g t (cs.take o ++ vs ++ cs.drop (o + vs.length)).toArray := heap_setCells g vs o w t cs h hl
theorem Blk.therePart {w : World} {g : Nat} {t : TypeId} {cs : List Value} (h : Blk w g t cs.toArray) (o n : Nat) (hl : o + n ≤ cs.length) : w.there g o n := fun j hj => by
  rw [h.cell, h.frozen]
  simp
  omega
theorem run_storeVar_cell {P : Program} (w : World) (b o : Nat) (ty : TypeId) (v : Value) (ht : w.there b o 1) (hi : (P.info? ty).map (·.size) = some 1) (hc : v.cells = #[v]) (h1 : v.oneCell' = true) :
  (storeVar ty ⟨b, o, none⟩ v).run P w = .ok () (w.setCells b o [v]) := by
 have := run_storeCells_cells (P := P) b o [v] 0 w (fun j hj => by simpa using (ht j (by simpa using hj)).1) (fun j hj => by simpa using (ht j (by simpa using hj)).2)
  (fun u hu => by simp at hu; rw [hu]; exact h1)
 cases hq : P.info? ty with
 | none => simp [hq] at hi
 | some i =>
  have hs : i.size = 1 := by simpa [hq] using hi
  simp only [Nat.add_zero] at this
  simp [storeVar, sizeOf, typeInfo, hq, hc, hs, this]
def bl : Nat → Nat → List Bool
  | 0, _ => []
  | n + 1, m => (m % 2 == 1) :: bl n (m / 2)
abbrev bs (n m : Nat) : Array Bool := (bl n m).toArray
theorem mV {P : Program} {l : List Oper} {Q : Exit → Act → World → Prop} {md : Region.Mode} {S : World → Prop} {oi : Oper} {fuel : Nat} {listed : Array Bool} {a : Act} {w : World} {v : Value} (i : Nat) (listed' : Array Bool) (hS : S w) (h : wpAnyH P md l.toArray Q S fuel listed' (a.put oi.dst v) w) (hi : l[i]? = some oi := by rfl) (hs : Region.noSelect l.toArray = true := by kernel_rfl) (hf : Region.free md l.toArray listed i = true := by kernel_rfl) (hr : (Region.ready md l.toArray listed).contains i = true := by kernel_rfl) (hQ : ∀ c a w, Q (.panic c) (a.put oi.dst v) w → Q (.panic c) a w := by intro _ _ _ h; exact h) (hw : Region.wanted oi (yielded l.toArray a.tmps) = true := by rfl) (hv : ∀ w, S w → (execOp a.eval oi).run P w = .ok (.value v) w := by intro w hSw; (try dsimp only at hSw); go_simp <;> with_reducible rfl) (hl : listed.setIfInBounds i true = listed' := by kernel_rfl) : wpAnyH P md l.toArray Q S (fuel + 1) listed a w := md_val hi hs hf hr hQ hw hv hS hl h
theorem mL {P : Program} {l : List Oper} {Q : Exit → Act → World → Prop} {md : Region.Mode} {S : World → Prop} {oi : Oper} {fuel : Nat} {listed : Array Bool} {a : Act} {w : World} (i : Nat) (listed' : Array Bool) {ty : TypeId} {x : Operand} {t : TypeId} {d : TypeDesc} {g : Nat} {cs : Array Value} (hb : ∀ w, S w → Blk w g t cs) (hu : P.underlying ty = some d) (hz : (P.info? ty).map (·.size) = some cs.size) (hS : S w) (h : wpAnyH P md l.toArray Q S fuel listed' (a.put oi.dst (.agg cs)) w) (hi : l[i]? = some oi := by rfl) (hs : Region.noSelect l.toArray = true := by kernel_rfl) (hf : Region.free md l.toArray listed i = true := by kernel_rfl) (hr : (Region.ready md l.toArray listed).contains i = true := by kernel_rfl) (ho : oi.op = .load ty x := by rfl) (hQ : ∀ c a w, Q (.panic c) (a.put oi.dst (.agg cs)) w → Q (.panic c) a w := by intro _ _ _ h; exact h) (hw : Region.wanted oi (yielded l.toArray a.tmps) = true := by rfl) (hx : a.eval x = .pointer (some ⟨g, 0, none⟩) := by rfl) (hd : d.isRow = true := by rfl) (hl : listed.setIfInBounds i true = listed' := by kernel_rfl) : wpAnyH P md l.toArray Q S (fuel + 1) listed a w := md_load hi hs hf hr ty x ho g t cs d hQ hw hx hb hu hd hz hS hl h
theorem mP {P : Program} {l : List Oper} {Q : Exit → Act → World → Prop} {md : Region.Mode} {S : World → Prop} {oi : Oper} {fuel : Nat} {listed : Array Bool} {a : Act} {w : World} (i : Nat) (listed' : Array Bool) {ty : TypeId} {x : Operand} {t : TypeId} {d : TypeDesc} {g : Nat} (o n : Nat) {cs : Array Value} (hb : ∀ w, S w → Blk w g t cs) (hu : P.underlying ty = some d) (hn : o + n ≤ cs.size) (hS : S w) (h : wpAnyH P md l.toArray Q S fuel listed' (a.put oi.dst (.agg (cs.extract o (o + n)))) w) (hi : l[i]? = some oi := by rfl) (hs : Region.noSelect l.toArray = true := by kernel_rfl) (hf : Region.free md l.toArray listed i = true := by kernel_rfl) (hr : (Region.ready md l.toArray listed).contains i = true := by kernel_rfl) (ho : oi.op = .load ty x := by rfl) (hQ : ∀ c a w, Q (.panic c) (a.put oi.dst (.agg (cs.extract o (o + n)))) w → Q (.panic c) a w := by intro _ _ _ h; exact h) (hw : Region.wanted oi (yielded l.toArray a.tmps) = true := by rfl) (hx : a.eval x = .pointer (some ⟨g, o, none⟩) := by rfl) (hd : d.isRow = true := by rfl) (hz : (P.info? ty).map (·.size) = some n := by kernel_rfl) (hl : listed.setIfInBounds i true = listed' := by kernel_rfl) : wpAnyH P md l.toArray Q S (fuel + 1) listed a w := md_part hi hs hf hr ty x ho g o n t cs d hQ hw hx hb hu hd hz hn hS hl h
theorem mC {P : Program} {l : List Oper} {Q : Exit → Act → World → Prop} {md : Region.Mode} {S : World → Prop} {oi : Oper} {fuel : Nat} {listed : Array Bool} {a : Act} {w : World} {f : FuncId} {args : Array Value} {Φ : Ending → World → Prop} (i : Nat) (listed' : Array Bool) (hc : Calls P f args w Φ) (h : ∀ e w', Φ e w' → ∃ v, e = .returned v ∧ S w' ∧ wpAnyH P md l.toArray Q S fuel listed' (a.put oi.dst v) w') (hi : l[i]? = some oi := by rfl) (hr : Region.ready md l.toArray listed = [i] := by kernel_rfl) (hw : Region.wanted oi (yielded l.toArray a.tmps) = true := by rfl) (hv : (execOp a.eval oi).run P w = .ok (.enter f args) w := by go_simp) (hl : listed.setIfInBounds i true = listed' := by kernel_rfl) : wpAnyH P md l.toArray Q S (fuel + 1) listed a w := md_call hi hr hw hv hc hl h
theorem pV {P : Program} {ops : Array Oper} {rest : List Oper} {op : Oper} {a : Act} {w w' : World} {Q : Exit → Act → World → Prop} {v : Value} (h : wpList P ops Q rest (a.put op.dst v) w') (hw : Region.wanted op (yielded ops a.tmps) = true := by rfl) (hv : (execOp a.eval op).run P w = .ok (.value v) w' := by go_simp <;> with_reducible rfl) : wpList P ops Q (op :: rest) a w := mv_val hw hv h
theorem qV {P : Program} {ops : Array Oper} {rest : List Oper} {op : Oper} {a : Act} {w : World} {Q : Exit → Act → World → Prop} (v : Value) (h : wpList P ops Q rest (a.put op.dst v) w) (hw : Region.wanted op (yielded ops a.tmps) = true := by rfl) (hv : (execOp a.eval op).run P w = .ok (.value v) w := by go_simp <;> with_reducible rfl) : wpList P ops Q (op :: rest) a w := mv_val hw hv h
theorem mX {P : Program} {l : List Oper} {Q : Exit → Act → World → Prop} {md : Region.Mode} {S : World → Prop} {oi : Oper} {fuel : Nat} {listed : Array Bool} {a : Act} {w : World} (i : Nat) (listed' : Array Bool) (v : Value) (hS : S w) (h : wpAnyH P md l.toArray Q S fuel listed' (a.put oi.dst v) w) (hi : l[i]? = some oi := by rfl) (hs : Region.noSelect l.toArray = true := by kernel_rfl) (hf : Region.free md l.toArray listed i = true := by kernel_rfl) (hr : (Region.ready md l.toArray listed).contains i = true := by kernel_rfl) (hQ : ∀ c a w, Q (.panic c) (a.put oi.dst v) w → Q (.panic c) a w := by intro _ _ _ h; exact h) (hw : Region.wanted oi (yielded l.toArray a.tmps) = true := by rfl) (hv : ∀ w, S w → (execOp a.eval oi).run P w = .ok (.value v) w := by intro w hSw; go_simp <;> with_reducible rfl) (hl : listed.setIfInBounds i true = listed' := by kernel_rfl) : wpAnyH P md l.toArray Q S (fuel + 1) listed a w := md_val hi hs hf hr hQ hw hv hS hl h
abbrev z4 : Array Value := #[.bool false, .slice none 0 0, .bool false, .slice none 0 0]
abbrev z8 : Array Value := #[.bool false, .slice none 0 0, .bool false, .slice none 0 0, .bool false, .slice none 0 0, .bool false, .slice none 0 0]
theorem mU {P : Program} {l : List Oper} {Q : Exit → Act → World → Prop} {md : Region.Mode} {S : World → Prop} {oi : Oper} {fuel : Nat} {listed : Array Bool} {a : Act} {w : World} {w' : World} {v : Value} (i : Nat) (listed' : Array Bool) (hS : S w') (h : wpAnyH P md l.toArray Q S fuel listed' (a.put oi.dst v) w') (hi : l[i]? = some oi := by rfl) (hr : Region.ready md l.toArray listed = [i] := by kernel_rfl) (hw : Region.wanted oi (yielded l.toArray a.tmps) = true := by rfl) (hv : (execOp a.eval oi).run P w = .ok (.value v) w' := by go_simp) (hl : listed.setIfInBounds i true = listed' := by kernel_rfl) : wpAnyH P md l.toArray Q S (fuel + 1) listed a w := md_one hi hr hw hv hS hl h
theorem mB {P : Program} {l : List Oper} {Q : Exit → Act → World → Prop} {md : Region.Mode} {S : World → Prop} {oi : Oper} {fuel : Nat} {listed : Array Bool} {a : Act} {w : World} {f : FuncId} {args : Array Value} {Φ : Ending → World → Prop} {oj : Oper} {u : Value} {wj : World} (i j : Nat) (listed' lj : Array Bool) (hc : Calls P f args w Φ) (hSj : S wj) (h : ∀ e w', Φ e w' → ∃ v, e = .returned v ∧ S w' ∧ wpAnyH P md l.toArray Q S fuel listed' (a.put oi.dst v) w') (h2 : wpAnyH P md l.toArray Q S fuel lj (a.put oj.dst u) wj) (hi : l[i]? = some oi := by rfl) (hj : l[j]? = some oj := by rfl) (hr : Region.ready md l.toArray listed = [i, j] := by kernel_rfl) (hw : Region.wanted oi (yielded l.toArray a.tmps) = true := by rfl) (hv : (execOp a.eval oi).run P w = .ok (.enter f args) w := by go_simp) (hl : listed.setIfInBounds i true = listed' := by kernel_rfl) (hwj : Region.wanted oj (yielded l.toArray a.tmps) = true := by rfl) (hvj : (execOp a.eval oj).run P w = .ok (.value u) wj := by go_simp) (hlj : listed.setIfInBounds j true = lj := by kernel_rfl) : wpAnyH P md l.toArray Q S (fuel + 1) listed a w := md_call_or hi hj hr hw hv hc hl hwj hvj hSj hlj h h2
theorem mO {P : Program} {l : List Oper} {Q : Exit → Act → World → Prop} {md : Region.Mode} {S : World → Prop} {oi : Oper} {fuel : Nat} {listed : Array Bool} {a : Act} {w : World} (i : Nat) (listed' : Array Bool) {ty : TypeId} {x y : Operand} {g : Nat} {t : TypeId} {cs0 : Array Value} (cs : Array Value) (hb : Blk w g t cs0) (hl0 : cs.size = cs0.size) (hz : (P.info? ty).map (·.size) = some cs.size) (h1 : cs.all (·.oneCell') = true) (hS : S (w.setCells g 0 cs.toList)) (h : wpAnyH P md l.toArray Q S fuel listed' (a.put oi.dst undef) (w.setCells g 0 cs.toList)) (hi : l[i]? = some oi := by rfl) (hr : Region.ready md l.toArray listed = [i] := by kernel_rfl) (hg : oi.guard = none := by rfl) (ho : oi.op = .store ty x y := by rfl) (hx : a.eval x = .pointer (some ⟨g, 0, none⟩) := by rfl) (hy : a.eval y = .agg cs := by rfl) (hl : listed.setIfInBounds i true = listed' := by kernel_rfl) : wpAnyH P md l.toArray Q S (fuel + 1) listed a w := md_store hi hr hg ty x y ho g t cs0 cs hx hy hb hl0 hz h1 hS hl h
theorem pL {P : Program} {ops : Array Oper} {rest : List Oper} {op : Oper} {a : Act} {w : World} {Q : Exit → Act → World → Prop} {ty : TypeId} {x : Operand} {g : Nat} {t : TypeId} {cs : Array Value} {d : TypeDesc} (hb : Blk w g t cs) (hu : P.underlying ty = some d) (hi : (P.info? ty).map (·.size) = some cs.size) (h : wpList P ops Q rest (a.put op.dst (.agg cs)) w) (hw : Region.wanted op (yielded ops a.tmps) = true := by rfl) (ho : op.op = .load ty x := by rfl) (hx : a.eval x = .pointer (some ⟨g, 0, none⟩) := by rfl) (hd : d.isRow = true := by rfl) : wpList P ops Q (op :: rest) a w := mv_load hw ty x ho g t cs d hx hb hu hd hi h
theorem pP {P : Program} {ops : Array Oper} {rest : List Oper} {op : Oper} {a : Act} {w : World} {Q : Exit → Act → World → Prop} {ty : TypeId} {x : Operand} {g : Nat} (o n : Nat) {t : TypeId} {cs : Array Value} {d : TypeDesc} (hb : Blk w g t cs) (hu : P.underlying ty = some d) (hn : o + n ≤ cs.size) (h : wpList P ops Q rest (a.put op.dst (.agg (cs.extract o (o + n)))) w) (hw : Region.wanted op (yielded ops a.tmps) = true := by rfl) (ho : op.op = .load ty x := by rfl) (hx : a.eval x = .pointer (some ⟨g, o, none⟩) := by rfl) (hd : d.isRow = true := by rfl) (hi : (P.info? ty).map (·.size) = some n := by kernel_rfl) : wpList P ops Q (op :: rest) a w := mv_part hw ty x ho g o n t cs d hx hb hu hd hi hn h
theorem pO {P : Program} {ops : Array Oper} {rest : List Oper} {op : Oper} {a : Act} {w : World} {Q : Exit → Act → World → Prop} {ty : TypeId} {x y : Operand} {g : Nat} {t : TypeId} {cs0 : Array Value} (cs : Array Value) (hb : Blk w g t cs0) (hl : cs.size = cs0.size) (hi : (P.info? ty).map (·.size) = some cs.size) (h1 : cs.all (·.oneCell') = true) (h : wpList P ops Q rest (a.put op.dst undef) (w.setCells g 0 cs.toList)) (hw : Region.wanted op (yielded ops a.tmps) = true := by rfl) (ho : op.op = .store ty x y := by rfl) (hx : a.eval x = .pointer (some ⟨g, 0, none⟩) := by rfl) (hy : a.eval y = .agg cs := by rfl) : wpList P ops Q (op :: rest) a w := mv_store hw ty x y ho g t cs0 cs hx hy hb hl hi h1 h
theorem tr {a b c : World} (h : Hid (Ext a b)) (k : Hid (Ext b c)) : Hid (Ext a c) := zH (h.out.trans k.out)
end Go.Proofs.YtmgibncehlpfkaaGreat

namespace Go.Proofs.YtmgibncehlpfkaaGreat
open Go.RowKit

def NoUL (l : List Value) : Prop := ∀ x ∈ l, ∀ k : Int, x ≠ .int .u32 k
theorem NoUL.app {a b : List Value} (h : NoUL a) (k : NoUL b) : NoUL (a ++ b) := fun x hx => by
  rcases List.mem_append.1 hx with hx | hx
  · exact h x hx
  · exact k x hx
theorem NoUL.left {a b : List Value} (h : NoUL (a ++ b)) : NoUL a := fun x hx => h x (List.mem_append_left _ hx)
theorem NoUL.right {a b : List Value} (h : NoUL (a ++ b)) : NoUL b := fun x hx => h x (List.mem_append_right _ hx)
theorem NoUL.drop {a : List Value} (h : NoUL a) (n : Nat) : NoUL (a.drop n) := fun x hx => h x (List.mem_of_mem_drop hx)
theorem NoUL.arr {a : List Value} (h : NoUL a) : NoU a.toArray := noU_of _ h
theorem noUL_zero (z : Array Value) (n : Nat) (hs : 0 < z.size) (h : NoUL z.toList) : NoUL (Builtin.zeroCells z n).toList := by
  intro x hx k
  unfold Builtin.zeroCells at hx
  simp only [Array.toList_map, List.mem_map] at hx
  obtain ⟨i, _, rfl⟩ := hx
  have hlt : i % z.size < z.size := Nat.mod_lt _ hs
  rw [getElem!_pos z _ hlt]
  exact h _ (by simp) k

def RowN (w : World) (base : Nat) (e : TypeId) (size : Nat) (v : Value) (n : Nat) (xs : List Value) : Prop :=
  xs.length = n * size ∧ (v = .slice none 0 0 ∧ n = 0 ∨
    ∃ g cap rest, v = .slice (some ⟨g, 0, none⟩) n cap ∧ base ≤ g ∧ Blk w g e (xs ++ rest).toArray ∧ n ≤ cap ∧ cap ≤ maxLen ∧ xs.length + rest.length = cap * size ∧ NoUL (xs ++ rest))

theorem RowN.nil (w : World) (base : Nat) (e : TypeId) (size : Nat) : RowN w base e size (.slice none 0 0) 0 [] := ⟨by simp, .inl ⟨rfl, rfl⟩⟩
theorem RowN.empty (w : World) (base : Nat) (e : TypeId) (size : Nat) (hb : base ≤ w.heap.size) : RowN (w.alloc (.cells #[] e)) base e size (.slice (some ⟨w.heap.size, 0, none⟩) 0 0) 0 [] :=
  ⟨by simp, .inr ⟨w.heap.size, 0, [], rfl, hb, Blk.new w e #[], Nat.le_refl _, Nat.zero_le _, by simp, by intro x hx; simp at hx⟩⟩
theorem RowN.ext {w w' : World} {base : Nat} {e : TypeId} {size : Nat} {v : Value} {n : Nat} {xs : List Value} (h : RowN w base e size v n xs) (x : Ext w w') : RowN w' base e size v n xs := by
  obtain ⟨h1, h2 | ⟨g, cap, rest, a, b, c, d⟩⟩ := h
  · exact ⟨h1, .inl h2⟩
  · exact ⟨h1, .inr ⟨g, cap, rest, a, b, c.ext x, d⟩⟩
theorem RowN.block {w : World} {base : Nat} {e : TypeId} {size : Nat} {v : Value} {n : Nat} {xs : List Value} (h : RowN w base e size v n xs) : ∀ k, v.ownBlock = some k → base ≤ k := by
  intro k hk
  obtain ⟨h1, ⟨rfl, _⟩ | ⟨g, cap, rest, rfl, b, _⟩⟩ := h
  · simp [Value.ownBlock] at hk
  · simp [Value.ownBlock] at hk; omega
theorem RowN.own {w w' : World} {base : Nat} {e : TypeId} {size : Nat} {v : Value} {n : Nat} {xs : List Value} (h : RowN w base e size v n xs) {X : Nat} (o : Own X w w') (hne : ∀ k, v.ownBlock = some k → k ≠ X) : RowN w' base e size v n xs := by
  obtain ⟨h1, h2 | ⟨g, cap, rest, rfl, b, c, d⟩⟩ := h
  · exact ⟨h1, .inl h2⟩
  · exact ⟨h1, .inr ⟨g, cap, rest, rfl, b, c.own o (hne g (by simp [Value.ownBlock])), d⟩⟩

theorem own_setRow (w : World) (g : Nat) (cs : Array Value) : Own g w (w.setRow g cs) :=
  ⟨rfl, rfl, rfl, by simp, fun k _ hk => setRow_other w g k _ (fun e => hk (by rw [e]))⟩

theorem run_append_rowN {P : Program} (w : World) (base : Nat) (t ty e : TypeId) (i : TypeInfo) (z : Value) (size bytes : Nat) (ht : P.underlying t = some (.slice e)) (hi : P.info? e = some i) (hz : i.zero = some z)
    (hsize : i.size = size) (hby : i.bytes = bytes) (hzs : z.cells.size = size) (hsz : 0 < size) (hzu : NoUL z.cells.toList)
    (v : Value) (n : Nat) (xs : List Value) (hown : RowN w base e size v n xs)
    (a : Addr) (m c : Nat) (news : List Value) (hl : news.length = m * size) (hnews : ∀ j u, news[j]? = some u → w.cell? (a.add j) = some u) (h1 : ∀ u ∈ news, u.oneCell' = true) (hnu : NoUL news)
    (hm : 0 < m) (h63 : n + m ≤ maxLen) (hbytes : (n + m) * bytes ≤ 140737488355328) (hbase : base ≤ w.heap.size) :
    ∃ v' w', (Builtin.append_ #[t, t] ty #[v, .slice (some a) m c]).run P w = .ok v' w' ∧ RowN w' base e size v' (n + m) (xs ++ news) ∧ w.grownBy w' v.ownBlock ∧
      (∀ (r : RV) (q : Rat), r.Is w q → r.Is w' q) ∧ ∃ g cap, v' = .slice (some ⟨g, 0, none⟩) (n + m) cap ∧ (v.ownBlock = some g ∨ w.heap.size ≤ g) := by
  subst hsize
  subst hby
  have hsmall : n + m ≤ 9223372036854775807 := by simp only [maxLen] at h63; omega
  have hlen : (xs ++ news).length = (n + m) * i.size := by rw [List.length_append, hown.1, hl, Nat.add_mul]
  have hzc : ∀ k, NoUL (Builtin.zeroCells z.cells k).toList := fun k => noUL_zero _ _ (by omega) hzu
  have grown : ∀ (old : Nat), old < n + m → NoUL xs → ∀ (row : Option Nat),
      RowN (w.drew.alloc (.cells (xs.toArray ++ news.toArray ++ Builtin.zeroCells z.cells (grownCap w (n + m) old e - (n + m))) e)) base e i.size
        (.slice (some ⟨w.heap.size, 0, none⟩) (n + m) (grownCap w (n + m) old e)) (n + m) (xs ++ news) ∧
      w.grownBy (w.drew.alloc (.cells (xs.toArray ++ news.toArray ++ Builtin.zeroCells z.cells (grownCap w (n + m) old e - (n + m))) e)) row ∧
      Ext w (w.drew.alloc (.cells (xs.toArray ++ news.toArray ++ Builtin.zeroCells z.cells (grownCap w (n + m) old e - (n + m))) e)) := by
    intro old ho hxu row
    have hge := grownCap_ge w (n + m) old e
    have hcm : grownCap w (n + m) old e ≤ maxLen := grownCap_le_maxLen w (n + m) old e h63
    refine ⟨⟨hlen, .inr ⟨w.heap.size, _, (Builtin.zeroCells z.cells (grownCap w (n + m) old e - (n + m))).toList, rfl, hbase, ?_, hge, hcm, ?_, (hxu.app hnu).app (hzc _)⟩⟩, ⟨rfl, rfl, rfl, by simp, fun k hk _ => Below.heap_alloc w.drew _ k hk⟩, ((Ext.refl w).drew).alloc _⟩
    · have h := Blk.new w.drew e (xs.toArray ++ news.toArray ++ Builtin.zeroCells z.cells (grownCap w (n + m) old e - (n + m)))
      have e2 : (xs ++ news ++ (Builtin.zeroCells z.cells (grownCap w (n + m) old e - (n + m))).toList).toArray = xs.toArray ++ news.toArray ++ Builtin.zeroCells z.cells (grownCap w (n + m) old e - (n + m)) := by
        apply Array.ext'; simp
      rw [e2]
      exact h
    · rw [hlen, Array.length_toList, size_zeroCells, hzs, ← Nat.add_mul]
      congr 1
      omega
  rcases hown.2 with ⟨rfl, rfl⟩ | ⟨g, cap, rest, rfl, hbg, hg, hnc, hcm, hcs, hnr⟩
  · have hx : xs = [] := List.eq_nil_of_length_eq_zero (by simpa using hown.1)
    subst hx
    have hr := run_append_nil (P := P) w t ty e i z ht hi hz a m c news hl hnews (by omega) (by omega) (by have hb := hbytes; simp only [Nat.zero_add] at hb; omega)
    have hgr := grown 0 (by omega) (by intro x hx; simp at hx) (Value.ownBlock (.slice none 0 0))
    simp only [Nat.zero_add, List.nil_append, Array.empty_append] at hgr ⊢
    exact ⟨_, _, hr, hgr.1, hgr.2.1, fun r q h => h.ext hgr.2.2, _, _, rfl, .inr (Nat.le_refl _)⟩
  · by_cases hroom : n + m ≤ cap
    · have hcur : (xs ++ rest).toArray.size = cap * i.size := by simp [hcs]
      have hfit : n * i.size + news.length ≤ (xs ++ rest).toArray.size := by rw [hl, hcur, ← Nat.add_mul]; exact Nat.mul_le_mul_right _ hroom
      have hr := run_append_room (P := P) w t ty e i ht hi g n cap _ hg a m c news hl hnews h1 hroom hfit
      have ho := own_setRow w g ((xs ++ rest).toArray.toList.take (n * i.size) ++ news ++ (xs ++ rest).toArray.toList.drop (n * i.size + news.length)).toArray
      have e1 : (xs ++ rest).toArray.toList.take (n * i.size) = xs := by rw [List.toList_toArray, ← hown.1]; exact List.take_left
      have e2 : (xs ++ rest).toArray.toList.drop (n * i.size + news.length) = rest.drop news.length := by
        rw [List.toList_toArray, ← hown.1, List.drop_append, List.drop_of_length_le (by omega), List.nil_append]
        congr 1
        omega
      rw [e1, e2] at hr ho
      refine ⟨_, _, hr, ⟨hlen, .inr ⟨g, cap, rest.drop news.length, rfl, hbg, setRow_heap w g _ _ e _ hg, hroom, hcm, ?_, (hnr.left.app hnu).app (hnr.right.drop _)⟩⟩, ?_, fun r q h => h.own hg hnr.arr ho, _, _, rfl, .inl (by simp [Value.ownBlock])⟩
      · rw [List.length_append, List.length_drop]
        have h5 : (xs ++ rest).toArray.size = xs.length + rest.length := by simp
        have h6 := hown.1
        omega
      · exact ho
    · have holds : ∀ j u, xs[j]? = some u → w.cell? ((⟨g, 0, none⟩ : Addr).add j) = some u := by
        intro j u hj
        have e3 : (⟨g, 0, none⟩ : Addr).add j = ⟨g, j, none⟩ := by unfold Addr.add; split <;> simp_all
        rw [e3, hg.cell j, List.getElem?_toArray, List.getElem?_append_left (List.getElem?_eq_some_iff.1 hj).1]
        exact hj
      have hr := run_append_grow (P := P) w t ty e i z ht hi hz ⟨g, 0, none⟩ n cap xs hown.1 holds a m c news hl hnews (by omega) (by omega) (growslice_fits (by omega) hbytes)
      have hgr := grown cap (by omega) hnr.left (Value.ownBlock (.slice (some ⟨g, 0, none⟩) n cap))
      exact ⟨_, _, hr, hgr.1, hgr.2.1, fun r q h => h.ext hgr.2.2, _, _, rfl, .inr (Nat.le_refl _)⟩

theorem wp_append_rowF {P : Program} {w : World} {o : Oper} {a : Act} {K : Act → World → Prop} {Q : Exit → Act → World → Prop} (s x : Operand) (t : TypeId)
    (ho : o.op = .call { callee := .builtin .append, args := #[s, x], argTypes := #[t, t] })
    (base : Nat) (e : TypeId) (i : TypeInfo) (z : Value) (size bytes : Nat) (ht : P.underlying t = some (.slice e)) (hi : P.info? e = some i) (hz : i.zero = some z)
    (hsize : i.size = size) (hby : i.bytes = bytes) (hzs : z.cells.size = size) (hsz : 0 < size) (hzu : NoUL z.cells.toList)
    (v : Value) (n : Nat) (xs : List Value) (hs : a.eval s = v) (hown : RowN w base e size v n xs)
    (ad : Addr) (m c : Nat) (news : List Value) (hx : a.eval x = .slice (some ad) m c) (hl : news.length = m * size) (hnews : ∀ j u, news[j]? = some u → w.cell? (ad.add j) = some u) (h1 : ∀ u ∈ news, u.oneCell' = true) (hnu : NoUL news)
    (hm : 0 < m) (h63 : n + m ≤ maxLen) (hbytes : (n + m) * bytes ≤ 140737488355328) (hbase : base ≤ w.heap.size)
    (h : ∀ g cap w', (v.ownBlock = some g ∨ w.heap.size ≤ g) → RowN w' base e size (.slice (some ⟨g, 0, none⟩) (n + m) cap) (n + m) (xs ++ news) → w.grownBy w' v.ownBlock → (∀ (r : RV) (q : Rat), r.Is w q → r.Is w' q) → K (a.put o.dst (.slice (some ⟨g, 0, none⟩) (n + m) cap)) w') : o.wp P a w K Q := by
  obtain ⟨v', w', hr, h2, h3, h4, g, cap, rfl, hf⟩ := run_append_rowN (P := P) w base t o.type e i z size bytes ht hi hz hsize hby hzs hsz hzu v n xs hown ad m c news hl hnews h1 hnu hm h63 hbytes hbase
  unfold Oper.wp execOp
  simp only [ho, resolve, invoke, builtin, Sem.run_bind, Sem.run_pure, Result.andThen_ok, List.map_toArray, List.map_cons, List.map_nil, hs, hx, hr]
  exact h g cap w' hf h2 h3 h4
theorem md_range {P : Program} {l : List Oper} {Q : Exit → Act → World → Prop} {md : Region.Mode} {S : World → Prop} {i : Nat} {oi : Oper} {fuel : Nat} {listed listed' : Array Bool} {a : Act} {w : World}
    (hi : l[i]? = some oi) (hs : Region.noSelect l.toArray = true) (hf : Region.free md l.toArray listed i = true) (hr : (Region.ready md l.toArray listed).contains i = true)
    (ty : TypeId) (x : Operand) (ho : oi.op = .load ty x) (g o : Nat) (cs : List Value) (d : TypeDesc)
    (hQ : ∀ c a w, Q (.panic c) (a.put oi.dst (.agg cs.toArray)) w → Q (.panic c) a w) (hw : Region.wanted oi (yielded l.toArray a.tmps) = true) (hx : a.eval x = .pointer (some ⟨g, o, none⟩)) (hb : ∀ w, S w → w.rangeAt g o cs)
    (hu : P.underlying ty = some d) (hd : d.isRow = true) (hz : (P.info? ty).map (·.size) = some cs.length) (hS : S w)
    (hl : listed.setIfInBounds i true = listed') (h : wpAnyH P md l.toArray Q S fuel listed' (a.put oi.dst (.agg cs.toArray)) w) : wpAnyH P md l.toArray Q S (fuel + 1) listed a w :=
  wpAnyH_take_l (v := .agg cs.toArray) hi hs hf hr hQ (yieldsIf_load_mid (P := P) (ops := l.toArray) (S := S) hw ty x ho g o hx cs d hb hu hd hz) hS (by rw [hl]; exact h)

theorem md_appendF {P : Program} {l : List Oper} {Q : Exit → Act → World → Prop} {md : Region.Mode} {S : World → Prop} {j : Nat} {oi : Oper} {fuel : Nat} {listed listed' : Array Bool} {a : Act} {w : World}
    (hj : l[j]? = some oi) (hr : Region.ready md l.toArray listed = [j]) (hw : Region.wanted oi (yielded l.toArray a.tmps) = true) (s x : Operand) (t : TypeId)
    (ho : oi.op = .call { callee := .builtin .append, args := #[s, x], argTypes := #[t, t] })
    (base : Nat) (e : TypeId) (i : TypeInfo) (z : Value) (size bytes : Nat) (ht : P.underlying t = some (.slice e)) (hi : P.info? e = some i) (hz : i.zero = some z)
    (hsize : i.size = size) (hby : i.bytes = bytes) (hzs : z.cells.size = size) (hsz : 0 < size) (hzu : NoUL z.cells.toList)
    (v : Value) (n : Nat) (xs : List Value) (hs : a.eval s = v) (hown : RowN w base e size v n xs)
    (ad : Addr) (m c : Nat) (news : List Value) (hx : a.eval x = .slice (some ad) m c) (hl : news.length = m * size) (hnews : ∀ j u, news[j]? = some u → w.cell? (ad.add j) = some u) (h1 : ∀ u ∈ news, u.oneCell' = true) (hnu : NoUL news)
    (hm : 0 < m) (h63 : n + m ≤ maxLen) (hbytes : (n + m) * bytes ≤ 140737488355328) (hbase : base ≤ w.heap.size) (hl' : listed.setIfInBounds j true = listed')
    (h : ∀ g cap w', (v.ownBlock = some g ∨ w.heap.size ≤ g) → RowN w' base e size (.slice (some ⟨g, 0, none⟩) (n + m) cap) (n + m) (xs ++ news) → w.grownBy w' v.ownBlock → (∀ (r : RV) (q : Rat), r.Is w q → r.Is w' q) →
      S w' ∧ wpAnyH P md l.toArray Q S fuel listed' (a.put oi.dst (.slice (some ⟨g, 0, none⟩) (n + m) cap)) w') : wpAnyH P md l.toArray Q S (fuel + 1) listed a w :=
  wpAnyH_one_l hj hr (fun K hK => by
    rw [if_pos hw]
    refine wp_append_rowF s x t ho base e i z size bytes ht hi hz hsize hby hzs hsz hzu v n xs hs hown ad m c news hx hl hnews h1 hnu hm h63 hbytes hbase fun g cap w' hf h2 h3 h4 => ?_
    obtain ⟨k1, k2⟩ := h g cap w' hf h2 h3 h4
    exact hK.out _ _ k1 (fun _ => by rw [hl']; exact k2))
theorem Blk.grown {w w' : World} {b : Nat} {t : TypeId} {cs : Array Value} {row : Option Nat} (h : Blk w b t cs) (hg : w.grownBy w' row) (hne : row ≠ some b) : Blk w' b t cs := by
  unfold Blk
  rw [hg.block b h.lt (Ne.symm hne)]
  exact h
theorem mR {P : Program} {l : List Oper} {Q : Exit → Act → World → Prop} {md : Region.Mode} {S : World → Prop} {oi : Oper} {fuel : Nat} {listed : Array Bool} {a : Act} {w : World} (i : Nat) (listed' : Array Bool) {ty : TypeId} {x : Operand} {d : TypeDesc} (g o : Nat) (cs : List Value) (hb : ∀ w, S w → w.rangeAt g o cs) (hu : P.underlying ty = some d) (hS : S w) (h : wpAnyH P md l.toArray Q S fuel listed' (a.put oi.dst (.agg cs.toArray)) w) (hi : l[i]? = some oi := by rfl) (hs : Region.noSelect l.toArray = true := by kernel_rfl) (hf : Region.free md l.toArray listed i = true := by kernel_rfl) (hr : (Region.ready md l.toArray listed).contains i = true := by kernel_rfl) (ho : oi.op = .load ty x := by rfl) (hQ : ∀ c a w, Q (.panic c) (a.put oi.dst (.agg cs.toArray)) w → Q (.panic c) a w := by intro _ _ _ h; exact h) (hw : Region.wanted oi (yielded l.toArray a.tmps) = true := by rfl) (hx : a.eval x = .pointer (some ⟨g, o, none⟩) := by rfl) (hd : d.isRow = true := by rfl) (hz : (P.info? ty).map (·.size) = some cs.length := by kernel_rfl) (hl : listed.setIfInBounds i true = listed' := by kernel_rfl) : wpAnyH P md l.toArray Q S (fuel + 1) listed a w := md_range hi hs hf hr ty x ho g o cs d hQ hw hx hb hu hd hz hS hl h
theorem zx {a' : Act} {P : Program} {l : List Oper} {Q : Exit → Act → World → Prop} {md : Region.Mode} {S : World → Prop} {oi : Oper} {fuel : Nat} {listed : Array Bool} {a : Act} {w : World} (i : Nat) (listed' : Array Bool) (v : Value) (hS : S w) (h : wpAnyH P md l.toArray Q S fuel listed' a' w) (hi : l[i]? = some oi := by rfl) (hs : Region.noSelect l.toArray = true := by kernel_rfl) (hf : Region.free md l.toArray listed i = true := by kernel_rfl) (hr : (Region.ready md l.toArray listed).contains i = true := by kernel_rfl) (hQ : ∀ c a w, Q (.panic c) (a.put oi.dst v) w → Q (.panic c) a w := by intro _ _ _ h; exact h) (hw : Region.wanted oi (yielded l.toArray a.tmps) = true := by rfl) (hv : ∀ w, S w → (execOp a.eval oi).run P w = .ok (.value v) w := by intro w hSw; go_simp <;> with_reducible rfl) (hl : listed.setIfInBounds i true = listed' := by kernel_rfl) (ha : a.put oi.dst v = a' := by simp only [Act.put, zA, zB, zC] <;> rfl) : wpAnyH P md l.toArray Q S (fuel + 1) listed a w := by subst ha; exact md_val hi hs hf hr hQ hw hv hS hl h
theorem zv {a' : Act} {P : Program} {l : List Oper} {Q : Exit → Act → World → Prop} {md : Region.Mode} {S : World → Prop} {oi : Oper} {fuel : Nat} {listed : Array Bool} {a : Act} {w : World} {v : Value} (i : Nat) (listed' : Array Bool) (hS : S w) (h : wpAnyH P md l.toArray Q S fuel listed' a' w) (hi : l[i]? = some oi := by rfl) (hs : Region.noSelect l.toArray = true := by kernel_rfl) (hf : Region.free md l.toArray listed i = true := by kernel_rfl) (hr : (Region.ready md l.toArray listed).contains i = true := by kernel_rfl) (hQ : ∀ c a w, Q (.panic c) (a.put oi.dst v) w → Q (.panic c) a w := by intro _ _ _ h; exact h) (hw : Region.wanted oi (yielded l.toArray a.tmps) = true := by rfl) (hv : ∀ w, S w → (execOp a.eval oi).run P w = .ok (.value v) w := by intro w hSw; (try dsimp only at hSw); go_simp <;> with_reducible rfl) (hl : listed.setIfInBounds i true = listed' := by kernel_rfl) (ha : a.put oi.dst v = a' := by simp only [Act.put, zA, zB, zC] <;> rfl) : wpAnyH P md l.toArray Q S (fuel + 1) listed a w := by subst ha; exact md_val hi hs hf hr hQ hw hv hS hl h
theorem zs {a' : Act} {P : Program} {l : List Oper} {Q : Exit → Act → World → Prop} {md : Region.Mode} {S : World → Prop} {oi : Oper} {fuel : Nat} {listed : Array Bool} {a : Act} {w : World} (i : Nat) (listed' : Array Bool) (hS : S w) (h : wpAnyH P md l.toArray Q S fuel listed' a' w) (hi : l[i]? = some oi := by rfl) (hs : Region.noSelect l.toArray = true := by kernel_rfl) (hf : Region.free md l.toArray listed i = true := by kernel_rfl) (hr : (Region.ready md l.toArray listed).contains i = true := by kernel_rfl) (hQ : ∀ c a w, Q (.panic c) (a.put oi.dst undef) w → Q (.panic c) a w := by intro _ _ _ h; exact h) (hn : Region.wanted oi (yielded l.toArray a.tmps) = false := by rfl) (hl : listed.setIfInBounds i true = listed' := by kernel_rfl) (ha : a.put oi.dst undef = a' := by simp only [Act.put, zA, zB, zC] <;> rfl) : wpAnyH P md l.toArray Q S (fuel + 1) listed a w := by subst ha; exact md_skip hi hs hf hr hQ hn hS hl h
theorem zl {a' : Act} {P : Program} {l : List Oper} {Q : Exit → Act → World → Prop} {md : Region.Mode} {S : World → Prop} {oi : Oper} {fuel : Nat} {listed : Array Bool} {a : Act} {w : World} (i : Nat) (listed' : Array Bool) {ty : TypeId} {x : Operand} {t : TypeId} {d : TypeDesc} {g : Nat} {cs : Array Value} (hb : ∀ w, S w → Blk w g t cs) (hu : P.underlying ty = some d) (hz : (P.info? ty).map (·.size) = some cs.size) (hS : S w) (h : wpAnyH P md l.toArray Q S fuel listed' a' w) (hi : l[i]? = some oi := by rfl) (hs : Region.noSelect l.toArray = true := by kernel_rfl) (hf : Region.free md l.toArray listed i = true := by kernel_rfl) (hr : (Region.ready md l.toArray listed).contains i = true := by kernel_rfl) (ho : oi.op = .load ty x := by rfl) (hQ : ∀ c a w, Q (.panic c) (a.put oi.dst (.agg cs)) w → Q (.panic c) a w := by intro _ _ _ h; exact h) (hw : Region.wanted oi (yielded l.toArray a.tmps) = true := by rfl) (hx : a.eval x = .pointer (some ⟨g, 0, none⟩) := by rfl) (hd : d.isRow = true := by rfl) (hl : listed.setIfInBounds i true = listed' := by kernel_rfl) (ha : a.put oi.dst (.agg cs) = a' := by simp only [Act.put, zA, zB, zC] <;> rfl) : wpAnyH P md l.toArray Q S (fuel + 1) listed a w := by subst ha; exact md_load hi hs hf hr ty x ho g t cs d hQ hw hx hb hu hd hz hS hl h
theorem zr {a' : Act} {P : Program} {l : List Oper} {Q : Exit → Act → World → Prop} {md : Region.Mode} {S : World → Prop} {oi : Oper} {fuel : Nat} {listed : Array Bool} {a : Act} {w : World} (i : Nat) (listed' : Array Bool) {ty : TypeId} {x : Operand} {d : TypeDesc} (g o : Nat) (cs : List Value) (hb : ∀ w, S w → w.rangeAt g o cs) (hu : P.underlying ty = some d) (hS : S w) (h : wpAnyH P md l.toArray Q S fuel listed' a' w) (hi : l[i]? = some oi := by rfl) (hs : Region.noSelect l.toArray = true := by kernel_rfl) (hf : Region.free md l.toArray listed i = true := by kernel_rfl) (hr : (Region.ready md l.toArray listed).contains i = true := by kernel_rfl) (ho : oi.op = .load ty x := by rfl) (hQ : ∀ c a w, Q (.panic c) (a.put oi.dst (.agg cs.toArray)) w → Q (.panic c) a w := by intro _ _ _ h; exact h) (hw : Region.wanted oi (yielded l.toArray a.tmps) = true := by rfl) (hx : a.eval x = .pointer (some ⟨g, o, none⟩) := by rfl) (hd : d.isRow = true := by rfl) (hz : (P.info? ty).map (·.size) = some cs.length := by kernel_rfl) (hl : listed.setIfInBounds i true = listed' := by kernel_rfl) (ha : a.put oi.dst (.agg cs.toArray) = a' := by simp only [Act.put, zA, zB, zC] <;> rfl) : wpAnyH P md l.toArray Q S (fuel + 1) listed a w := by subst ha; exact md_range hi hs hf hr ty x ho g o cs d hQ hw hx hb hu hd hz hS hl h
theorem zq {P : Program} {ops : Array Oper} {rest : List Oper} {op : Oper} {a a' : Act} {w : World} {Q : Exit → Act → World → Prop} (v : Value) (h : wpList P ops Q rest a' w) (hw : Region.wanted op (yielded ops a.tmps) = true := by rfl) (hv : (execOp a.eval op).run P w = .ok (.value v) w := by go_simp <;> with_reducible rfl) (ha : a.put op.dst v = a' := by simp only [Act.put, zA, zB, zC] <;> rfl) : wpList P ops Q (op :: rest) a w := by subst ha; exact mv_val hw hv h
theorem zp {P : Program} {ops : Array Oper} {rest : List Oper} {op : Oper} {a a' : Act} {w : World} {Q : Exit → Act → World → Prop} {w' : World} (v : Value) (hv : (execOp a.eval op).run P w = .ok (.value v) w') (h : wpList P ops Q rest a' w') (hw : Region.wanted op (yielded ops a.tmps) = true := by rfl) (ha : a.put op.dst v = a' := by simp only [Act.put, zA, zB, zC] <;> rfl) : wpList P ops Q (op :: rest) a w := by subst ha; exact mv_val hw hv h
theorem zk {P : Program} {ops : Array Oper} {rest : List Oper} {op : Oper} {a a' : Act} {w : World} {Q : Exit → Act → World → Prop} (h : wpList P ops Q rest a' w) (hn : Region.wanted op (yielded ops a.tmps) = false := by rfl) (ha : a.put op.dst undef = a' := by simp only [Act.put, zA, zB, zC] <;> rfl) : wpList P ops Q (op :: rest) a w := by subst ha; exact mv_skip hn h
end Go.Proofs.YtmgibncehlpfkaaGreat

namespace Go.Proofs.YtmgibncehlpfkaaGreat
open Go.RowKit
attribute [local go_sem ↓] Go.wp_at_zero Go.wp_at_succ run_max_ii run_min_ii

theorem Own.trans {g : Nat} {a b c : World} (h : Own g a b) (k : Own g b c) : Own g a c :=
  ⟨k.os.trans h.os, k.tape.trans h.tape, k.output.trans h.output, Nat.le_trans h.size k.size, fun i hi hn => (k.block i (Nat.lt_of_lt_of_le hi h.size) hn).trans (h.block i hi hn)⟩
theorem RV.In.own {L : Nat} {w w' : World} {a : RV} {q : Rat} (h : a.In L w q) {g : Nat} {t : TypeId} {cs : Array Value} (hb : Blk w g t cs) (hn : NoU cs) (o : Own g w w') : a.In L w' q := by
  obtain ⟨y, z, ⟨m, ⟨xs, d1, k1⟩, e1⟩, ⟨n, ⟨ys, d2, k2⟩, e2⟩, e⟩ := h
  exact ⟨y, z, ⟨m, ⟨xs, d1.own hb hn o, k1⟩, e1⟩, ⟨n, ⟨ys, d2.own hb hn o, k2⟩, e2⟩, e⟩
def Turn (X : Nat) (w w' : World) : Prop := Own X w w' ∧ ∀ (r : RV) (q : Rat), r.Is w q → r.Is w' q
theorem Turn.of_ext {X : Nat} {w w' : World} (h : Ext w w') : Turn X w w' := ⟨Own.of_ext h, fun _ _ k => k.ext h⟩
theorem Turn.trans {X : Nat} {a b c : World} (h : Turn X a b) (k : Turn X b c) : Turn X a c := ⟨h.1.trans k.1, fun r q x => k.2 r q (h.2 r q x)⟩
theorem xcmp {L : Nat} {w : World} {a b : RV} {q r : Rat} (h : a.In L w q) (h' : b.In L w r) (hL : L ≤ 70000) : Calls Tryz.prog 19 #[.agg #[.bool a.n, .slice a.p a.l a.c, .bool a.m, .slice a.p2 a.l2 a.c2], .agg #[.bool b.n, .slice b.p b.l b.c, .bool b.m, .slice b.p2 b.l2 b.c2]] w fun e w' => e = .returned (.int .i64 (rcmp q r)) ∧ Ext w w' := rcmp_any _ _ _ _ _ _ _ _ L q r w h h' hL
def lower (q l : Rat) : Rat := if q < l then q else l
def upper (q h : Rat) : Rat := if h < q then q else h

set_option maxHeartbeats 1000000 in
theorem r3new_any (n m : Bool) (u v : Value) (L : Nat) (y z : Int) (w : World) (hu : IntIn L w n u y) (hv : IntIn L w m v z) (hL : L ≤ 150000) (hz : z ≠ 0) :
    Calls Tryz.prog 96 #[.agg #[.bool n, u], .agg #[.bool m, v]] w (RetRE (Rat.divInt y z) 0 w) := by
  obtain ⟨p, l, cp, rfl⟩ := hu.form
  obtain ⟨q, k, cq, rfl⟩ := hv.form
  have hE1 : Ext w ((((w.alloc (.cells #[.bool n, .slice p l cp] 25)).alloc (.cells #[.bool m, .slice q k cq] 25)).alloc (.cells #[.bool false, .slice none 0 0, .bool false, .slice none 0 0] 27))) := (((Ext.refl _).alloc _).alloc _).alloc _
  have HS := zH (r2sign_any m (.slice q k cq) L z _ (hv.ext hE1) (by omega))
  have hsz : z.sign ≠ 0 := by rw [Ne, Int.sign_eq_zero_iff_zero]; exact hz
  generalize z.sign = s at HS hsz
  have g0 : (s == 0) = false := beq_eq_false_iff_ne.2 hsz
  have HLW := zH (fun W (h : Ext w W) => r3reduce_any n m (.slice p l cp) (.slice q k cq) L y z W (hu.ext h) (hv.ext h) hL hz)
  have HG := zH (newRat ((w.alloc (.cells #[.bool n, .slice p l cp] 25)).alloc (.cells #[.bool m, .slice q k cq] 25)))
  have HST := zH (fun w1 n1 t1 n2 t2 u0 u1 u2 u3 => stored_rat (w := ((w.alloc (.cells #[.bool n, .slice p l cp] 25)).alloc (.cells #[.bool m, .slice q k cq] 25))) (w1 := w1) (n := n1) (u := t1) (m := n2) (v := t2) (q := Rat.divInt y z) (u0 := u0) (u1 := u1) (u2 := u2) (u3 := u3))
  have HE1 := zH hE1
  clear hE1 hu hv hz hsz
  have gb : ∀ w', Ext ((w.alloc (.cells #[.bool n, .slice p l cp] 25)).alloc (.cells #[.bool m, .slice q k cq] 25)) w' →
      w'.cell? ⟨w.heap.size, 0, none⟩ = some (.bool n) ∧ w'.cell? ⟨w.heap.size, 1, none⟩ = some (.slice p l cp) ∧ w'.cell? ⟨w.heap.size + 1, 0, none⟩ = some (.bool m) ∧ w'.cell? ⟨w.heap.size + 1, 1, none⟩ = some (.slice q k cq) := fun w' h =>
    ⟨h.get (by simp), h.get (by simp), h.get (by simp), h.get (by simp)⟩
  have HGB := zH gb
  clear gb
  go_enter Tryz.func96, Tryz.ntmps96
  go_wp2_with fail
  refine HS.out.mono ?_
  rintro e w1 ⟨rfl, he⟩
  have g1 := HGB.out _ (((Ext.refl _).alloc _).trans he)
  go_wp2_with fail
  refine (HLW.out _ (HE1.out.trans he)).mono ?_
  rintro e w2 ⟨b1, t1, b2, t2, rfl, hc, he2⟩
  have HC := zH hc
  obtain ⟨p1, l1, k1, p2, l2, k2, rfl, rfl⟩ := hc.form
  have gk := HG.out _ (he.trans he2)
  simp only [World.size_alloc] at gk
  clear hc g1
  go_wp2_with fail
  have st := HST.out _ _ _ _ _ (.bool b1) (.slice p1 l1 k1) (.bool b2) (.slice p2 l2 k2) (he.trans he2) HC.out
  simp only [World.size_alloc] at st
  refine bodyPost_ret (v := .tuple #[.agg #[.bool b1, .slice p1 l1 k1, .bool b2, .slice p2 l2 k2], .int .i64 0]) ?_ rfl ⟨_, _, _, _, rfl, st.1, (((Ext.refl _).alloc _).alloc _).trans st.2⟩
  simp [results, Tryz.results96, go_sem, *]

set_option maxHeartbeats 1000000 in
theorem r3fromInts_any (a b : Int) (w : World) (h1 : -9223372036854775808 ≤ a) (h2 : a ≤ 9223372036854775807) (h3 : -9223372036854775808 ≤ b) (h4 : b ≤ 9223372036854775807) (hb : b ≠ 0) :
    Calls Tryz.prog 69 #[.int .i64 a, .int .i64 b] w (RetRE (Rat.divInt a b) 0 w) := by
  have HF := zH (fun W => r2fromInt_any a W h1 h2)
  have HF1 := zH (fun W => r2fromInt_any b W h3 h4)
  have hla := nl_i64 a h1 h2
  have hlb := nl_i64 b h3 h4
  have HN := zH (fun W n u m v (x : IntC W n u a) (z : IntC W m v b) => r3new_any n m u v 2 a b W (x.isIn hla) (z.isIn hlb) (by omega) hb)
  have HG := zH (newRat w)
  have HST := zH (fun w1 n1 t1 n2 t2 u0 u1 u2 u3 => stored_rat (w := w) (w1 := w1) (n := n1) (u := t1) (m := n2) (v := t2) (q := Rat.divInt a b) (u0 := u0) (u1 := u1) (u2 := u2) (u3 := u3))
  clear h1 h2 h3 h4 hla hlb hb
  go_enter Tryz.func69, Tryz.ntmps69
  go_wp2_with fail
  refine (HF.out _).mono ?_
  rintro e w1 ⟨b1, t1, rfl, hc1, he1⟩
  have HC1 := zH hc1
  clear hc1
  go_wp2_with fail
  refine (HF1.out _).mono ?_
  rintro e w2 ⟨b2, t2, rfl, hc2, he2⟩
  have HC2 := zH hc2
  clear hc2
  go_wp2_with fail
  refine (HN.out _ _ _ _ _ (HC1.out.ext he2) HC2.out).mono ?_
  rintro e w3 ⟨n1, u1, n2, u2, rfl, hc, he3⟩
  have HC := zH hc
  obtain ⟨p1, l1, k1, p2, l2, k2, rfl, rfl⟩ := hc.form
  have gk := HG.out _ ((he1.trans he2).trans he3)
  clear hc
  go_wp2_with fail
  have st := HST.out _ _ _ _ _ (.bool n1) (.slice p1 l1 k1) (.bool n2) (.slice p2 l2 k2) ((he1.trans he2).trans he3) HC.out
  refine bodyPost_ret (v := .tuple #[.agg #[.bool n1, .slice p1 l1 k1, .bool n2, .slice p2 l2 k2], .int .i64 0]) ?_ rfl ⟨_, _, _, _, rfl, st.1, st.2⟩
  simp [results, Tryz.results69, go_sem, *]

end Go.Proofs.YtmgibncehlpfkaaGreat

namespace Go.Proofs.YtmgibncehlpfkaaGreat
open Go.RowKit

theorem NIs.map {w w' : World} {cs : Array Value} {q : Rat} (h : NIs w cs q) (x : ∀ (r : RV) (q : Rat), r.Is w q → r.Is w' q) : NIs w' cs q := by obtain ⟨a, e, h⟩ := h; exact ⟨a, e, x _ _ h⟩
theorem NIn.one {L : Nat} {w : World} {cs : Array Value} {q : Rat} (h : NIn L w cs q) : cs.all (·.oneCell') = true := by obtain ⟨a, rfl, _⟩ := h; exact all_oneCell_toArray (by simp [Value.oneCell'])
theorem pAdd {L : Nat} {w : World} {cs ct : Array Value} {q r : Rat} (hp : NIn L w cs q) (hq : NIn L w ct r) (hL : L ≤ 70000) :
    Calls Tryz.prog 86 #[.agg cs, .agg ct] w fun e w' => ∃ c, e = .returned (.agg c) ∧ NIs w' c (q + r) ∧ Ext w w' := by
  obtain ⟨a, rfl, h1⟩ := hp
  obtain ⟨b, rfl, h2⟩ := hq
  refine (xadd h1 h2 hL).mono fun e w' h => ?_
  obtain ⟨c, rfl, h3, h4⟩ := h
  exact ⟨_, rfl, ⟨c, rfl, h3⟩, h4⟩
theorem pSub {L : Nat} {w : World} {cs ct : Array Value} {q r : Rat} (hp : NIn L w cs q) (hq : NIn L w ct r) (hL : L ≤ 70000) :
    Calls Tryz.prog 59 #[.agg cs, .agg ct] w fun e w' => ∃ c, e = .returned (.agg c) ∧ NIs w' c (q - r) ∧ Ext w w' := by
  obtain ⟨a, rfl, h1⟩ := hp
  obtain ⟨b, rfl, h2⟩ := hq
  refine (xsub h1 h2 hL).mono fun e w' h => ?_
  obtain ⟨c, rfl, h3, h4⟩ := h
  exact ⟨_, rfl, ⟨c, rfl, h3⟩, h4⟩
theorem pMul {L : Nat} {w : World} {cs ct : Array Value} {q r : Rat} (hp : NIn L w cs q) (hq : NIn L w ct r) (hL : L ≤ 70000) :
    Calls Tryz.prog 58 #[.agg cs, .agg ct] w fun e w' => ∃ c, e = .returned (.agg c) ∧ NIs w' c (q * r) ∧ Ext w w' := by
  obtain ⟨a, rfl, h1⟩ := hp
  obtain ⟨b, rfl, h2⟩ := hq
  refine (xmul h1 h2 hL).mono fun e w' h => ?_
  obtain ⟨c, rfl, h3, h4⟩ := h
  exact ⟨_, rfl, ⟨c, rfl, h3⟩, h4⟩
theorem pCmp {L : Nat} {w : World} {cs ct : Array Value} {q r : Rat} (hp : NIn L w cs q) (hq : NIn L w ct r) (hL : L ≤ 70000) :
    Calls Tryz.prog 19 #[.agg cs, .agg ct] w fun e w' => e = .returned (.int .i64 (rcmp q r)) ∧ Ext w w' := by
  obtain ⟨a, rfl, h1⟩ := hp
  obtain ⟨b, rfl, h2⟩ := hq
  exact xcmp h1 h2 hL
theorem pCmpS {L : Nat} {w : World} {cs ct : Array Value} {q r : Rat} {s : Int} (hs : s = rcmp q r) (hp : NIn L w cs q) (hq : NIn L w ct r) (hL : L ≤ 70000) :
    Calls Tryz.prog 19 #[.agg cs, .agg ct] w fun e w' => e = .returned (.int .i64 s) ∧ Ext w w' := by
  subst hs
  exact pCmp hp hq hL
theorem pNorm {L : Nat} {w : World} {cs : Array Value} {q : Rat} (hp : NIn L w cs q) (hL : L ≤ 300000) :
    Calls Tryz.prog 20 #[.agg cs] w fun e w' => ∃ c, e = .returned (.agg c) ∧ NIs w' c q ∧ Ext w w' := by
  obtain ⟨a, rfl, h1⟩ := hp
  refine (xnorm h1 hL).mono fun e w' h => ?_
  obtain ⟨c, rfl, h3, h4⟩ := h
  exact ⟨_, rfl, ⟨c, rfl, h3⟩, h4⟩
theorem pFrom (a : Int) (w : World) (h1 : -9223372036854775808 ≤ a) (h2 : a ≤ 9223372036854775807) :
    Calls Tryz.prog 33 #[.int .i64 a] w fun e w' => ∃ c, e = .returned (.agg c) ∧ NIs w' c (a : Rat) ∧ Ext w w' := by
  refine (rfromInt_any a w h1 h2).mono fun e w' h => ?_
  obtain ⟨c, rfl, h3, h4⟩ := RetR.v h
  exact ⟨_, rfl, ⟨c, rfl, h3⟩, h4⟩
theorem q03Cmp {L : Nat} {w : World} {cs ct : Array Value} {q r : Rat} (hp : NIn L w cs q) (hq : NIn L w ct r) (hL : L ≤ 60000) :
    Calls Tryz.prog 23 #[.agg cs, .agg ct] w fun e w' => e = .returned (.int .i64 (rcmp q r)) ∧ Ext w w' := by
  obtain ⟨a, rfl, h1⟩ := hp
  obtain ⟨b, rfl, h2⟩ := hq
  exact r3cmp_any _ _ _ _ _ _ _ _ L q r w h1 h2 (by omega)
theorem q03From (a : Int) (w : World) (h1 : -9223372036854775808 ≤ a) (h2 : a ≤ 9223372036854775807) :
    Calls Tryz.prog 14 #[.int .i64 a] w fun e w' => ∃ c, e = .returned (.agg c) ∧ NIs w' c (a : Rat) ∧ Ext w w' := by
  refine (r3fromInt_any a w h1 h2).mono fun e w' h => ?_
  obtain ⟨c, rfl, h3, h4⟩ := RetR.v h
  exact ⟨_, rfl, ⟨c, rfl, h3⟩, h4⟩
theorem q03Add {L : Nat} {w : World} {cs ct : Array Value} {q r : Rat} (hp : NIn L w cs q) (hq : NIn L w ct r) (hL : L ≤ 60000) :
    Calls Tryz.prog 70 #[.agg cs, .agg ct] w fun e w' => ∃ c, e = .returned (.agg c) ∧ NIs w' c (q + r) ∧ Ext w w' := by
  obtain ⟨a, rfl, h1⟩ := hp
  obtain ⟨b, rfl, h2⟩ := hq
  refine (r3add_any _ _ _ _ _ _ _ _ L q r w h1 h2 (by omega)).mono fun e w' h => ?_
  obtain ⟨c, rfl, h3, h4⟩ := RetR.v h
  exact ⟨_, rfl, ⟨c, rfl, h3⟩, h4⟩
theorem q03Sub {L : Nat} {w : World} {cs ct : Array Value} {q r : Rat} (hp : NIn L w cs q) (hq : NIn L w ct r) (hL : L ≤ 60000) :
    Calls Tryz.prog 72 #[.agg cs, .agg ct] w fun e w' => ∃ c, e = .returned (.agg c) ∧ NIs w' c (q - r) ∧ Ext w w' := by
  obtain ⟨a, rfl, h1⟩ := hp
  obtain ⟨b, rfl, h2⟩ := hq
  refine (r3sub_any _ _ _ _ _ _ _ _ L q r w h1 h2 (by omega)).mono fun e w' h => ?_
  obtain ⟨c, rfl, h3, h4⟩ := RetR.v h
  exact ⟨_, rfl, ⟨c, rfl, h3⟩, h4⟩
theorem q03Mul {L : Nat} {w : World} {cs ct : Array Value} {q r : Rat} (hp : NIn L w cs q) (hq : NIn L w ct r) (hL : L ≤ 60000) :
    Calls Tryz.prog 71 #[.agg cs, .agg ct] w fun e w' => ∃ c, e = .returned (.agg c) ∧ NIs w' c (q * r) ∧ Ext w w' := by
  obtain ⟨a, rfl, h1⟩ := hp
  obtain ⟨b, rfl, h2⟩ := hq
  refine (r3mul_any _ _ _ _ _ _ _ _ L q r w h1 h2 (by omega)).mono fun e w' h => ?_
  obtain ⟨c, rfl, h3, h4⟩ := RetR.v h
  exact ⟨_, rfl, ⟨c, rfl, h3⟩, h4⟩
end Go.Proofs.YtmgibncehlpfkaaGreat
