/- Contracts that the claim stands on: XRefN to XExD. -/
import Derived.Deep.DeepCutAuto
import Derived.Deep.MidRow
import Derived.Test.YtllpkoinjompcaaGreatM2
namespace Go.Proofs.YtllpkoinjompcaaGreat
open Go.RowKit
attribute [local go_sem ↓] Go.wp_at_zero Go.wp_at_succ run_max_ii run_min_ii

def RetDI (q r : Int) (w : World) (e : Ending) (w' : World) : Prop :=
  ∃ n1 v1 n2 v2, e = .returned (.tuple #[.agg #[.bool n1, v1], .agg #[.bool n2, v2], .int .i64 0]) ∧ IntC w' n1 v1 q ∧ IntC w' n2 v2 r ∧ Ext w w'

theorem sg_div_exact {n : Bool} {a b : Nat} {y q : Int} (hb : b ≠ 0) (hy : y = sg n a) (h : y = q * (b : Int)) : a % b = 0 ∧ sg n (a / b) = q := by
  have hdvd : b ∣ a := by
    have h1 : (b : Int) ∣ y := ⟨q, by rw [h, Int.mul_comm]⟩
    have h2 := Int.natAbs_dvd_natAbs.2 h1
    rw [hy, sg_abs] at h2
    simpa using h2
  refine ⟨Nat.mod_eq_zero_of_dvd hdvd, ?_⟩
  obtain ⟨c, rfl⟩ := hdvd
  rw [Nat.mul_div_cancel_left _ (Nat.pos_of_ne_zero hb)]
  have hb' : (b : Int) ≠ 0 := by omega
  apply Int.eq_of_mul_eq_mul_right hb'
  rw [← h, hy]
  cases n
  · simp only [sg_false]
    rw [Int.natCast_mul, Int.mul_comm]
  · simp only [sg_true]
    rw [Int.natCast_mul, Int.neg_mul, Int.mul_comm]

theorem stored2i {w0 w : World} {X Y : Nat} {t : TypeId} {a b c d : Value} {u0 u1 u2 u3 : Value} (hX : Blk w X t #[a, b]) (hY : Blk w Y t #[c, d]) (nX : NoU #[a, b]) (nY : NoU #[c, d])
    (h1 : Y ≠ X) (hw : Ext w0 w) (s1 : w0.heap.size ≤ X) (s2 : w0.heap.size ≤ Y) :
    (∀ n v z, IntC w n v z → IntC (put2 (put2 w X u0 u1) Y u2 u3) n v z) ∧ Ext w0 (put2 (put2 w X u0 u1) Y u2 u3) := by
  have o1 := put2_own w X u0 u1
  have o2 := put2_own (put2 w X u0 u1) Y u2 u3
  exact ⟨fun n v z h => (h.own hX nX o1).own (hY.own o1 h1) nY o2, o2.ext (o1.ext hw s1) s2⟩

set_option maxRecDepth 20000 in
set_option maxHeartbeats 2000000 in
theorem r2div_any (n m : Bool) (u v : Value) (L : Nat) (y z q : Int) (w : World) (hu : IntIn L w n u y) (hv : IntIn L w m v z) (hL : L ≤ 150000) (hz : 0 < z) (hyz : y = q * z) :
    Calls Tryz.prog 87 #[.agg #[.bool n, u], .agg #[.bool m, v]] w (RetDI q 0 w) := by
  obtain ⟨ha, hy⟩ := hu.abs
  obtain ⟨hb, hzs⟩ := hv.abs
  have hla := ha.nl
  have hlb := hb.nl
  obtain rfl : m = false := by
    cases m
    · rfl
    · rw [sg_true] at hzs; omega
  have hzn : z = (z.natAbs : Int) := by omega
  have hex := sg_div_exact (q := q) (b := z.natAbs) (by omega) hy (by rw [← hzn]; exact hyz)
  obtain ⟨p, l, cp, rfl⟩ := hu.form
  obtain ⟨p2, k, cq, rfl⟩ := hv.form
  have HE0 := zH (show Ext w ((((w.alloc (.cells #[.bool n, .slice p l cp] 24)).alloc (.cells #[.bool false, .slice p2 k cq] 24)).alloc (.cells #[.bool false, .slice none 0 0] 24)).alloc (.cells #[.bool false, .slice none 0 0] 24)) from ((((Ext.refl _).alloc _).alloc _).alloc _).alloc _)
  have HS := zH (fun W (h : Ext w W) => r2sign_any false (.slice p2 k cq) L z W (hv.ext h) (by omega))
  have HDM := zH (fun W (h : Ext w W) => rdivmod_any (.slice p l cp) (.slice p2 k cq) L y.natAbs z.natAbs W (ha.ext h) (hb.ext h) (by omega) (by omega))
  have hn := fun W t (h : NatC W t (y.natAbs / z.natAbs)) => r2new_any n t L _ W (h.isIn (Nat.le_trans (Nm.nl_div _ _) hla)) (by omega)
  rw [hex.2] at hn
  have HN := zH (fun W t x (hx : x = n) (h : NatC W t (y.natAbs / z.natAbs)) => (show Calls Tryz.prog 85 #[.bool x, t] W (RetI q W) by subst hx; exact hn W t h))
  have hr := fun W t (h : NatC W t (y.natAbs % z.natAbs)) => r2new_any n t L _ W (h.isIn (by rw [hex.1, Nm.nl_zero]; omega)) (by omega)
  rw [hex.1, show sg n 0 = 0 by cases n <;> rfl] at hr
  have HR := zH hr
  have HM0 := zH hex.1
  have HSZ := zH (show z.sign = 1 from Int.sign_eq_one_of_pos hz)
  have HS0 := zH (fun W b t (h : IntC W b t 0) => r2sign_any b t 0 0 W (h.isIn (by simp [Nm.nl_zero])) (by omega))
  have g : ∀ w', Ext ((w.alloc (.cells #[.bool n, .slice p l cp] 24)).alloc (.cells #[.bool false, .slice p2 k cq] 24)) w' →
      w'.cell? ⟨w.heap.size, 0, none⟩ = some (.bool n) ∧ w'.cell? ⟨w.heap.size, 1, none⟩ = some (.slice p l cp) ∧ w'.cell? ⟨w.heap.size + 1, 0, none⟩ = some (.bool false) ∧ w'.cell? ⟨w.heap.size + 1, 1, none⟩ = some (.slice p2 k cq) := fun w' h =>
    ⟨h.get (by simp), h.get (by simp), h.get (by simp), h.get (by simp)⟩
  have HG := zH g
  clear hu hv ha hb hy hzs hla hlb hzn hex hn hr g hz hyz
  go_enter Tryz.func87, Tryz.ntmps87
  go_wp2_with fail
  refine (HS.out _ HE0.out).mono ?_
  rintro e w1 ⟨rfl, he1⟩
  rw [HSZ.out]
  have E1 := zH (HE0.out.trans he1)
  have gw := HG.out _ (((Ext.refl _).alloc _).alloc _ |>.trans he1)
  go_wp2_with fail
  refine (HDM.out _ E1.out).mono ?_
  rintro e w2 ⟨qv, rv, rfl, hq, hrr, he2⟩
  have HQ := zH hq
  rw [HM0.out] at hrr
  have HRR := zH hrr
  have gw2 := HG.out _ ((((Ext.refl _).alloc _).alloc _ |>.trans he1).trans he2)
  clear hq hrr gw
  go_wp2_with fail
  refine (HN.out _ _ _ (by cases n <;> rfl) HQ.out).mono ?_
  rintro e w3 ⟨b1, t1, rfl, hi1, he3⟩
  have HI1 := zH hi1
  obtain ⟨x1, y1, z1, rfl⟩ := hi1.form
  have gw3 := HG.out _ (((((Ext.refl _).alloc _).alloc _ |>.trans he1).trans he2).trans he3)
  have sz3 : w.heap.size + 1 + 1 + 1 < w3.heap.size := by
    have h1 := he1.size
    have h2 := he2.size
    have h3 := he3.size
    simp only [World.size_alloc] at h1
    omega
  have sz3a : w.heap.size < w3.heap.size := by omega
  have sz3b : w.heap.size + 1 < w3.heap.size := by omega
  clear hi1 gw2
  go_wp2_with fail
  refine (HR.out _ _ ?_).mono ?_
  · exact HRR.out.ext (he3.alloc _)
  rintro e w4 ⟨b2, t2, rfl, hi2, he4⟩
  have HI2 := zH hi2
  obtain ⟨x2, y2, z2, rfl⟩ := hi2.form
  clear hi2
  have gw4 := HG.out _ ((((((Ext.refl _).alloc _).alloc _ |>.trans he1).trans he2).trans he3).trans (((Ext.refl w3).alloc _).trans he4))
  have c10 : w4.cell? ⟨w3.heap.size, 0, none⟩ = some (.bool b1) ∧ w4.cell? ⟨w3.heap.size, 1, none⟩ = some (.slice x1 y1 z1) := ⟨he4.get (by simp), he4.get (by simp)⟩
  have sz4 : w3.heap.size + 1 ≤ w4.heap.size := by
    have h1 := he4.size
    simp only [World.size_alloc] at h1
    omega
  have sz4a : w.heap.size < w4.heap.size := by omega
  have sz4b : w.heap.size + 1 < w4.heap.size := by omega
  have sz4c : w3.heap.size < w4.heap.size := by omega
  clear gw3
  cases n
  · go_wp2_with fail
    have sz5 : w.heap.size + 1 + 1 ≠ w.heap.size + 1 + 1 + 1 := by omega
    have X0 := Blk.ext (Blk.new_at ((w.alloc (.cells #[.bool false, .slice p l cp] 24)).alloc (.cells #[.bool false, .slice p2 k cq] 24)) (w.heap.size + 1 + 1) (by simp) 24 #[.bool false, .slice none 0 0]) (((Ext.refl _).alloc _).trans (((he1.trans he2).trans he3).trans (((Ext.refl w3).alloc (.cells #[.bool b1, .slice x1 y1 z1] 24)).trans ((he4.alloc (.cells #[.bool b2, .slice x2 y2 z2] 24))))))
    have X1 := Blk.ext (Blk.new_at (((w.alloc (.cells #[.bool false, .slice p l cp] 24)).alloc (.cells #[.bool false, .slice p2 k cq] 24)).alloc (.cells #[.bool false, .slice none 0 0] 24)) (w.heap.size + 1 + 1 + 1) (by simp) 24 #[.bool false, .slice none 0 0]) (((he1.trans he2).trans he3).trans (((Ext.refl w3).alloc (.cells #[.bool b1, .slice x1 y1 z1] 24)).trans ((he4.alloc (.cells #[.bool b2, .slice x2 y2 z2] 24)))))
    have HX0 := zH X0
    have HX1 := zH X1
    have x00 := X0.cell 0
    have x01 := X0.cell 1
    have x10 := X1.cell 0
    have x11 := X1.cell 1
    have y00 := X0.frozen 0
    have y01 := X0.frozen 1
    have y10 := X1.frozen 0
    have y11 := X1.frozen 1
    simp at x00 x01 x10 x11
    have p10 : (w4.alloc (.cells #[.bool b2, .slice x2 y2 z2] 24)).cell? ⟨w3.heap.size, 0, none⟩ = some (.bool b1) := Ext.get ((Ext.refl w4).alloc (.cells #[.bool b2, .slice x2 y2 z2] 24)) c10.1
    have p11 : (w4.alloc (.cells #[.bool b2, .slice x2 y2 z2] 24)).cell? ⟨w3.heap.size, 1, none⟩ = some (.slice x1 y1 z1) := Ext.get ((Ext.refl w4).alloc (.cells #[.bool b2, .slice x2 y2 z2] 24)) c10.2
    have q10 : (w4.alloc (.cells #[.bool b2, .slice x2 y2 z2] 24)).cell? ⟨w4.heap.size, 0, none⟩ = some (.bool b2) := by simp
    have q11 : (w4.alloc (.cells #[.bool b2, .slice x2 y2 z2] 24)).cell? ⟨w4.heap.size, 1, none⟩ = some (.slice x2 y2 z2) := by simp
    have HXW := zH (show Ext w (w4.alloc (.cells #[.bool b2, .slice x2 y2 z2] 24)) from ((((E1.out.trans he2).trans he3).trans ((Ext.refl w3).alloc _)).trans he4).alloc _)
    have HI1' := zH (HI1.out.ext (((Ext.refl w3).alloc (.cells #[.bool b1, .slice x1 y1 z1] 24)).trans (he4.alloc (.cells #[.bool b2, .slice x2 y2 z2] 24))))
    have HI2' := zH (HI2.out.ext ((Ext.refl w4).alloc (.cells #[.bool b2, .slice x2 y2 z2] 24)))
    have HSZ5 := zH (show w.heap.size ≤ w.heap.size + 1 + 1 ∧ w.heap.size ≤ w.heap.size + 1 + 1 + 1 by omega)
    clear X0 X1 gw4 c10
    generalize (w4.alloc (.cells #[.bool b2, .slice x2 y2 z2] 24)) = w5 at *
    generalize hQ : w4.heap.size = Q at *
    generalize hP : w3.heap.size = P at *
    generalize hB : w.heap.size + 1 + 1 + 1 = B at *
    generalize hA : w.heap.size + 1 + 1 = A at *
    have n1 : A ≠ P := by omega
    have n2 : A ≠ Q := by omega
    have n3 : B ≠ P := by omega
    have n4 : B ≠ Q := by omega
    have n5 : A ≠ B := by omega
    go_region_held3 (fun x => x.cell? ⟨P, 0, none⟩ = some (.bool b1) ∧ x.cell? ⟨P, 1, none⟩ = some (.slice x1 y1 z1) ∧ x.cell? ⟨Q, 0, none⟩ = some (.bool b2) ∧ x.cell? ⟨Q, 1, none⟩ = some (.slice x2 y2 z2)) (go_keep) (fail)
    go_wp2_with fail
    have st := stored2i (w0 := w) (u0 := .bool b1) (u1 := .slice x1 y1 z1) (u2 := .bool b2) (u3 := .slice x2 y2 z2) HX0.out.drew HX1.out.drew (noU2 _ _ _ _) (noU2 _ _ _ _) (Ne.symm n5) HXW.out.drew HSZ5.out.1 HSZ5.out.2
    simp only [put2] at st
    refine bodyPost_ret (v := .tuple #[.agg #[.bool b1, .slice x1 y1 z1], .agg #[.bool b2, .slice x2 y2 z2], .int .i64 0]) ?_ rfl ⟨_, _, _, _, rfl, st.1 _ _ _ HI1'.out, st.1 _ _ _ HI2'.out, st.2⟩
    simp [results, Tryz.results87, go_sem, *]
  · go_wp2_with fail
    refine (HS0.out _ _ _ (HI2.out.ext ((Ext.refl _).alloc _))).mono ?_
    rintro e w5 ⟨rfl, he5⟩
    rw [show Int.sign 0 = 0 from rfl]
    go_wp2_with fail
    clear HS0
    have sz5 : w.heap.size + 1 + 1 ≠ w.heap.size + 1 + 1 + 1 := by omega
    have X0 := Blk.ext (Blk.new_at ((w.alloc (.cells #[.bool true, .slice p l cp] 24)).alloc (.cells #[.bool false, .slice p2 k cq] 24)) (w.heap.size + 1 + 1) (by simp) 24 #[.bool false, .slice none 0 0]) (((Ext.refl _).alloc _).trans (((he1.trans he2).trans he3).trans (((Ext.refl w3).alloc (.cells #[.bool b1, .slice x1 y1 z1] 24)).trans (((he4.alloc (.cells #[.bool b2, .slice x2 y2 z2] 24)).trans he5)))))
    have X1 := Blk.ext (Blk.new_at (((w.alloc (.cells #[.bool true, .slice p l cp] 24)).alloc (.cells #[.bool false, .slice p2 k cq] 24)).alloc (.cells #[.bool false, .slice none 0 0] 24)) (w.heap.size + 1 + 1 + 1) (by simp) 24 #[.bool false, .slice none 0 0]) (((he1.trans he2).trans he3).trans (((Ext.refl w3).alloc (.cells #[.bool b1, .slice x1 y1 z1] 24)).trans (((he4.alloc (.cells #[.bool b2, .slice x2 y2 z2] 24)).trans he5))))
    have HX0 := zH X0
    have HX1 := zH X1
    have x00 := X0.cell 0
    have x01 := X0.cell 1
    have x10 := X1.cell 0
    have x11 := X1.cell 1
    have y00 := X0.frozen 0
    have y01 := X0.frozen 1
    have y10 := X1.frozen 0
    have y11 := X1.frozen 1
    simp at x00 x01 x10 x11
    have p10 : w5.cell? ⟨w3.heap.size, 0, none⟩ = some (.bool b1) := Ext.get (((Ext.refl w4).alloc (.cells #[.bool b2, .slice x2 y2 z2] 24)).trans he5) c10.1
    have p11 : w5.cell? ⟨w3.heap.size, 1, none⟩ = some (.slice x1 y1 z1) := Ext.get (((Ext.refl w4).alloc (.cells #[.bool b2, .slice x2 y2 z2] 24)).trans he5) c10.2
    have q10 : w5.cell? ⟨w4.heap.size, 0, none⟩ = some (.bool b2) := he5.get (by simp)
    have q11 : w5.cell? ⟨w4.heap.size, 1, none⟩ = some (.slice x2 y2 z2) := he5.get (by simp)
    have HXW := zH (show Ext w w5 from (((((E1.out.trans he2).trans he3).trans ((Ext.refl w3).alloc _)).trans he4).alloc _).trans he5)
    have HI1' := zH (HI1.out.ext (((Ext.refl w3).alloc (.cells #[.bool b1, .slice x1 y1 z1] 24)).trans ((he4.alloc (.cells #[.bool b2, .slice x2 y2 z2] 24)).trans he5)))
    have HI2' := zH (HI2.out.ext (((Ext.refl w4).alloc (.cells #[.bool b2, .slice x2 y2 z2] 24)).trans he5))
    have HSZ5 := zH (show w.heap.size ≤ w.heap.size + 1 + 1 ∧ w.heap.size ≤ w.heap.size + 1 + 1 + 1 by omega)
    clear X0 X1 gw4 c10
    generalize hQ : w4.heap.size = Q at *
    generalize hP : w3.heap.size = P at *
    generalize hB : w.heap.size + 1 + 1 + 1 = B at *
    generalize hA : w.heap.size + 1 + 1 = A at *
    have n1 : A ≠ P := by omega
    have n2 : A ≠ Q := by omega
    have n3 : B ≠ P := by omega
    have n4 : B ≠ Q := by omega
    have n5 : A ≠ B := by omega
    go_region_held3 (fun x => x.cell? ⟨P, 0, none⟩ = some (.bool b1) ∧ x.cell? ⟨P, 1, none⟩ = some (.slice x1 y1 z1) ∧ x.cell? ⟨Q, 0, none⟩ = some (.bool b2) ∧ x.cell? ⟨Q, 1, none⟩ = some (.slice x2 y2 z2)) (go_keep) (fail)
    go_wp2_with fail
    have st := stored2i (w0 := w) (u0 := .bool b1) (u1 := .slice x1 y1 z1) (u2 := .bool b2) (u3 := .slice x2 y2 z2) HX0.out.drew HX1.out.drew (noU2 _ _ _ _) (noU2 _ _ _ _) (Ne.symm n5) HXW.out.drew HSZ5.out.1 HSZ5.out.2
    simp only [put2] at st
    refine bodyPost_ret (v := .tuple #[.agg #[.bool b1, .slice x1 y1 z1], .agg #[.bool b2, .slice x2 y2 z2], .int .i64 0]) ?_ rfl ⟨_, _, _, _, rfl, st.1 _ _ _ HI1'.out, st.1 _ _ _ HI2'.out, st.2⟩
    simp [results, Tryz.results87, go_sem, *]
end Go.Proofs.YtllpkoinjompcaaGreat

namespace Go.Proofs.YtllpkoinjompcaaGreat
open Go.RowKit
attribute [local go_sem ↓] Go.wp_at_zero Go.wp_at_succ run_max_ii run_min_ii

theorem reduce_parts {y z : Int} (hz : z ≠ 0) :
    (0 < z → y = (Rat.divInt y z).num * (y.natAbs.gcd z.natAbs : Nat) ∧ z = ((Rat.divInt y z).den : Int) * (y.natAbs.gcd z.natAbs : Nat)) ∧
    (z < 0 → -y = (Rat.divInt y z).num * (y.natAbs.gcd z.natAbs : Nat) ∧ -z = ((Rat.divInt y z).den : Int) * (y.natAbs.gcd z.natAbs : Nat)) := by
  obtain ⟨e1, e2⟩ := Nm.num_of_pair y z hz
  have e3 := Nm.den_of_pair y z hz
  have d1 : (Rat.divInt y z).num.natAbs * y.natAbs.gcd z.natAbs = y.natAbs := by rw [e1]; exact Nat.div_mul_cancel (Nat.gcd_dvd_left _ _)
  have d2 : (Rat.divInt y z).den * y.natAbs.gcd z.natAbs = z.natAbs := by rw [e3]; exact Nat.div_mul_cancel (Nat.gcd_dvd_right _ _)
  generalize (Rat.divInt y z).num = a at *
  generalize (Rat.divInt y z).den = b at *
  generalize y.natAbs.gcd z.natAbs = g at *
  have d2' : (b : Int) * (g : Int) = (z.natAbs : Int) := by rw [← d2, Int.natCast_mul]
  have d1' : a * (g : Int) = if a < 0 then -(y.natAbs : Int) else (y.natAbs : Int) := by
    rw [← d1, Int.natCast_mul]
    split
    · rw [← Int.neg_mul]; congr 1; omega
    · congr 1; omega
  clear e1 e3 d1 d2
  constructor
  · intro hp
    rw [Int.sign_eq_one_of_pos hp, Int.mul_one, Int.sign_neg_iff] at e2
    refine ⟨?_, by omega⟩
    rw [d1']
    split
    · have := e2.1 ‹_›; omega
    · have : ¬ y < 0 := fun h => ‹¬ a < 0› (e2.2 h)
      omega
  · intro hn
    rw [Int.sign_eq_neg_one_of_neg hn] at e2
    have e4 : a < 0 ↔ 0 < y := by
      rw [e2, ← Int.sign_pos_iff]; omega
    refine ⟨?_, by omega⟩
    rw [d1']
    split
    · have := e4.1 ‹_›; omega
    · have : ¬ 0 < y := fun h => ‹¬ a < 0› (e4.2 h)
      omega

theorem put2_blk {w : World} {g : Nat} {t : TypeId} {a b : Value} (h : Blk w g t #[a, b]) (u0 u1 : Value) : Blk (put2 w g u0 u1) g t #[u0, u1] := (h.set_ 0 u0).set_ 1 u1

def Halves (L : Nat) (w : World) (G : Nat) (a b g : Int) (w' : World) : Prop :=
  ∃ b1 p1 l1 k1 b2 p2 l2 k2 b3 p3 l3 k3, Blk w' w.heap.size 24 #[.bool b1, .slice p1 l1 k1] ∧ Blk w' (w.heap.size + 1) 24 #[.bool b2, .slice p2 l2 k2] ∧ Blk w' G 24 #[.bool b3, .slice p3 l3 k3] ∧
    Blk w' (w.heap.size + 1 + 1) 26 #[.bool false, .slice none 0 0, .bool false, .slice none 0 0] ∧
    IntIn L w' b1 (.slice p1 l1 k1) (a * g) ∧ IntIn L w' b2 (.slice p2 l2 k2) (b * g) ∧ IntIn L w' b3 (.slice p3 l3 k3) g ∧ Ext w w'

set_option maxRecDepth 20000 in
set_option maxHeartbeats 2000000 in
theorem r3reduce_any (n m : Bool) (u v : Value) (L : Nat) (y z : Int) (w : World) (hu : IntIn L w n u y) (hv : IntIn L w m v z) (hL : L ≤ 150000) (hz : z ≠ 0) :
    Calls Tryz.prog 66 #[.agg #[.bool n, u], .agg #[.bool m, v]] w (RetR (Rat.divInt y z) w) := by
  have hlz := hv.nl
  have hly := hu.nl
  have hna := hu.abs.1
  have hnb := hv.abs.1
  obtain ⟨p, l, cp, rfl⟩ := hu.form
  obtain ⟨q, k, cq, rfl⟩ := hv.form
  have hG0 : y.natAbs.gcd z.natAbs ≠ 0 := by
    intro h
    have := Nat.eq_zero_of_gcd_eq_zero_right h
    omega
  have hGl : Nm.nl (y.natAbs.gcd z.natAbs) ≤ L := Nat.le_trans (Nm.nl_mono (Nat.gcd_le_right _ (by omega))) hlz
  have hE1 : Ext w ((((w.alloc (.cells #[.bool n, .slice p l cp] 24)).alloc (.cells #[.bool m, .slice q k cq] 24)).alloc (.cells #[.bool false, .slice none 0 0, .bool false, .slice none 0 0] 26))) := (((Ext.refl _).alloc _).alloc _).alloc _
  have HE1 := zH hE1
  have H1 := zH (rgcd_any _ _ L y.natAbs z.natAbs _ (hna.ext hE1) (hnb.ext hE1) (by omega))
  have HA := zH (fun W (h : Ext w W) => hu.ext h)
  have HB := zH (fun W (h : Ext w W) => hv.ext h)
  have hn0 := fun W t (h : NatC W t (y.natAbs.gcd z.natAbs)) => r2new_any false t L _ W (h.isIn hGl) (by omega)
  have HP := zH (reduce_parts (y := y) hz)
  generalize hq : Rat.divInt y z = r at HP ⊢
  have HNL := zH (And.intro hly (And.intro hlz hGl))
  clear hE1 hu hv hna hnb hGl hq hly hlz
  generalize y.natAbs.gcd z.natAbs = g at *
  rw [sg_false] at hn0
  have HN0 := zH hn0
  have HG0 := zH hG0
  have HZ := zH hz
  clear hn0 hG0 hz
  go_enter Tryz.func66, Tryz.ntmps66
  go_wp2_with fail
  refine H1.out.mono ?_
  rintro e w1 ⟨gv, rfl, hg, he1⟩
  have HGV := zH hg
  clear hg
  go_wp2_with fail
  refine (HN0.out _ _ HGV.out).mono ?_
  rintro e w2 ⟨b3, gv2, rfl, hg2, he2⟩
  obtain ⟨p3, l3, k3, rfl⟩ := hg2.form
  have HG2 := zH hg2
  clear hg2
  have he12 := he1.trans he2
  have hb12 : Ext ((w.alloc (.cells #[.bool n, .slice p l cp] 24)).alloc (.cells #[.bool m, .slice q k cq] 24)) w2 := ((Ext.refl _).alloc _).trans he12
  have gw2 : w2.cell? ⟨w.heap.size, 0, none⟩ = some (.bool n) ∧ w2.cell? ⟨w.heap.size, 1, none⟩ = some (.slice p l cp) ∧ w2.cell? ⟨w.heap.size + 1, 0, none⟩ = some (.bool m) ∧ w2.cell? ⟨w.heap.size + 1, 1, none⟩ = some (.slice q k cq) :=
    ⟨hb12.get (by simp), hb12.get (by simp), hb12.get (by simp), hb12.get (by simp)⟩
  have sz : w.heap.size + 1 + 1 < w2.heap.size := by
    have h1 := he12.size
    simp only [World.size_alloc] at h1
    omega
  have sza : w.heap.size < w2.heap.size := by omega
  have szb : w.heap.size + 1 < w2.heap.size := by omega
  have HSG := zH (fun W (h : Ext w W) => r2sign_any m (.slice q k cq) L z W (HB.out W h) (by omega))
  have HEW := zH (HE1.out.trans he12)
  have HB12 := zH hb12
  have HE12 := zH he12
  clear hb12 he12
  go_wp2_with fail
  refine (HSG.out _ (HEW.out.alloc _)).mono ?_
  rintro e w3 ⟨rfl, he3⟩
  have gw3 : w3.cell? ⟨w.heap.size, 0, none⟩ = some (.bool n) ∧ w3.cell? ⟨w.heap.size, 1, none⟩ = some (.slice p l cp) ∧ w3.cell? ⟨w.heap.size + 1, 0, none⟩ = some (.bool m) ∧ w3.cell? ⟨w.heap.size + 1, 1, none⟩ = some (.slice q k cq) :=
    ⟨(((Ext.refl w2).alloc _).trans he3).get gw2.1, (((Ext.refl w2).alloc _).trans he3).get gw2.2.1, (((Ext.refl w2).alloc _).trans he3).get gw2.2.2.1, (((Ext.refl w2).alloc _).trans he3).get gw2.2.2.2⟩
  have b1 : Blk w3 w.heap.size 24 #[.bool n, .slice p l cp] := Blk.ext (Blk.new_at w _ rfl _ _) (((Ext.refl _).alloc _).trans (HB12.out.trans (((Ext.refl w2).alloc _).trans he3)))
  have b2 : Blk w3 (w.heap.size + 1) 24 #[.bool m, .slice q k cq] := Blk.ext (Blk.new_at (w.alloc (.cells #[.bool n, .slice p l cp] 24)) _ (by simp) _ _) (HB12.out.trans (((Ext.refl w2).alloc _).trans he3))
  have b3' : Blk w3 w2.heap.size 24 #[.bool b3, .slice p3 l3 k3] := Blk.ext (Blk.new_at w2 _ rfl _ _) he3
  have b4 : Blk w3 (w.heap.size + 1 + 1) 26 #[.bool false, .slice none 0 0, .bool false, .slice none 0 0] := Blk.ext (Blk.new_at ((w.alloc (.cells #[.bool n, .slice p l cp] 24)).alloc (.cells #[.bool m, .slice q k cq] 24)) _ (by simp) _ _) (HE12.out.trans (((Ext.refl w2).alloc _).trans he3))
  have HEW3 := zH ((HEW.out.alloc _).trans he3)
  have HG3 := zH (HG2.out.ext (((Ext.refl w2).alloc _).trans he3))
  have HBB := zH (And.intro b1 (And.intro b2 (And.intro b3' b4)))
  clear b1 b2 b3' b4 gw2
  go_upto_if 20 with fail
  go_cut [] (fun wx => Halves L w w2.heap.size r.num r.den g wx)
  case first =>
    by_cases hneg : z < 0
    · have hs : z.sign = -1 := Int.sign_eq_neg_one_of_neg hneg
      have HPN := zH (HP.out.2 hneg)
      rw [hs]
      clear hs
      go_wp2_with fail
      refine (r2neg_any n (.slice p l cp) L y w3 (HA.out _ HEW3.out) (by omega)).mono ?_
      rintro e w4 ⟨b1, t1, rfl, hc1, he4⟩
      obtain ⟨x1, y1, z1, rfl⟩ := hc1.form
      have k1 := Blk.ext HBB.out.1 he4
      have k2 := Blk.ext HBB.out.2.1 he4
      have c10 := k1.cell 0
      have c11 := k1.cell 1
      have f10 := k1.frozen 0
      have f11 := k1.frozen 1
      have c20 := k2.cell 0
      have c21 := k2.cell 1
      simp at c10 c11 c20 c21
      have HK1 := zH k1
      have HK2 := zH k2
      have HC1 := zH hc1
      clear k1 k2 hc1 gw3
      go_wp2_with fail
      have o1 := put2_own w4 w.heap.size (.bool b1) (.slice x1 y1 z1)
      have e4 : Ext w (put2 w4 w.heap.size (.bool b1) (.slice x1 y1 z1)) := o1.ext (HEW3.out.trans he4) (Nat.le_refl _)
      have HNB := zH (r2neg_any m (.slice q k cq) L z _ (HB.out _ e4) (by omega))
      have j1 := put2_blk HK1.out (.bool b1) (.slice x1 y1 z1)
      have j2 := HK2.out.own o1 (by omega)
      have J3 := zH ((Blk.ext HBB.out.2.2.1 he4).own o1 (by omega))
      have J4 := zH ((Blk.ext HBB.out.2.2.2 he4).own o1 (by omega))
      have HC1' := zH (HC1.out.own HK1.out (noU2 _ _ _ _) o1)
      have HG4 := zH ((HG3.out.ext he4).own HK1.out (noU2 _ _ _ _) o1)
      obtain ⟨wm, hwm⟩ : ∃ wm, wm = put2 w4 w.heap.size (.bool b1) (.slice x1 y1 z1) := ⟨_, rfl⟩
      rw [← hwm] at o1 e4 HNB j1 j2 J3 J4 HC1' HG4
      simp only [put2] at hwm
      rw [← hwm]
      have HE4 := zH e4
      have HJ1 := zH j1
      have HJ2 := zH j2
      clear hwm o1 e4 j1 j2 c10 c11 c20 c21 f10 f11
      refine HNB.out.mono ?_
      rintro e w5 ⟨b2, t2, rfl, hc2, he5⟩
      obtain ⟨x2, y2, z2, rfl⟩ := hc2.form
      have HC2 := zH hc2
      have k2 := Blk.ext HJ2.out he5
      have c20 := k2.cell 0
      have c21 := k2.cell 1
      have f20 := k2.frozen 0
      have f21 := k2.frozen 1
      simp at c20 c21
      have HK2' := zH k2
      clear k2 hc2
      go_wp2_with fail
      go_meet
      have o2 := put2_own w5 (w.heap.size + 1) (.bool b2) (.slice x2 y2 z2)
      have i1 := (HC1'.out.ext he5).own HK2'.out (noU2 _ _ _ _) o2
      have i2 := HC2.out.own HK2'.out (noU2 _ _ _ _) o2
      have i3 := (HG4.out.ext he5).own HK2'.out (noU2 _ _ _ _) o2
      refine ⟨b1, x1, y1, z1, b2, x2, y2, z2, b3, p3, l3, k3, (Blk.ext HJ1.out he5).own o2 (by omega), put2_blk HK2'.out _ _, (Blk.ext J3.out he5).own o2 (by omega), (Blk.ext J4.out he5).own o2 (by omega), ?_, ?_, i3.isIn (by rw [Int.natAbs_natCast]; exact HNL.out.2.2), o2.ext (HE4.out.trans he5) (by omega)⟩
      · rw [← HPN.out.1]; exact i1.isIn (by rw [Int.natAbs_neg]; exact HNL.out.1)
      · rw [← HPN.out.2]; exact i2.isIn (by rw [Int.natAbs_neg]; exact HNL.out.2.1)
    · have hs : z.sign = 1 := Int.sign_eq_one_of_pos (by have := HZ.out; omega)
      have HPN := zH (HP.out.1 (by have := HZ.out; omega))
      rw [hs]
      clear hs
      go_wp2_with fail
      go_meet
      refine ⟨n, p, l, cp, m, q, k, cq, b3, p3, l3, k3, HBB.out.1, HBB.out.2.1, HBB.out.2.2.1, HBB.out.2.2.2, ?_, ?_, HG3.out.isIn (by rw [Int.natAbs_natCast]; exact HNL.out.2.2), HEW3.out⟩
      · rw [← HPN.out.1]; exact HA.out _ HEW3.out
      · rw [← HPN.out.2]; exact HB.out _ HEW3.out
  case rest =>
    obtain ⟨b1, x1, y1, z1, b2, x2, y2, z2, b4, x4, y4, z4, s1, s2, s3, s4, i1, i2, i3, hx⟩ := hcut
    have HD1 := zH (fun W (x : Ext wc W) => r2div_any b1 b4 _ _ L _ _ r.num W (i1.ext x) (i3.ext x) hL (by have := HG0.out; omega) rfl)
    have HD2 := zH (fun W (x : Ext wc W) => r2div_any b2 b4 _ _ L _ _ (r.den : Int) W (i2.ext x) (i3.ext x) hL (by have := HG0.out; omega) rfl)
    have HX := zH hx
    have HS := zH (show ∀ W, Ext wc W → Blk W w.heap.size 24 #[.bool b1, .slice x1 y1 z1] ∧ Blk W (w.heap.size + 1) 24 #[.bool b2, .slice x2 y2 z2] ∧ Blk W w2.heap.size 24 #[.bool b4, .slice x4 y4 z4] ∧ Blk W (w.heap.size + 1 + 1) 26 #[.bool false, .slice none 0 0, .bool false, .slice none 0 0] from fun W x => ⟨s1.ext x, s2.ext x, s3.ext x, s4.ext x⟩)
    clear i1 i2 i3 hx s1 s2 s3 s4 H1 HN0 HSG HP
    have g0 := HS.out wc (Ext.refl _)
    have c10 := g0.1.cell 0
    have c11 := g0.1.cell 1
    have c30 := g0.2.2.1.cell 0
    have c31 := g0.2.2.1.cell 1
    simp at c10 c11 c30 c31
    clear g0
    go_wp2_with fail
    refine (HD1.out _ (Ext.refl _)).mono ?_
    rintro e w5 ⟨n1, v1, n2, v2, rfl, hq1, hr1, he5⟩
    obtain ⟨f1, f2, f3, rfl⟩ := hq1.form
    obtain ⟨f4, f5, f6, rfl⟩ := hr1.form
    have HQ1 := zH hq1
    have g5 := HS.out w5 he5
    have c20 := g5.2.1.cell 0
    have c21 := g5.2.1.cell 1
    have c32 := g5.2.2.1.cell 0
    have c33 := g5.2.2.1.cell 1
    have z1 : w.heap.size + 1 < w5.heap.size := Blk.lt g5.2.1
    have z2 : w2.heap.size < w5.heap.size := Blk.lt g5.2.2.1
    have z0 : w.heap.size < w5.heap.size := by omega
    have z3 : w2.heap.size < w5.heap.size + 1 := by omega
    have z4 : w.heap.size + 1 < w5.heap.size + 1 := by omega
    simp at c20 c21 c32 c33
    clear g5 hq1 hr1 c10 c11 c30 c31
    go_wp2_with fail
    refine (HD2.out _ ((he5.alloc _).alloc _)).mono ?_
    rintro e w6 ⟨n3, v3, n4, v4, rfl, hq2, hr2, he6⟩
    obtain ⟨g1, g2, g3, rfl⟩ := hq2.form
    obtain ⟨g4, g5, g6, rfl⟩ := hr2.form
    have HQ2 := zH hq2
    have k6 := HS.out w6 (((he5.alloc _).alloc _).trans he6)
    have z5 : w.heap.size + 1 + 1 < w6.heap.size := Blk.lt k6.2.2.2
    have d0 := k6.2.2.2.cell 0
    have d1 := k6.2.2.2.cell 1
    have d2 := k6.2.2.2.cell 2
    have d3 := k6.2.2.2.cell 3
    have e0 := k6.2.2.2.frozen 0
    have e1 := k6.2.2.2.frozen 1
    have e2 := k6.2.2.2.frozen 2
    have e3 := k6.2.2.2.frozen 3
    have HR6 := zH k6.2.2.2
    simp at d0 d1 d2 d3
    have p0 : w6.cell? ⟨w5.heap.size, 0, none⟩ = some (.bool n1) := he6.get (by simp)
    have p1 : w6.cell? ⟨w5.heap.size, 1, none⟩ = some (.slice f1 f2 f3) := he6.get (by simp)
    have z6 : w5.heap.size + 1 < w6.heap.size := by
      have h1 := he6.size
      simp only [World.size_alloc] at h1
      omega
    have z7 : w5.heap.size < w6.heap.size := by omega
    have z8 : w5.heap.size < w6.heap.size + 1 := by omega
    have z9 : w.heap.size + 1 < w6.heap.size := by omega
    have z10 : w.heap.size + 1 + 1 ≠ w6.heap.size := by omega
    have z11 : w.heap.size + 1 + 1 ≠ w6.heap.size + 1 := by omega
    have HQ1' := zH (HQ1.out.ext ((((Ext.refl _).alloc _).alloc _).trans he6))
    have HX6 := zH (HX.out.trans (((he5.alloc _).alloc _).trans he6))
    clear k6 hq2 hr2 c20 c21 c32 c33
    go_wp2_with fail
    have o := put4_own w6 (w.heap.size + 1 + 1) (.bool n1) (.slice f1 f2 f3) (.bool n3) (.slice g1 g2 g3)
    have hrat : RatC _ n1 (.slice f1 f2 f3) n3 (.slice g1 g2 g3) r := RatC.own (⟨HQ1'.out, HQ2.out⟩ : RatC w6 n1 (.slice f1 f2 f3) n3 (.slice g1 g2 g3) r) HR6.out (noU4 _ _ _ _ _ _ _ _) o
    have hext := o.ext HX6.out (by omega)
    simp only [put4] at hrat hext
    refine bodyPost_ret (v := .agg #[.bool n1, .slice f1 f2 f3, .bool n3, .slice g1 g2 g3]) ?_ rfl ⟨_, _, _, _, rfl, hrat.ext (((Ext.refl _).alloc _).alloc _), (hext.alloc _).alloc _⟩
    simp [results, Tryz.results66, go_sem, *]
end Go.Proofs.YtllpkoinjompcaaGreat

namespace Go.Proofs.YtllpkoinjompcaaGreat
open Go.RowKit
attribute [local go_sem ↓] Go.wp_at_zero Go.wp_at_succ run_max_ii run_min_ii

set_option maxHeartbeats 1000000 in
theorem r3fromInt_any (a : Int) (w : World) (h1 : -9223372036854775808 ≤ a) (h2 : a ≤ 9223372036854775807) :
    Calls Tryz.prog 36 #[.int .i64 a] w (RetR (a : Rat) w) := by
  have HF := zH (fun W => r2fromInt_any a W h1 h2)
  have HF1 := zH (fun W => r2fromInt_any 1 W (by omega) (by omega))
  have HG := zH (newRat w)
  have HST := zH (fun w1 n1 t1 n2 t2 u0 u1 u2 u3 => stored_rat (w := w) (w1 := w1) (n := n1) (u := t1) (m := n2) (v := t2) (q := (a : Rat)) (u0 := u0) (u1 := u1) (u2 := u2) (u3 := u3))
  clear h1 h2
  go_enter Tryz.func36, Tryz.ntmps36
  go_wp2_with fail
  refine (HF.out _).mono ?_
  rintro e w1 ⟨b1, t1, rfl, hc1, he1⟩
  have HC1 := zH hc1
  obtain ⟨p1, l1, k1, rfl⟩ := hc1.form
  clear hc1
  go_wp2_with fail
  refine (HF1.out _).mono ?_
  rintro e w2 ⟨b2, t2, rfl, hc2, he2⟩
  have HC2 := zH hc2
  obtain ⟨p2, l2, k2, rfl⟩ := hc2.form
  have gk := HG.out _ (he1.trans he2)
  clear hc2
  go_wp2_with fail
  have st := HST.out _ _ _ _ _ (.bool b1) (.slice p1 l1 k1) (.bool b2) (.slice p2 l2 k2) (he1.trans he2) (ratC_int (HC1.out.ext he2) HC2.out)
  refine bodyPost_ret (v := .agg #[.bool b1, .slice p1 l1 k1, .bool b2, .slice p2 l2 k2]) ?_ rfl ⟨_, _, _, _, rfl, st.1, st.2⟩
  simp [results, Tryz.results36, go_sem, *]

set_option maxRecDepth 20000 in
set_option maxHeartbeats 1000000 in
theorem r3norm_any (n m : Bool) (u v : Value) (L : Nat) (q : Rat) (w : World) (h : RatIn L w n u m v q) (hL : L ≤ 150000) :
    Calls Tryz.prog 61 #[.agg #[.bool n, u, .bool m, v]] w (RetR q w) := by
  obtain ⟨y, z, hu, hv, hq⟩ := h
  obtain ⟨p, l, cp, rfl⟩ := hu.form
  obtain ⟨q2, k, cq, rfl⟩ := hv.form
  have hE1 : Ext w ((w.alloc (.cells #[.bool n, .slice p l cp, .bool m, .slice q2 k cq] 26)).alloc (.cells #[.bool false, .slice none 0 0, .bool false, .slice none 0 0] 26)) := ((Ext.refl _).alloc _).alloc _
  have HG := zH (newRat (w.alloc (.cells #[.bool n, .slice p l cp, .bool m, .slice q2 k cq] 26)))
  have HST := zH (fun w1 n1 t1 n2 t2 u0 u1 u2 u3 => stored_rat (w := w.alloc (.cells #[.bool n, .slice p l cp, .bool m, .slice q2 k cq] 26)) (w1 := w1) (n := n1) (u := t1) (m := n2) (v := t2) (q := q) (u0 := u0) (u1 := u1) (u2 := u2) (u3 := u3))
  have HS := zH (r2sign_any m (.slice q2 k cq) L z _ (hv.ext hE1) (by omega))
  by_cases hz : z = 0
  · subst hz
    have hq0 : q = ((0 : Int) : Rat) := by rw [hq, Rat.divInt_zero]; rfl
    subst hq0
    have HF := zH (fun W => r3fromInt_any 0 W (by omega) (by omega))
    clear hu hv hq hE1
    go_enter Tryz.func61, Tryz.ntmps61
    go_wp2_with fail
    refine HS.out.mono ?_
    rintro e w1 ⟨rfl, he⟩
    rw [show Int.sign 0 = 0 from rfl]
    go_wp2_with fail
    refine (HF.out _).mono ?_
    rintro e w2 ⟨b1, t1, b2, t2, rfl, hc, he2⟩
    have HC := zH hc
    obtain ⟨p1, l1, k1, p2, l2, k2, rfl, rfl⟩ := hc.form
    have hE := he.trans he2
    have gk := HG.out _ hE
    simp only [World.size_alloc] at gk
    have HE := zH hE
    clear hc hE
    go_wp2_with fail
    have st := HST.out _ _ _ _ _ (.bool b1) (.slice p1 l1 k1) (.bool b2) (.slice p2 l2 k2) HE.out HC.out
    simp only [World.size_alloc] at st
    refine bodyPost_ret (v := .agg #[.bool b1, .slice p1 l1 k1, .bool b2, .slice p2 l2 k2]) ?_ rfl ⟨_, _, _, _, rfl, st.1, ((Ext.refl _).alloc _).trans st.2⟩
    simp [results, Tryz.results61, go_sem, *]
  · have HN0 := fun W (x : Ext w W) => r3reduce_any n m (.slice p l cp) (.slice q2 k cq) L y z W (hu.ext x) (hv.ext x) hL hz
    rw [← hq] at HN0
    have HN := zH HN0
    have hs0 : (z.sign == 0) = false := by
      rw [beq_eq_false_iff_ne, ne_eq, Int.sign_eq_zero_iff_zero]; exact hz
    have HE1 := zH hE1
    have hb : Ext (w.alloc (.cells #[.bool n, .slice p l cp, .bool m, .slice q2 k cq] 26)) ((w.alloc (.cells #[.bool n, .slice p l cp, .bool m, .slice q2 k cq] 26)).alloc (.cells #[.bool false, .slice none 0 0, .bool false, .slice none 0 0] 26)) := (Ext.refl _).alloc _
    have HB := zH hb
    generalize z.sign = sz at HS hs0
    clear hu hv hq hE1 hz HN0 hb
    go_enter Tryz.func61, Tryz.ntmps61
    go_wp2_with fail
    refine HS.out.mono ?_
    rintro e w1 ⟨rfl, he⟩
    have gr := ratBox w n m (.slice p l cp) (.slice q2 k cq) _ (HB.out.trans he)
    go_wp2_with fail
    refine (HN.out _ (HE1.out.trans he)).mono ?_
    rintro e w2 ⟨b1, t1, b2, t2, rfl, hc, he2⟩
    have HC := zH hc
    obtain ⟨p1, l1, k1, p2, l2, k2, rfl, rfl⟩ := hc.form
    have hE := he.trans he2
    have gk := HG.out _ hE
    simp only [World.size_alloc] at gk
    have HE := zH hE
    clear hc hE gr
    go_wp2_with fail
    have st := HST.out _ _ _ _ _ (.bool b1) (.slice p1 l1 k1) (.bool b2) (.slice p2 l2 k2) HE.out HC.out
    simp only [World.size_alloc] at st
    refine bodyPost_ret (v := .agg #[.bool b1, .slice p1 l1 k1, .bool b2, .slice p2 l2 k2]) ?_ rfl ⟨_, _, _, _, rfl, st.1, ((Ext.refl _).alloc _).trans st.2⟩
    simp [results, Tryz.results61, go_sem, *]

set_option maxRecDepth 20000 in
set_option maxHeartbeats 1000000 in
theorem r3neg_any (n m : Bool) (u v : Value) (L : Nat) (q : Rat) (w : World) (h : RatIn L w n u m v q) (hL : L ≤ 140000) :
    Calls Tryz.prog 64 #[.agg #[.bool n, u, .bool m, v]] w (RetR (-q) w) := by
  obtain ⟨p, l, cp, q2, k, cq, rfl, rfl⟩ := h.form
  have hE1 : Ext w ((w.alloc (.cells #[.bool n, .slice p l cp, .bool m, .slice q2 k cq] 26)).alloc (.cells #[.bool false, .slice none 0 0, .bool false, .slice none 0 0] 26)) := ((Ext.refl _).alloc _).alloc _
  have HN := zH (r3norm_any n m _ _ L q _ (h.ext hE1) (by omega))
  have HG := zH (newRat (w.alloc (.cells #[.bool n, .slice p l cp, .bool m, .slice q2 k cq] 26)))
  have HST := zH (fun w1 n1 t1 n2 t2 u0 u1 u2 u3 => stored_rat (w := w.alloc (.cells #[.bool n, .slice p l cp, .bool m, .slice q2 k cq] 26)) (w1 := w1) (n := n1) (u := t1) (m := n2) (v := t2) (q := -q) (u0 := u0) (u1 := u1) (u2 := u2) (u3 := u3))
  have hr := h.rl
  have hnn : Nm.nl q.num.natAbs ≤ L + 1 := by unfold Nm.rl at hr; omega
  clear h hE1 hr
  go_enter Tryz.func64, Tryz.ntmps64
  go_wp2_with fail
  refine HN.out.mono ?_
  rintro e w1 ⟨b1, t1, b2, t2, rfl, hc, he⟩
  obtain ⟨p1, l1, k1, p2, l2, k2, rfl, rfl⟩ := hc.form
  have HC := zH hc
  have HNG := zH (fun W (x : Ext w1 W) => r2neg_any b1 (.slice p1 l1 k1) (L + 1) q.num W ((hc.1.ext x).isIn hnn) (by omega))
  have HE := zH he
  clear hc
  go_wp2_with fail
  have X0 := Blk.ext (Blk.new_at (w.alloc (.cells #[.bool n, .slice p l cp, .bool m, .slice q2 k cq] 26)) (w.heap.size + 1) (by simp) 26 #[.bool false, .slice none 0 0, .bool false, .slice none 0 0]) (HE.out.alloc (.cells #[.bool b1, .slice p1 l1 k1, .bool b2, .slice p2 l2 k2] 26))
  have B0 := Blk.new_at w1 w1.heap.size rfl 26 #[.bool b1, .slice p1 l1 k1, .bool b2, .slice p2 l2 k2]
  have HX0 := zH X0
  have hlt := Blk.lt (Blk.ext (Blk.new_at (w.alloc (.cells #[.bool n, .slice p l cp, .bool m, .slice q2 k cq] 26)) (w.heap.size + 1) (by simp) 26 #[.bool false, .slice none 0 0, .bool false, .slice none 0 0]) HE.out)
  have HEW := zH (show Ext w (w1.alloc (.cells #[.bool b1, .slice p1 l1 k1, .bool b2, .slice p2 l2 k2] 26)) from (((Ext.refl _).alloc _).alloc _).trans (HE.out.alloc _))
  have HN2 := zH (fun W (x : Ext (w1.alloc (.cells #[.bool b1, .slice p1 l1 k1, .bool b2, .slice p2 l2 k2] 26)) W) => HNG.out W (((Ext.refl _).alloc _).trans x))
  have HDC := zH (HC.out.2.ext ((Ext.refl w1).alloc (.cells #[.bool b1, .slice p1 l1 k1, .bool b2, .slice p2 l2 k2] 26)))
  have HSZ := zH (show w.heap.size ≤ w.heap.size + 1 by omega)
  clear X0
  generalize (w1.alloc (.cells #[.bool b1, .slice p1 l1 k1, .bool b2, .slice p2 l2 k2] 26)) = wb at *
  generalize hX : w1.heap.size = X at *
  generalize hR : w.heap.size + 1 = R at *
  have n1 : X ≠ R := by omega
  have gl : ∀ x, Own R wb x → x.cell? ⟨X, 0, none⟩ = some (.bool b1) ∧ x.cell? ⟨X, 1, none⟩ = some (.slice p1 l1 k1) ∧ x.cell? ⟨X, 2, none⟩ = some (.bool b2) ∧ x.cell? ⟨X, 3, none⟩ = some (.slice p2 l2 k2) := fun x h =>
    ⟨(B0.own h n1).cell 0, (B0.own h n1).cell 1, (B0.own h n1).cell 2, (B0.own h n1).cell 3⟩
  clear B0 hX hlt
  go_region_held3 (fun x => Own R wb x) (first | (with_reducible assumption) | (with_reducible exact Own.drew (Own.refl _ _)) | (with_reducible (apply Own.of_ext; assumption)) | (with_reducible (refine Own.set_at (Own.set_at (Own.set_at (Own.set_at ?_ _ _ _) _ _ _) _ _ _) _ _ _; first | assumption | (apply Own.of_ext; assumption))))
    (first | (go_at_call 84; ((with_reducible refine (HN2.out _ (by first | assumption | exact Ext.drew (Ext.refl _))).mono ?_)); rintro e wz ⟨j1, t1, rfl, hi, hen3⟩; obtain ⟨g1, g2, g3, rfl⟩ := hi.form; have hx3 : Ext wb wz := Ext.trans (by first | assumption | exact Ext.drew (Ext.refl _)) hen3; have X0 := Blk.ext HX0.out hx3; have x00 := X0.cell 0; have x01 := X0.cell 1; have x02 := X0.cell 2; have x03 := X0.cell 3; have y00 := X0.frozen 0; have y01 := X0.frozen 1; have y02 := X0.frozen 2; have y03 := X0.frozen 3; simp at x00 x01 x02 x03))
  go_wp2_with fail
  have o := put4_own wz R (.bool j1) (.slice g1 g2 g3) (.bool b2) (.slice p2 l2 k2)
  have hrat : RatC _ j1 (.slice g1 g2 g3) b2 (.slice p2 l2 k2) (-q) := RatC.own (⟨by rw [Rat.neg_num]; exact hi, by rw [Rat.neg_den]; exact HDC.out.ext hx3⟩ : RatC wz j1 (.slice g1 g2 g3) b2 (.slice p2 l2 k2) (-q)) X0 (noU4 _ _ _ _ _ _ _ _) o
  have hext := o.ext (HEW.out.trans hx3) HSZ.out
  simp only [put4] at hrat hext
  refine bodyPost_ret (v := .agg #[.bool j1, .slice g1 g2 g3, .bool b2, .slice p2 l2 k2]) ?_ rfl ⟨_, _, _, _, rfl, hrat, hext⟩
  simp [results, Tryz.results64, go_sem, *]
end Go.Proofs.YtllpkoinjompcaaGreat

namespace Go.Proofs.YtllpkoinjompcaaGreat
open Go.RowKit
attribute [local go_sem ↓] Go.wp_at_zero Go.wp_at_succ run_max_ii run_min_ii

theorem DigS.set {w : World} {v : Value} {xs : List Nat} (h : DigS w v xs) {p : Addr} {c : Value} (hc : w.cell? p = some c) (hn : ∀ x : Int, c ≠ .int .u32 x) (u : Value) : DigS (w.setCell p u) v xs := by
  obtain ⟨q, cap, rfl, hcap, hd, hq⟩ := h
  refine ⟨q, cap, rfl, hcap, hd, fun h0 => ?_⟩
  obtain ⟨b, o, rfl, hb⟩ := hq h0
  refine ⟨b, o, rfl, fun i hi => ?_⟩
  have h1 := hb i hi
  rw [World.cell?_setCell_other _ _ _ _ (by
    rintro rfl
    rw [hc] at h1
    exact hn _ (Option.some.inj h1))]
  exact h1
theorem RatC.setB {w : World} {n m : Bool} {u v : Value} {q : Rat} (h : RatC w n u m v q) {p : Addr} {b : Bool} (hc : w.cell? p = some (.bool b)) (x : Value) : RatC (w.setCell p x) n u m v q :=
  ⟨⟨h.1.1, DigS.set h.1.2 hc (fun _ => by simp) x⟩, ⟨h.2.1, DigS.set h.2.2 hc (fun _ => by simp) x⟩⟩
theorem RatC.setS {w : World} {n m : Bool} {u v : Value} {q : Rat} (h : RatC w n u m v q) {p : Addr} {a : Option Addr} {l c : Nat} (hc : w.cell? p = some (.slice a l c)) (x : Value) : RatC (w.setCell p x) n u m v q :=
  ⟨⟨h.1.1, DigS.set h.1.2 hc (fun _ => by simp) x⟩, ⟨h.2.1, DigS.set h.2.2 hc (fun _ => by simp) x⟩⟩
theorem RatC.via {w w' : World} {n m : Bool} {u v : Value} {q : Rat} (e : Ext w w') (h : RatC w n u m v q) : RatC w' n u m v q := h.ext e
theorem RatC.alloc {w : World} {n m : Bool} {u v : Value} {q : Rat} (h : RatC w n u m v q) (o : Obj) : RatC (w.alloc o) n u m v q := h.ext ((Ext.refl _).alloc o)
theorem RatC.drew {w : World} {n m : Bool} {u v : Value} {q : Rat} (h : RatC w n u m v q) : RatC w.drew n u m v q := h.ext (Ext.refl _).drew

theorem bcell {W w1 : World} (hb : Ext W w1) : (∀ b o, b < W.heap.size → w1.cell? ⟨b, o, none⟩ = W.cell? ⟨b, o, none⟩) ∧ (∀ b o, b < W.heap.size → w1.frozen? ⟨b, o, none⟩ = W.frozen? ⟨b, o, none⟩) :=
  ⟨fun b o h => hb.cell (p := ⟨b, o, none⟩) h, fun b o h => hb.frozen (p := ⟨b, o, none⟩) h⟩

def Two (w : World) (q r : Rat) (s t : Value) (w' : World) : Prop :=
  ∃ X Y b1 x1 y1 z1 b2 x2 y2 z2 b3 x3 y3 z3 b4 x4 y4 z4, s = .pointer (some ⟨X, 0, none⟩) ∧ t = .pointer (some ⟨Y, 0, none⟩) ∧ w.heap.size ≤ X ∧ w.heap.size ≤ Y ∧
    (w'.cell? ⟨X, 0, none⟩ = some (.bool b1) ∧ w'.cell? ⟨X, 1, none⟩ = some (.slice x1 y1 z1) ∧ w'.cell? ⟨X, 2, none⟩ = some (.bool b2) ∧ w'.cell? ⟨X, 3, none⟩ = some (.slice x2 y2 z2)) ∧
    (w'.cell? ⟨Y, 0, none⟩ = some (.bool b3) ∧ w'.cell? ⟨Y, 1, none⟩ = some (.slice x3 y3 z3) ∧ w'.cell? ⟨Y, 2, none⟩ = some (.bool b4) ∧ w'.cell? ⟨Y, 3, none⟩ = some (.slice x4 y4 z4)) ∧
    RatC w' b1 (.slice x1 y1 z1) b2 (.slice x2 y2 z2) q ∧ RatC w' b3 (.slice x3 y3 z3) b4 (.slice x4 y4 z4) r ∧ Ext w w'

set_option maxRecDepth 20000 in
set_option maxHeartbeats 4000000 in
theorem r3mul_any (n m n' m' : Bool) (u v u' v' : Value) (L : Nat) (q r : Rat) (w : World) (h : RatIn L w n u m v q) (h' : RatIn L w n' u' m' v' r) (hL : L ≤ 70000) :
    Calls Tryz.prog 37 #[.agg #[.bool n, u, .bool m, v], .agg #[.bool n', u', .bool m', v']] w (RetR (q * r) w) := by
  obtain ⟨p1, l1, c1, p2, l2, c2, rfl, rfl⟩ := h.form
  obtain ⟨p3, l3, c3, p4, l4, c4, rfl, rfl⟩ := h'.form
  have HNA := zH (fun W (x : Ext w W) => r3norm_any n m (.slice p1 l1 c1) (.slice p2 l2 c2) L q W (h.ext x) (by omega))
  have HNB := zH (fun W (x : Ext w W) => r3norm_any n' m' (.slice p3 l3 c3) (.slice p4 l4 c4) L r W (h'.ext x) (by omega))
  have hnl : Nm.nl q.num.natAbs ≤ L + 1 ∧ Nm.nl (q.den : Int).natAbs ≤ L + 1 ∧ Nm.nl r.num.natAbs ≤ L + 1 ∧ Nm.nl (r.den : Int).natAbs ≤ L + 1 := by
    have h1 := h.rl
    have h2 := h'.rl
    unfold Nm.rl at h1 h2
    simp only [Int.natAbs_natCast]
    omega
  have HNL := zH hnl
  clear h h' hnl
  go_enter Tryz.func37, Tryz.ntmps37
  go_wp2_with fail
  have gA : ∀ x, Ext (((w.alloc (.cells #[.bool n, .slice p1 l1 c1, .bool m, .slice p2 l2 c2] 26)).alloc (.cells #[.bool n', .slice p3 l3 c3, .bool m', .slice p4 l4 c4] 26)).alloc (.cells #[.bool false, .slice none 0 0, .bool false, .slice none 0 0] 26)) x → x.cell? ⟨w.heap.size, 0, none⟩ = some (.bool n) ∧ x.cell? ⟨w.heap.size, 1, none⟩ = some (.slice p1 l1 c1) ∧ x.cell? ⟨w.heap.size, 2, none⟩ = some (.bool m) ∧ x.cell? ⟨w.heap.size, 3, none⟩ = some (.slice p2 l2 c2) ∧
      x.cell? ⟨w.heap.size + 1, 0, none⟩ = some (.bool n') ∧ x.cell? ⟨w.heap.size + 1, 1, none⟩ = some (.slice p3 l3 c3) ∧ x.cell? ⟨w.heap.size + 1, 2, none⟩ = some (.bool m') ∧ x.cell? ⟨w.heap.size + 1, 3, none⟩ = some (.slice p4 l4 c4) := fun x hx => by
    have a1 := ratBox w n m (.slice p1 l1 c1) (.slice p2 l2 c2) x ((((Ext.refl _).alloc _).alloc _).trans hx)
    have a2 := ratBox (w.alloc (.cells #[.bool n, .slice p1 l1 c1, .bool m, .slice p2 l2 c2] 26)) n' m' (.slice p3 l3 c3) (.slice p4 l4 c4) x (((Ext.refl _).alloc _).trans hx)
    simp only [World.size_alloc] at a2
    exact ⟨a1.1, a1.2.1, a1.2.2.1, a1.2.2.2.1, a2.1, a2.2.1, a2.2.2.1, a2.2.2.2.1⟩
  have HWB := zH (show Ext w (((w.alloc (.cells #[.bool n, .slice p1 l1 c1, .bool m, .slice p2 l2 c2] 26)).alloc (.cells #[.bool n', .slice p3 l3 c3, .bool m', .slice p4 l4 c4] 26)).alloc (.cells #[.bool false, .slice none 0 0, .bool false, .slice none 0 0] 26)) from (((Ext.refl _).alloc _).alloc _).alloc _)
  have HR0 := zH (Blk.new_at ((w.alloc (.cells #[.bool n, .slice p1 l1 c1, .bool m, .slice p2 l2 c2] 26)).alloc (.cells #[.bool n', .slice p3 l3 c3, .bool m', .slice p4 l4 c4] 26)) (w.heap.size + 1 + 1) (by simp) 26 #[.bool false, .slice none 0 0, .bool false, .slice none 0 0])
  have hz : (((w.alloc (.cells #[.bool n, .slice p1 l1 c1, .bool m, .slice p2 l2 c2] 26)).alloc (.cells #[.bool n', .slice p3 l3 c3, .bool m', .slice p4 l4 c4] 26)).alloc (.cells #[.bool false, .slice none 0 0, .bool false, .slice none 0 0] 26)).heap.size = w.heap.size + 1 + 1 + 1 := by simp
  have HSZ := zH hz
  clear hz
  generalize (((w.alloc (.cells #[.bool n, .slice p1 l1 c1, .bool m, .slice p2 l2 c2] 26)).alloc (.cells #[.bool n', .slice p3 l3 c3, .bool m', .slice p4 l4 c4] 26)).alloc (.cells #[.bool false, .slice none 0 0, .bool false, .slice none 0 0] 26)) = wb at *
  go_cut [5, 6] (fun s t wx => Two wb q r s t wx)
  case first =>
    clear HR0 HNL
    go_region_held3 (fun x => Ext wb x) ((first | (with_reducible assumption) | ((repeat (first | (with_reducible assumption) | (with_reducible exact Ext.refl _) | (with_reducible apply Ext.drew) | (with_reducible apply Ext.alloc) | ((with_reducible refine Ext.setCell ?_ ?_ _); rotate_left; focus (first | omega | (simp; done) | (simp; omega))) | (with_reducible (apply Ext.via; assumption)))); done)))
      (first | (go_at_call 61; ((with_reducible refine (HNA.out _ (HWB.out.trans (by first | assumption | exact Ext.drew (Ext.refl _)))).mono ?_)); rintro e wa ⟨b1, t1, b2, t2, rfl, hca, hea⟩; obtain ⟨x1, y1, z1, x2, y2, z2, rfl, rfl⟩ := hca.form; have hsa := hea.size; (try simp at hsa); obtain ⟨ka, fa⟩ := bcell hea; (try simp at ka); (try simp at fa); (try have l1 : wb.heap.size < wa.heap.size := by omega); (try have l2 : wb.heap.size + 1 < wa.heap.size := by omega)) | (go_at_call 61; ((with_reducible refine (HNB.out _ (HWB.out.trans (by first | assumption | exact Ext.drew (Ext.refl _)))).mono ?_)); rintro e wd ⟨b3, t3, b4, t4, rfl, hcb, heb⟩; obtain ⟨x3, y3, z3, x4, y4, z4, rfl, rfl⟩ := hcb.form; have hsb := heb.size; (try simp at hsb); obtain ⟨kb, fb⟩ := bcell heb; (try simp at kb); (try simp at fb); (try have l3 : wb.heap.size < wd.heap.size := by omega); (try have l4 : wb.heap.size + 1 < wd.heap.size := by omega); (try have l5 : wa.heap.size < wd.heap.size := by omega); (try have l6 : wa.heap.size + 1 < wd.heap.size := by omega)))
    all_goals go_wp2_with fail
    all_goals go_meet
    all_goals have lt2 : ∀ a : Nat, a < a + 1 + 1 := fun a => by omega
    all_goals try have q1 : wa.heap.size ≠ wb.heap.size := by omega
    all_goals try have q2 : wb.heap.size ≠ wa.heap.size := by omega
    all_goals try have q3 : wb.heap.size < wa.heap.size + 1 := by omega
    all_goals refine ⟨_, _, b1, x1, y1, z1, b2, x2, y2, z2, b3, x3, y3, z3, b4, x4, y4, z4, rfl, rfl, ?_, ?_, ⟨?_, ?_, ?_, ?_⟩, ⟨?_, ?_, ?_, ?_⟩, ?_, ?_, ?_⟩
    all_goals first
      | (with_reducible assumption)
      | omega
      | (simp [go_sem, *]; done)
      | (rw [World.cell?_setCell_far, World.cell?_setCell_far, World.cell?_setCell_far, World.cell?_setCell_far] <;> first | (simp [go_sem, *]; done) | (simp; omega))
      | ((repeat (first | (with_reducible assumption) | (with_reducible apply RatC.drew) | (with_reducible apply RatC.alloc) | ((with_reducible refine RatC.setB (b := false) ?_ ?_ _); rotate_left; focus (simp [go_sem, *]; done)) | ((with_reducible refine RatC.setS (a := none) (l := 0) (c := 0) ?_ ?_ _); rotate_left; focus (simp [go_sem, *]; done)) | (with_reducible (apply RatC.via; assumption)))); done)
      | (first | (with_reducible assumption) | ((repeat (first | (with_reducible assumption) | (with_reducible exact Ext.refl _) | (with_reducible apply Ext.drew) | (with_reducible apply Ext.alloc) | ((with_reducible refine Ext.setCell ?_ ?_ _); rotate_left; focus (first | omega | (simp; done) | (simp; omega))) | (with_reducible (apply Ext.via; assumption)))); done))
  case rest =>
    clear HNA HNB gA
    obtain ⟨X, Y, b1, x1, y1, z1, b2, x2, y2, z2, b3, x3, y3, z3, b4, x4, y4, z4, rfl, rfl, hX, hY, cX, cY, s3, s4, s5⟩ := hcut
    have hnl := HNL.out
    have H1 := zH (fun W (x : Ext wc W) => r2mul_any _ _ _ _ (L + 1) q.num r.num W ((s3.ext x).1.isIn hnl.1) ((s4.ext x).1.isIn hnl.2.2.1) (by omega))
    have H2 := zH (fun W (x : Ext wc W) => r2mul_any _ _ _ _ (L + 1) q.den r.den W ((s3.ext x).2.isIn hnl.2.1) ((s4.ext x).2.isIn hnl.2.2.2) (by omega))
    have hd0 : (q.den : Int) * r.den ≠ 0 := Int.mul_ne_zero (by have := q.den_nz; omega) (by have := r.den_nz; omega)
    have HLW := zH (fun W n1 v1 n2 v2 (x : IntC W n1 v1 (q.num * r.num)) (y : IntC W n2 v2 ((q.den : Int) * r.den)) => (show Calls Tryz.prog 66 #[.agg #[.bool n1, v1], .agg #[.bool n2, v2]] W (RetR (q * r) W) by
      rw [Nm.mul_eq]; exact r3reduce_any n1 n2 v1 v2 (L + 1 + (L + 1)) _ _ W (x.isIn (nl_mul_int _ _ _ _ hnl.1 hnl.2.2.1)) (y.isIn (nl_mul_int _ _ _ _ hnl.2.1 hnl.2.2.2)) (by omega) hd0))
    clear hd0
    have HX0 := zH (HR0.out.ext s5)
    have HEM := zH (HWB.out.trans s5)
    have HCC := zH (And.intro cX cY)
    have n2 : X ≠ w.heap.size + 1 + 1 := by have := HSZ.out; omega
    have n5 : Y ≠ w.heap.size + 1 + 1 := by have := HSZ.out; omega
    have HS1 := zH (show w.heap.size ≤ w.heap.size + 1 + 1 by omega)
    clear s3 s4 s5 cX cY hnl hX hY
    go_wp2_with fail
    generalize hR : w.heap.size + 1 + 1 = R at *
    have gl : ∀ w', Own R wc w' → w'.cell? ⟨X, 0, none⟩ = some (.bool b1) ∧ w'.cell? ⟨X, 1, none⟩ = some (.slice x1 y1 z1) ∧ w'.cell? ⟨X, 2, none⟩ = some (.bool b2) ∧ w'.cell? ⟨X, 3, none⟩ = some (.slice x2 y2 z2) ∧
        w'.cell? ⟨Y, 0, none⟩ = some (.bool b3) ∧ w'.cell? ⟨Y, 1, none⟩ = some (.slice x3 y3 z3) ∧ w'.cell? ⟨Y, 2, none⟩ = some (.bool b4) ∧ w'.cell? ⟨Y, 3, none⟩ = some (.slice x4 y4 z4) := fun w' x =>
      ⟨x.get HCC.out.1.1 n2, x.get HCC.out.1.2.1 n2, x.get HCC.out.1.2.2.1 n2, x.get HCC.out.1.2.2.2 n2, x.get HCC.out.2.1 n5, x.get HCC.out.2.2.1 n5, x.get HCC.out.2.2.2.1 n5, x.get HCC.out.2.2.2.2 n5⟩
    go_region_held3 (fun w' => Own R wc w') (first | (with_reducible assumption) | (with_reducible exact Own.drew (Own.refl _ _)) | (with_reducible (apply Own.of_ext; assumption)) | (with_reducible (refine Own.set_at (Own.set_at (Own.set_at (Own.set_at ?_ _ _ _) _ _ _) _ _ _) _ _ _; first | assumption | (apply Own.of_ext; assumption))))
      (first | (go_at_call 67; ((with_reducible refine (H1.out _ (by first | assumption | exact Ext.drew (Ext.refl _))).mono ?_)); rintro e wx ⟨k1, r1, rfl, hi1, hen1⟩; obtain ⟨f1, f2, f3, rfl⟩ := hi1.form; have hx1 : Ext wc wx := Ext.trans (by first | assumption | exact Ext.drew (Ext.refl _)) hen1) | (go_at_call 67; ((with_reducible refine (H2.out _ (by first | assumption | exact Ext.drew (Ext.refl _))).mono ?_)); rintro e wy ⟨k2, r2, rfl, hi2, hen2⟩; obtain ⟨f4, f5, f6, rfl⟩ := hi2.form; have hx2 : Ext wc wy := Ext.trans (by first | assumption | exact Ext.drew (Ext.refl _)) hen2) | (go_at_call 66; ((with_reducible refine (HLW.out _ _ _ _ _ (hi1.ext hen2) hi2).mono ?_)); rintro e wz ⟨j1, t1, j2, t2, rfl, hc, hen9⟩; obtain ⟨g1, g2, g3, g4, g5, g6, rfl, rfl⟩ := hc.form; have hx : Ext wc wz := Ext.trans (by first | assumption | exact Ext.drew (Ext.refl _)) hen9; have X0 := Blk.ext HX0.out hx; have x00 := X0.cell 0; have x01 := X0.cell 1; have x02 := X0.cell 2; have x03 := X0.cell 3; have y00 := X0.frozen 0; have y01 := X0.frozen 1; have y02 := X0.frozen 2; have y03 := X0.frozen 3; simp at x00 x01 x02 x03))
    go_wp2_with fail
    have o := put4_own wz R (.bool j1) (.slice g1 g2 g3) (.bool j2) (.slice g4 g5 g6)
    have hrat := hc.own X0 (noU4 _ _ _ _ _ _ _ _) o
    have hext := o.ext (HEM.out.trans hx) HS1.out
    simp only [put4] at hrat hext
    refine bodyPost_ret (v := .agg #[.bool j1, .slice g1 g2 g3, .bool j2, .slice g4 g5 g6]) ?_ rfl ⟨_, _, _, _, rfl, hrat, hext⟩
    simp [results, Tryz.results37, go_sem, *]
end Go.Proofs.YtllpkoinjompcaaGreat

namespace Go.Proofs.YtllpkoinjompcaaGreat
open Go.RowKit
attribute [local go_sem ↓] Go.wp_at_zero Go.wp_at_succ run_max_ii run_min_ii

set_option maxRecDepth 20000 in
set_option maxHeartbeats 4000000 in
theorem r3add_any (n m n' m' : Bool) (u v u' v' : Value) (L : Nat) (q r : Rat) (w : World) (h : RatIn L w n u m v q) (h' : RatIn L w n' u' m' v' r) (hL : L ≤ 70000) :
    Calls Tryz.prog 63 #[.agg #[.bool n, u, .bool m, v], .agg #[.bool n', u', .bool m', v']] w (RetR (q + r) w) := by
  obtain ⟨p1, l1, c1, p2, l2, c2, rfl, rfl⟩ := h.form
  obtain ⟨p3, l3, c3, p4, l4, c4, rfl, rfl⟩ := h'.form
  have HNA := zH (fun W (x : Ext w W) => r3norm_any n m (.slice p1 l1 c1) (.slice p2 l2 c2) L q W (h.ext x) (by omega))
  have HNB := zH (fun W (x : Ext w W) => r3norm_any n' m' (.slice p3 l3 c3) (.slice p4 l4 c4) L r W (h'.ext x) (by omega))
  have hnl : Nm.nl q.num.natAbs ≤ L + 1 ∧ Nm.nl (q.den : Int).natAbs ≤ L + 1 ∧ Nm.nl r.num.natAbs ≤ L + 1 ∧ Nm.nl (r.den : Int).natAbs ≤ L + 1 := by
    have h1 := h.rl
    have h2 := h'.rl
    unfold Nm.rl at h1 h2
    simp only [Int.natAbs_natCast]
    omega
  have HNL := zH hnl
  clear h h' hnl
  go_enter Tryz.func63, Tryz.ntmps63
  go_wp2_with fail
  have gA : ∀ x, Ext (((w.alloc (.cells #[.bool n, .slice p1 l1 c1, .bool m, .slice p2 l2 c2] 26)).alloc (.cells #[.bool n', .slice p3 l3 c3, .bool m', .slice p4 l4 c4] 26)).alloc (.cells #[.bool false, .slice none 0 0, .bool false, .slice none 0 0] 26)) x → x.cell? ⟨w.heap.size, 0, none⟩ = some (.bool n) ∧ x.cell? ⟨w.heap.size, 1, none⟩ = some (.slice p1 l1 c1) ∧ x.cell? ⟨w.heap.size, 2, none⟩ = some (.bool m) ∧ x.cell? ⟨w.heap.size, 3, none⟩ = some (.slice p2 l2 c2) ∧
      x.cell? ⟨w.heap.size + 1, 0, none⟩ = some (.bool n') ∧ x.cell? ⟨w.heap.size + 1, 1, none⟩ = some (.slice p3 l3 c3) ∧ x.cell? ⟨w.heap.size + 1, 2, none⟩ = some (.bool m') ∧ x.cell? ⟨w.heap.size + 1, 3, none⟩ = some (.slice p4 l4 c4) := fun x hx => by
    have a1 := ratBox w n m (.slice p1 l1 c1) (.slice p2 l2 c2) x ((((Ext.refl _).alloc _).alloc _).trans hx)
    have a2 := ratBox (w.alloc (.cells #[.bool n, .slice p1 l1 c1, .bool m, .slice p2 l2 c2] 26)) n' m' (.slice p3 l3 c3) (.slice p4 l4 c4) x (((Ext.refl _).alloc _).trans hx)
    simp only [World.size_alloc] at a2
    exact ⟨a1.1, a1.2.1, a1.2.2.1, a1.2.2.2.1, a2.1, a2.2.1, a2.2.2.1, a2.2.2.2.1⟩
  have HWB := zH (show Ext w (((w.alloc (.cells #[.bool n, .slice p1 l1 c1, .bool m, .slice p2 l2 c2] 26)).alloc (.cells #[.bool n', .slice p3 l3 c3, .bool m', .slice p4 l4 c4] 26)).alloc (.cells #[.bool false, .slice none 0 0, .bool false, .slice none 0 0] 26)) from (((Ext.refl _).alloc _).alloc _).alloc _)
  have HR0 := zH (Blk.new_at ((w.alloc (.cells #[.bool n, .slice p1 l1 c1, .bool m, .slice p2 l2 c2] 26)).alloc (.cells #[.bool n', .slice p3 l3 c3, .bool m', .slice p4 l4 c4] 26)) (w.heap.size + 1 + 1) (by simp) 26 #[.bool false, .slice none 0 0, .bool false, .slice none 0 0])
  have hz : (((w.alloc (.cells #[.bool n, .slice p1 l1 c1, .bool m, .slice p2 l2 c2] 26)).alloc (.cells #[.bool n', .slice p3 l3 c3, .bool m', .slice p4 l4 c4] 26)).alloc (.cells #[.bool false, .slice none 0 0, .bool false, .slice none 0 0] 26)).heap.size = w.heap.size + 1 + 1 + 1 := by simp
  have HSZ := zH hz
  clear hz
  generalize (((w.alloc (.cells #[.bool n, .slice p1 l1 c1, .bool m, .slice p2 l2 c2] 26)).alloc (.cells #[.bool n', .slice p3 l3 c3, .bool m', .slice p4 l4 c4] 26)).alloc (.cells #[.bool false, .slice none 0 0, .bool false, .slice none 0 0] 26)) = wb at *
  go_cut [5, 6] (fun s t wx => Two wb q r s t wx)
  case first =>
    clear HR0 HNL
    go_region_held3 (fun x => Ext wb x) ((first | (with_reducible assumption) | ((repeat (first | (with_reducible assumption) | (with_reducible exact Ext.refl _) | (with_reducible apply Ext.drew) | (with_reducible apply Ext.alloc) | ((with_reducible refine Ext.setCell ?_ ?_ _); rotate_left; focus (first | omega | (simp; done) | (simp; omega))) | (with_reducible (apply Ext.via; assumption)))); done)))
      (first | (go_at_call 61; ((with_reducible refine (HNA.out _ (HWB.out.trans (by first | assumption | exact Ext.drew (Ext.refl _)))).mono ?_)); rintro e wa ⟨b1, t1, b2, t2, rfl, hca, hea⟩; obtain ⟨x1, y1, z1, x2, y2, z2, rfl, rfl⟩ := hca.form; have hsa := hea.size; (try simp at hsa); obtain ⟨ka, fa⟩ := bcell hea; (try simp at ka); (try simp at fa); (try have l1 : wb.heap.size < wa.heap.size := by omega); (try have l2 : wb.heap.size + 1 < wa.heap.size := by omega)) | (go_at_call 61; ((with_reducible refine (HNB.out _ (HWB.out.trans (by first | assumption | exact Ext.drew (Ext.refl _)))).mono ?_)); rintro e wd ⟨b3, t3, b4, t4, rfl, hcb, heb⟩; obtain ⟨x3, y3, z3, x4, y4, z4, rfl, rfl⟩ := hcb.form; have hsb := heb.size; (try simp at hsb); obtain ⟨kb, fb⟩ := bcell heb; (try simp at kb); (try simp at fb); (try have l3 : wb.heap.size < wd.heap.size := by omega); (try have l4 : wb.heap.size + 1 < wd.heap.size := by omega); (try have l5 : wa.heap.size < wd.heap.size := by omega); (try have l6 : wa.heap.size + 1 < wd.heap.size := by omega)))
    all_goals go_wp2_with fail
    all_goals go_meet
    all_goals have lt2 : ∀ a : Nat, a < a + 1 + 1 := fun a => by omega
    all_goals try have q1 : wa.heap.size ≠ wb.heap.size := by omega
    all_goals try have q2 : wb.heap.size ≠ wa.heap.size := by omega
    all_goals try have q3 : wb.heap.size < wa.heap.size + 1 := by omega
    all_goals refine ⟨_, _, b1, x1, y1, z1, b2, x2, y2, z2, b3, x3, y3, z3, b4, x4, y4, z4, rfl, rfl, ?_, ?_, ⟨?_, ?_, ?_, ?_⟩, ⟨?_, ?_, ?_, ?_⟩, ?_, ?_, ?_⟩
    all_goals first
      | (with_reducible assumption)
      | omega
      | (simp [go_sem, *]; done)
      | (rw [World.cell?_setCell_far, World.cell?_setCell_far, World.cell?_setCell_far, World.cell?_setCell_far] <;> first | (simp [go_sem, *]; done) | (simp; omega))
      | ((repeat (first | (with_reducible assumption) | (with_reducible apply RatC.drew) | (with_reducible apply RatC.alloc) | ((with_reducible refine RatC.setB (b := false) ?_ ?_ _); rotate_left; focus (simp [go_sem, *]; done)) | ((with_reducible refine RatC.setS (a := none) (l := 0) (c := 0) ?_ ?_ _); rotate_left; focus (simp [go_sem, *]; done)) | (with_reducible (apply RatC.via; assumption)))); done)
      | (first | (with_reducible assumption) | ((repeat (first | (with_reducible assumption) | (with_reducible exact Ext.refl _) | (with_reducible apply Ext.drew) | (with_reducible apply Ext.alloc) | ((with_reducible refine Ext.setCell ?_ ?_ _); rotate_left; focus (first | omega | (simp; done) | (simp; omega))) | (with_reducible (apply Ext.via; assumption)))); done))
  case rest =>
    clear HNA HNB gA
    obtain ⟨X, Y, b1, x1, y1, z1, b2, x2, y2, z2, b3, x3, y3, z3, b4, x4, y4, z4, rfl, rfl, hX, hY, cX, cY, s3, s4, s5⟩ := hcut
    have hnl := HNL.out
    have H1 := zH (fun W (x : Ext wc W) => r2mul_any _ _ _ _ (L + 1) q.num r.den W ((s3.ext x).1.isIn hnl.1) ((s4.ext x).2.isIn hnl.2.2.2) (by omega))
    have H2 := zH (fun W (x : Ext wc W) => r2mul_any _ _ _ _ (L + 1) r.num q.den W ((s4.ext x).1.isIn hnl.2.2.1) ((s3.ext x).2.isIn hnl.2.1) (by omega))
    have H3 := zH (fun W (x : Ext wc W) => r2mul_any _ _ _ _ (L + 1) q.den r.den W ((s3.ext x).2.isIn hnl.2.1) ((s4.ext x).2.isIn hnl.2.2.2) (by omega))
    have hn1 := nl_mul_int q.num r.den _ _ hnl.1 hnl.2.2.2
    have hn2 := nl_mul_int r.num q.den _ _ hnl.2.2.1 hnl.2.1
    have HAD := zH (fun W n1 v1 n2 v2 (x : IntC W n1 v1 (q.num * r.den)) (y : IntC W n2 v2 (r.num * q.den)) => r2add_any n1 n2 v1 v2 (L + 1 + (L + 1)) _ _ W (x.isIn hn1) (y.isIn hn2) (by omega))
    have hd0 : (q.den : Int) * r.den ≠ 0 := Int.mul_ne_zero (by have := q.den_nz; omega) (by have := r.den_nz; omega)
    have HLW := zH (fun W n1 v1 n2 v2 (x : IntC W n1 v1 (q.num * r.den + r.num * q.den)) (y : IntC W n2 v2 ((q.den : Int) * r.den)) => (show Calls Tryz.prog 66 #[.agg #[.bool n1, v1], .agg #[.bool n2, v2]] W (RetR (q + r) W) by
      rw [Nm.add_eq]; exact r3reduce_any n1 n2 v1 v2 (L + 1 + (L + 1) + 1) _ _ W (x.isIn (nl_add_int _ _ _ hn1 hn2)) (y.isIn (Nat.le_trans (nl_mul_int _ _ _ _ hnl.2.1 hnl.2.2.2) (by omega))) (by omega) hd0))
    clear hd0 hn1 hn2
    have HX0 := zH (HR0.out.ext s5)
    have HEM := zH (HWB.out.trans s5)
    have HCC := zH (And.intro cX cY)
    have n2 : X ≠ w.heap.size + 1 + 1 := by have := HSZ.out; omega
    have n5 : Y ≠ w.heap.size + 1 + 1 := by have := HSZ.out; omega
    have HS1 := zH (show w.heap.size ≤ w.heap.size + 1 + 1 by omega)
    clear s3 s4 s5 cX cY hnl hX hY
    go_wp2_with fail
    generalize hR : w.heap.size + 1 + 1 = R at *
    have gl : ∀ w', Own R wc w' → w'.cell? ⟨X, 0, none⟩ = some (.bool b1) ∧ w'.cell? ⟨X, 1, none⟩ = some (.slice x1 y1 z1) ∧ w'.cell? ⟨X, 2, none⟩ = some (.bool b2) ∧ w'.cell? ⟨X, 3, none⟩ = some (.slice x2 y2 z2) ∧
        w'.cell? ⟨Y, 0, none⟩ = some (.bool b3) ∧ w'.cell? ⟨Y, 1, none⟩ = some (.slice x3 y3 z3) ∧ w'.cell? ⟨Y, 2, none⟩ = some (.bool b4) ∧ w'.cell? ⟨Y, 3, none⟩ = some (.slice x4 y4 z4) := fun w' x =>
      ⟨x.get HCC.out.1.1 n2, x.get HCC.out.1.2.1 n2, x.get HCC.out.1.2.2.1 n2, x.get HCC.out.1.2.2.2 n2, x.get HCC.out.2.1 n5, x.get HCC.out.2.2.1 n5, x.get HCC.out.2.2.2.1 n5, x.get HCC.out.2.2.2.2 n5⟩
    go_region_held3 (fun w' => Own R wc w') (first | (with_reducible assumption) | (with_reducible exact Own.drew (Own.refl _ _)) | (with_reducible (apply Own.of_ext; assumption)) | (with_reducible (refine Own.set_at (Own.set_at (Own.set_at (Own.set_at ?_ _ _ _) _ _ _) _ _ _) _ _ _; first | assumption | (apply Own.of_ext; assumption))))
      (first | (go_at_call 67; ((with_reducible refine (H1.out _ (by first | assumption | exact Ext.drew (Ext.refl _))).mono ?_)); rintro e wx ⟨k1, r1, rfl, hi1, hen1⟩; obtain ⟨f1, f2, f3, rfl⟩ := hi1.form; have hx1 : Ext wc wx := Ext.trans (by first | assumption | exact Ext.drew (Ext.refl _)) hen1) | (go_at_call 67; ((with_reducible refine (H2.out _ (by first | assumption | exact Ext.drew (Ext.refl _))).mono ?_)); rintro e wy ⟨k2, r2, rfl, hi2, hen2⟩; obtain ⟨f4, f5, f6, rfl⟩ := hi2.form; have hx2 : Ext wc wy := Ext.trans (by first | assumption | exact Ext.drew (Ext.refl _)) hen2) | (go_at_call 83; ((with_reducible refine (HAD.out _ _ _ _ _ (hi1.ext hen2) hi2).mono ?_)); rintro e wt ⟨k4, r4, rfl, hi4, hen4⟩; obtain ⟨f10, f11, f12, rfl⟩ := hi4.form; have hx4 : Ext wc wt := Ext.trans (by first | assumption | exact Ext.drew (Ext.refl _)) hen4) | (go_at_call 67; ((with_reducible refine (H3.out _ (by first | assumption | exact Ext.drew (Ext.refl _))).mono ?_)); rintro e wu ⟨k3, r3, rfl, hi3, hen3⟩; obtain ⟨f7, f8, f9, rfl⟩ := hi3.form; have hx3 : Ext wc wu := Ext.trans (by first | assumption | exact Ext.drew (Ext.refl _)) hen3) | (go_at_call 66; ((with_reducible refine (HLW.out _ _ _ _ _ (hi4.ext hen3) hi3).mono ?_)); rintro e wz ⟨j1, t1, j2, t2, rfl, hc, hen9⟩; obtain ⟨g1, g2, g3, g4, g5, g6, rfl, rfl⟩ := hc.form; have hx : Ext wc wz := Ext.trans (by first | assumption | exact Ext.drew (Ext.refl _)) hen9; have X0 := Blk.ext HX0.out hx; have x00 := X0.cell 0; have x01 := X0.cell 1; have x02 := X0.cell 2; have x03 := X0.cell 3; have y00 := X0.frozen 0; have y01 := X0.frozen 1; have y02 := X0.frozen 2; have y03 := X0.frozen 3; simp at x00 x01 x02 x03))
    go_wp2_with fail
    have o := put4_own wz R (.bool j1) (.slice g1 g2 g3) (.bool j2) (.slice g4 g5 g6)
    have hrat := hc.own X0 (noU4 _ _ _ _ _ _ _ _) o
    have hext := o.ext (HEM.out.trans hx) HS1.out
    simp only [put4] at hrat hext
    refine bodyPost_ret (v := .agg #[.bool j1, .slice g1 g2 g3, .bool j2, .slice g4 g5 g6]) ?_ rfl ⟨_, _, _, _, rfl, hrat, hext⟩
    simp [results, Tryz.results63, go_sem, *]
end Go.Proofs.YtllpkoinjompcaaGreat

namespace Go.Proofs.YtllpkoinjompcaaGreat
open Go.RowKit
attribute [local go_sem ↓] Go.wp_at_zero Go.wp_at_succ run_max_ii run_min_ii

set_option maxRecDepth 20000 in
set_option maxHeartbeats 4000000 in
theorem r3cmp_any (n m n' m' : Bool) (u v u' v' : Value) (L : Nat) (q r : Rat) (w : World) (h : RatIn L w n u m v q) (h' : RatIn L w n' u' m' v' r) (hL : L ≤ 70000) :
    Calls Tryz.prog 78 #[.agg #[.bool n, u, .bool m, v], .agg #[.bool n', u', .bool m', v']] w (RetCmp (rcmp q r) w) := by
  obtain ⟨p1, l1, c1, p2, l2, c2, rfl, rfl⟩ := h.form
  obtain ⟨p3, l3, c3, p4, l4, c4, rfl, rfl⟩ := h'.form
  have HNA := zH (fun W (x : Ext w W) => r3norm_any n m (.slice p1 l1 c1) (.slice p2 l2 c2) L q W (h.ext x) (by omega))
  have HNB := zH (fun W (x : Ext w W) => r3norm_any n' m' (.slice p3 l3 c3) (.slice p4 l4 c4) L r W (h'.ext x) (by omega))
  have hnl : Nm.nl q.num.natAbs ≤ L + 1 ∧ Nm.nl (q.den : Int).natAbs ≤ L + 1 ∧ Nm.nl r.num.natAbs ≤ L + 1 ∧ Nm.nl (r.den : Int).natAbs ≤ L + 1 := by
    have h1 := h.rl
    have h2 := h'.rl
    unfold Nm.rl at h1 h2
    simp only [Int.natAbs_natCast]
    omega
  have HNL := zH hnl
  clear h h' hnl
  go_enter Tryz.func78, Tryz.ntmps78
  go_wp2_with fail
  have gA : ∀ x, Ext ((w.alloc (.cells #[.bool n, .slice p1 l1 c1, .bool m, .slice p2 l2 c2] 26)).alloc (.cells #[.bool n', .slice p3 l3 c3, .bool m', .slice p4 l4 c4] 26)) x → x.cell? ⟨w.heap.size, 0, none⟩ = some (.bool n) ∧ x.cell? ⟨w.heap.size, 1, none⟩ = some (.slice p1 l1 c1) ∧ x.cell? ⟨w.heap.size, 2, none⟩ = some (.bool m) ∧ x.cell? ⟨w.heap.size, 3, none⟩ = some (.slice p2 l2 c2) ∧
      x.cell? ⟨w.heap.size + 1, 0, none⟩ = some (.bool n') ∧ x.cell? ⟨w.heap.size + 1, 1, none⟩ = some (.slice p3 l3 c3) ∧ x.cell? ⟨w.heap.size + 1, 2, none⟩ = some (.bool m') ∧ x.cell? ⟨w.heap.size + 1, 3, none⟩ = some (.slice p4 l4 c4) := fun x hx => by
    have a1 := ratBox w n m (.slice p1 l1 c1) (.slice p2 l2 c2) x (((Ext.refl _).alloc _).trans hx)
    have a2 := ratBox (w.alloc (.cells #[.bool n, .slice p1 l1 c1, .bool m, .slice p2 l2 c2] 26)) n' m' (.slice p3 l3 c3) (.slice p4 l4 c4) x hx
    simp only [World.size_alloc] at a2
    exact ⟨a1.1, a1.2.1, a1.2.2.1, a1.2.2.2.1, a2.1, a2.2.1, a2.2.2.1, a2.2.2.2.1⟩
  have HWB := zH (show Ext w ((w.alloc (.cells #[.bool n, .slice p1 l1 c1, .bool m, .slice p2 l2 c2] 26)).alloc (.cells #[.bool n', .slice p3 l3 c3, .bool m', .slice p4 l4 c4] 26)) from ((Ext.refl _).alloc _).alloc _)
  have hz : ((w.alloc (.cells #[.bool n, .slice p1 l1 c1, .bool m, .slice p2 l2 c2] 26)).alloc (.cells #[.bool n', .slice p3 l3 c3, .bool m', .slice p4 l4 c4] 26)).heap.size = w.heap.size + 1 + 1 := by simp
  have HSZ := zH hz
  clear hz
  generalize ((w.alloc (.cells #[.bool n, .slice p1 l1 c1, .bool m, .slice p2 l2 c2] 26)).alloc (.cells #[.bool n', .slice p3 l3 c3, .bool m', .slice p4 l4 c4] 26)) = wb at *
  go_cut [5, 6] (fun s t wx => Two wb q r s t wx)
  case first =>
    clear HNL
    go_region_held3 (fun x => Ext wb x) ((first | (with_reducible assumption) | ((repeat (first | (with_reducible assumption) | (with_reducible exact Ext.refl _) | (with_reducible apply Ext.drew) | (with_reducible apply Ext.alloc) | ((with_reducible refine Ext.setCell ?_ ?_ _); rotate_left; focus (first | omega | (simp; done) | (simp; omega))) | (with_reducible (apply Ext.via; assumption)))); done)))
      (first | (go_at_call 61; ((with_reducible refine (HNA.out _ (HWB.out.trans (by first | assumption | exact Ext.drew (Ext.refl _)))).mono ?_)); rintro e wa ⟨b1, t1, b2, t2, rfl, hca, hea⟩; obtain ⟨x1, y1, z1, x2, y2, z2, rfl, rfl⟩ := hca.form; have hsa := hea.size; (try simp at hsa); obtain ⟨ka, fa⟩ := bcell hea; (try simp at ka); (try simp at fa); (try have l1 : wb.heap.size < wa.heap.size := by omega); (try have l2 : wb.heap.size + 1 < wa.heap.size := by omega)) | (go_at_call 61; ((with_reducible refine (HNB.out _ (HWB.out.trans (by first | assumption | exact Ext.drew (Ext.refl _)))).mono ?_)); rintro e wd ⟨b3, t3, b4, t4, rfl, hcb, heb⟩; obtain ⟨x3, y3, z3, x4, y4, z4, rfl, rfl⟩ := hcb.form; have hsb := heb.size; (try simp at hsb); obtain ⟨kb, fb⟩ := bcell heb; (try simp at kb); (try simp at fb); (try have l3 : wb.heap.size < wd.heap.size := by omega); (try have l4 : wb.heap.size + 1 < wd.heap.size := by omega); (try have l5 : wa.heap.size < wd.heap.size := by omega); (try have l6 : wa.heap.size + 1 < wd.heap.size := by omega)))
    all_goals go_wp2_with fail
    all_goals go_meet
    all_goals have lt2 : ∀ a : Nat, a < a + 1 + 1 := fun a => by omega
    all_goals try have q1 : wa.heap.size ≠ wb.heap.size := by omega
    all_goals try have q2 : wb.heap.size ≠ wa.heap.size := by omega
    all_goals try have q3 : wb.heap.size < wa.heap.size + 1 := by omega
    all_goals refine ⟨_, _, b1, x1, y1, z1, b2, x2, y2, z2, b3, x3, y3, z3, b4, x4, y4, z4, rfl, rfl, ?_, ?_, ⟨?_, ?_, ?_, ?_⟩, ⟨?_, ?_, ?_, ?_⟩, ?_, ?_, ?_⟩
    all_goals first
      | (with_reducible assumption)
      | omega
      | (simp [go_sem, *]; done)
      | (rw [World.cell?_setCell_far, World.cell?_setCell_far, World.cell?_setCell_far, World.cell?_setCell_far] <;> first | (simp [go_sem, *]; done) | (simp; omega))
      | ((repeat (first | (with_reducible assumption) | (with_reducible apply RatC.drew) | (with_reducible apply RatC.alloc) | ((with_reducible refine RatC.setB (b := false) ?_ ?_ _); rotate_left; focus (simp [go_sem, *]; done)) | ((with_reducible refine RatC.setS (a := none) (l := 0) (c := 0) ?_ ?_ _); rotate_left; focus (simp [go_sem, *]; done)) | (with_reducible (apply RatC.via; assumption)))); done)
      | (first | (with_reducible assumption) | ((repeat (first | (with_reducible assumption) | (with_reducible exact Ext.refl _) | (with_reducible apply Ext.drew) | (with_reducible apply Ext.alloc) | ((with_reducible refine Ext.setCell ?_ ?_ _); rotate_left; focus (first | omega | (simp; done) | (simp; omega))) | (with_reducible (apply Ext.via; assumption)))); done))
  case rest =>
    clear HNA HNB gA
    obtain ⟨X, Y, b1, x1, y1, z1, b2, x2, y2, z2, b3, x3, y3, z3, b4, x4, y4, z4, rfl, rfl, hX, hY, cX, cY, s3, s4, s5⟩ := hcut
    have hnl := HNL.out
    have H1 := zH (fun W (x : Ext wc W) => r2mul_any _ _ _ _ (L + 1) q.num r.den W ((s3.ext x).1.isIn hnl.1) ((s4.ext x).2.isIn hnl.2.2.2) (by omega))
    have H2 := zH (fun W (x : Ext wc W) => r2mul_any _ _ _ _ (L + 1) r.num q.den W ((s4.ext x).1.isIn hnl.2.2.1) ((s3.ext x).2.isIn hnl.2.1) (by omega))
    have hn1 := nl_mul_int q.num r.den _ _ hnl.1 hnl.2.2.2
    have hn2 := nl_mul_int r.num q.den _ _ hnl.2.2.1 hnl.2.1
    have HAD := zH (fun W n1 v1 n2 v2 (x : IntC W n1 v1 (q.num * r.den)) (y : IntC W n2 v2 (r.num * q.den)) => r2cmp_any n1 n2 v1 v2 (L + 1 + (L + 1)) _ _ W (x.isIn hn1) (y.isIn hn2) (by omega))
    clear hn1 hn2
    have HEM := zH (HWB.out.trans s5)
    have HCC := zH (And.intro cX cY)
    clear s3 s4 s5 cX cY hnl hX hY
    go_wp2_with fail
    have gl : ∀ w', Ext wc w' → w'.cell? ⟨X, 0, none⟩ = some (.bool b1) ∧ w'.cell? ⟨X, 1, none⟩ = some (.slice x1 y1 z1) ∧ w'.cell? ⟨X, 2, none⟩ = some (.bool b2) ∧ w'.cell? ⟨X, 3, none⟩ = some (.slice x2 y2 z2) ∧
        w'.cell? ⟨Y, 0, none⟩ = some (.bool b3) ∧ w'.cell? ⟨Y, 1, none⟩ = some (.slice x3 y3 z3) ∧ w'.cell? ⟨Y, 2, none⟩ = some (.bool b4) ∧ w'.cell? ⟨Y, 3, none⟩ = some (.slice x4 y4 z4) := fun w' x =>
      ⟨x.get HCC.out.1.1, x.get HCC.out.1.2.1, x.get HCC.out.1.2.2.1, x.get HCC.out.1.2.2.2, x.get HCC.out.2.1, x.get HCC.out.2.2.1, x.get HCC.out.2.2.2.1, x.get HCC.out.2.2.2.2⟩
    go_region_held3 (fun w' => Ext wc w') (first | (with_reducible assumption) | (with_reducible exact Ext.drew (Ext.refl _)) | (with_reducible (apply Ext.via; assumption; assumption)))
      (first | (go_at_call 67; ((with_reducible refine (H1.out _ (by first | assumption | exact Ext.drew (Ext.refl _))).mono ?_)); rintro e wx ⟨k1, r1, rfl, hi1, hen1⟩; obtain ⟨f1, f2, f3, rfl⟩ := hi1.form; have hx1 : Ext wc wx := Ext.trans (by first | assumption | exact Ext.drew (Ext.refl _)) hen1) | (go_at_call 67; ((with_reducible refine (H2.out _ (by first | assumption | exact Ext.drew (Ext.refl _))).mono ?_)); rintro e wy ⟨k2, r2, rfl, hi2, hen2⟩; obtain ⟨f4, f5, f6, rfl⟩ := hi2.form; have hx2 : Ext wc wy := Ext.trans (by first | assumption | exact Ext.drew (Ext.refl _)) hen2) | (go_at_call 99; ((with_reducible refine (HAD.out _ _ _ _ _ (hi1.ext hen2) hi2).mono ?_)); rintro e wt ⟨rfl, hen4⟩; have hx4 : Ext wc wt := Ext.trans (by first | assumption | exact Ext.drew (Ext.refl _)) hen4))
    go_wp2_with fail
    go_ret
    exact ⟨rfl, HEM.out.trans hx4⟩

set_option maxRecDepth 20000 in
set_option maxHeartbeats 4000000 in
theorem r3sub_any (n m n' m' : Bool) (u v u' v' : Value) (L : Nat) (q r : Rat) (w : World) (h : RatIn L w n u m v q) (h' : RatIn L w n' u' m' v' r) (hL : L ≤ 69000) :
    Calls Tryz.prog 35 #[.agg #[.bool n, u, .bool m, v], .agg #[.bool n', u', .bool m', v']] w (RetR (q - r) w) := by
  obtain ⟨p1, l1, c1, p2, l2, c2, rfl, rfl⟩ := h.form
  obtain ⟨p3, l3, c3, p4, l4, c4, rfl, rfl⟩ := h'.form
  have HN := zH (fun W (x : Ext w W) => r3neg_any n' m' (.slice p3 l3 c3) (.slice p4 l4 c4) L r W (h'.ext x) (by omega))
  have hl : Nm.rl (-r) ≤ L + 1 := by rw [Nm.rl_neg]; have := h'.rl; omega
  have HAD := zH (fun W n1 v1 n2 v2 (x : Ext w W) (y : RatC W n1 v1 n2 v2 (-r)) => (show Calls Tryz.prog 63 #[.agg #[.bool n, .slice p1 l1 c1, .bool m, .slice p2 l2 c2], .agg #[.bool n1, v1, .bool n2, v2]] W (RetR (q - r) W) by
    rw [Rat.sub_eq_add_neg]; exact r3add_any n m n1 n2 _ _ _ _ (L + 1) q (-r) W (by obtain ⟨y0, z0, a1, a2, a3⟩ := h.ext x; exact ⟨y0, z0, a1.mono (by omega), a2.mono (by omega), a3⟩) (y.isIn hl) (by omega)))
  clear h h' hl
  go_enter Tryz.func35, Tryz.ntmps35
  go_wp2_with fail
  have gA : ∀ x, Ext (((w.alloc (.cells #[.bool n, .slice p1 l1 c1, .bool m, .slice p2 l2 c2] 26)).alloc (.cells #[.bool n', .slice p3 l3 c3, .bool m', .slice p4 l4 c4] 26)).alloc (.cells #[.bool false, .slice none 0 0, .bool false, .slice none 0 0] 26)) x → x.cell? ⟨w.heap.size, 0, none⟩ = some (.bool n) ∧ x.cell? ⟨w.heap.size, 1, none⟩ = some (.slice p1 l1 c1) ∧ x.cell? ⟨w.heap.size, 2, none⟩ = some (.bool m) ∧ x.cell? ⟨w.heap.size, 3, none⟩ = some (.slice p2 l2 c2) ∧
      x.cell? ⟨w.heap.size + 1, 0, none⟩ = some (.bool n') ∧ x.cell? ⟨w.heap.size + 1, 1, none⟩ = some (.slice p3 l3 c3) ∧ x.cell? ⟨w.heap.size + 1, 2, none⟩ = some (.bool m') ∧ x.cell? ⟨w.heap.size + 1, 3, none⟩ = some (.slice p4 l4 c4) := fun x hx => by
    have a1 := ratBox w n m (.slice p1 l1 c1) (.slice p2 l2 c2) x ((((Ext.refl _).alloc _).alloc _).trans hx)
    have a2 := ratBox (w.alloc (.cells #[.bool n, .slice p1 l1 c1, .bool m, .slice p2 l2 c2] 26)) n' m' (.slice p3 l3 c3) (.slice p4 l4 c4) x (((Ext.refl _).alloc _).trans hx)
    simp only [World.size_alloc] at a2
    exact ⟨a1.1, a1.2.1, a1.2.2.1, a1.2.2.2.1, a2.1, a2.2.1, a2.2.2.1, a2.2.2.2.1⟩
  have HWB := zH (show Ext w (((w.alloc (.cells #[.bool n, .slice p1 l1 c1, .bool m, .slice p2 l2 c2] 26)).alloc (.cells #[.bool n', .slice p3 l3 c3, .bool m', .slice p4 l4 c4] 26)).alloc (.cells #[.bool false, .slice none 0 0, .bool false, .slice none 0 0] 26)) from (((Ext.refl _).alloc _).alloc _).alloc _)
  have HX0 := zH (Blk.new_at ((w.alloc (.cells #[.bool n, .slice p1 l1 c1, .bool m, .slice p2 l2 c2] 26)).alloc (.cells #[.bool n', .slice p3 l3 c3, .bool m', .slice p4 l4 c4] 26)) (w.heap.size + 1 + 1) (by simp) 26 #[.bool false, .slice none 0 0, .bool false, .slice none 0 0])
  have HS1 := zH (show w.heap.size ≤ w.heap.size + 1 + 1 by omega)
  have gB := gA _ (Ext.refl _)
  clear gA
  generalize (((w.alloc (.cells #[.bool n, .slice p1 l1 c1, .bool m, .slice p2 l2 c2] 26)).alloc (.cells #[.bool n', .slice p3 l3 c3, .bool m', .slice p4 l4 c4] 26)).alloc (.cells #[.bool false, .slice none 0 0, .bool false, .slice none 0 0] 26)) = wc at *
  have n1 : w.heap.size ≠ w.heap.size + 1 + 1 := by omega
  have n2 : w.heap.size + 1 ≠ w.heap.size + 1 + 1 := by omega
  generalize hR : w.heap.size + 1 + 1 = R at *
  generalize hY : w.heap.size + 1 = Y at *
  have HXS := zH hR
  generalize hX : w.heap.size = X at *
  have gl : ∀ w', Own R wc w' → w'.cell? ⟨X, 0, none⟩ = some (.bool n) ∧ w'.cell? ⟨X, 1, none⟩ = some (.slice p1 l1 c1) ∧ w'.cell? ⟨X, 2, none⟩ = some (.bool m) ∧ w'.cell? ⟨X, 3, none⟩ = some (.slice p2 l2 c2) ∧
      w'.cell? ⟨Y, 0, none⟩ = some (.bool n') ∧ w'.cell? ⟨Y, 1, none⟩ = some (.slice p3 l3 c3) ∧ w'.cell? ⟨Y, 2, none⟩ = some (.bool m') ∧ w'.cell? ⟨Y, 3, none⟩ = some (.slice p4 l4 c4) := fun w' x =>
    ⟨x.get gB.1 n1, x.get gB.2.1 n1, x.get gB.2.2.1 n1, x.get gB.2.2.2.1 n1, x.get gB.2.2.2.2.1 n2, x.get gB.2.2.2.2.2.1 n2, x.get gB.2.2.2.2.2.2.1 n2, x.get gB.2.2.2.2.2.2.2 n2⟩
  clear gB hR hY
  have HXX := zH hX
  clear hX
  go_region_held3 (fun w' => Own R wc w') (first | (with_reducible assumption) | (with_reducible exact Own.drew (Own.refl _ _)) | (with_reducible (apply Own.of_ext; assumption)) | (with_reducible (refine Own.set_at (Own.set_at (Own.set_at (Own.set_at ?_ _ _ _) _ _ _) _ _ _) _ _ _; first | assumption | (apply Own.of_ext; assumption))))
    (first | (go_at_call 64; ((with_reducible refine (HN.out _ (HWB.out.trans (by first | assumption | exact Ext.drew (Ext.refl _)))).mono ?_)); rintro e wx ⟨b1, t1, b2, t2, rfl, hc1, hen1⟩; obtain ⟨f1, f2, f3, f4, f5, f6, rfl, rfl⟩ := hc1.form; have hx1 : Ext wc wx := Ext.trans (by first | assumption | exact Ext.drew (Ext.refl _)) hen1) | (go_at_call 63; ((with_reducible refine (HAD.out _ _ _ _ _ (HWB.out.trans (by first | assumption | exact Ext.drew (Ext.refl _))) hc1).mono ?_)); rintro e wz ⟨j1, t1, j2, t2, rfl, hc, hen9⟩; obtain ⟨g1, g2, g3, g4, g5, g6, rfl, rfl⟩ := hc.form; have hx : Ext wc wz := Ext.trans (by first | assumption | exact Ext.drew (Ext.refl _)) hen9; have X0 := Blk.ext HX0.out hx; have x00 := X0.cell 0; have x01 := X0.cell 1; have x02 := X0.cell 2; have x03 := X0.cell 3; have y00 := X0.frozen 0; have y01 := X0.frozen 1; have y02 := X0.frozen 2; have y03 := X0.frozen 3; simp at x00 x01 x02 x03))
  go_wp2_with fail
  have o := put4_own wz R (.bool j1) (.slice g1 g2 g3) (.bool j2) (.slice g4 g5 g6)
  have hrat := hc.own X0 (noU4 _ _ _ _ _ _ _ _) o
  have hext := o.ext (HWB.out.trans hx) (by rw [HXX.out]; exact HS1.out)
  simp only [put4] at hrat hext
  refine bodyPost_ret (v := .agg #[.bool j1, .slice g1 g2 g3, .bool j2, .slice g4 g5 g6]) ?_ rfl ⟨_, _, _, _, rfl, hrat, hext⟩
  simp [results, Tryz.results35, go_sem, *]
end Go.Proofs.YtllpkoinjompcaaGreat

namespace Go.Proofs.YtllpkoinjompcaaGreat
open Go.RowKit
attribute [local go_sem ↓] Go.wp_at_zero Go.wp_at_succ run_max_ii run_min_ii

structure RV where
  n : Bool
  p : Option Addr
  l : Nat
  c : Nat
  m : Bool
  p2 : Option Addr
  l2 : Nat
  c2 : Nat
def RV.In (L : Nat) (w : World) (a : RV) (q : Rat) : Prop := RatIn L w a.n (.slice a.p a.l a.c) a.m (.slice a.p2 a.l2 a.c2) q
def RV.Is (w : World) (a : RV) (q : Rat) : Prop := RatC w a.n (.slice a.p a.l a.c) a.m (.slice a.p2 a.l2 a.c2) q
theorem RV.In.ext {L : Nat} {w w' : World} {a : RV} {q : Rat} (h : a.In L w q) (e : Ext w w') : a.In L w' q := RatIn.ext h e
theorem RV.Is.ext {w w' : World} {a : RV} {q : Rat} (h : a.Is w q) (e : Ext w w') : a.Is w' q := RatC.ext h e
theorem RV.Is.isIn {L : Nat} {w : World} {a : RV} {q : Rat} (h : a.Is w q) (hl : Nm.rl q ≤ L) : a.In L w q := RatC.isIn h hl
theorem RV.In.rl {L : Nat} {w : World} {a : RV} {q : Rat} (h : a.In L w q) : Nm.rl q ≤ max L 1 := RatIn.rl h
theorem RV.In.mono {L M : Nat} {w : World} {a : RV} {q : Rat} (h : a.In L w q) (hl : L ≤ M) : a.In M w q := by
  obtain ⟨y, z, h1, h2, h3⟩ := h
  exact ⟨y, z, h1.mono hl, h2.mono hl, h3⟩
theorem RV.Is.own {w w' : World} {a : RV} {q : Rat} (h : a.Is w q) {g : Nat} {t : TypeId} {cs : Array Value} (hb : Blk w g t cs) (hn : NoU cs) (o : Own g w w') : a.Is w' q := RatC.own h hb hn o
def RV.zero : RV := ⟨false, none, 0, 0, false, none, 0, 0⟩

def RetV (q : Rat) (w : World) (e : Ending) (w' : World) : Prop := ∃ a : RV, e = .returned (.agg #[.bool a.n, .slice a.p a.l a.c, .bool a.m, .slice a.p2 a.l2 a.c2]) ∧ a.Is w' q ∧ Ext w w'
theorem RetR.v {q : Rat} {w w' : World} {e : Ending} (h : RetR q w e w') : RetV q w e w' := by
  obtain ⟨n, u, m, v, rfl, hc, he⟩ := h
  obtain ⟨p, l, c, p2, l2, c2, rfl, rfl⟩ := hc.form
  exact ⟨⟨n, p, l, c, m, p2, l2, c2⟩, rfl, hc, he⟩
def RetP (x y : Rat) (w : World) (e : Ending) (w' : World) : Prop := ∃ a b : RV, e = .returned (.agg #[.bool a.n, .slice a.p a.l a.c, .bool a.m, .slice a.p2 a.l2 a.c2, .bool b.n, .slice b.p b.l b.c, .bool b.m, .slice b.p2 b.l2 b.c2]) ∧ a.Is w' x ∧ b.Is w' y ∧ Ext w w'

theorem noU_of (cs : List Value) (h : ∀ v ∈ cs, ∀ x : Int, v ≠ .int .u32 x) : NoU cs.toArray := by
  intro i x hi
  rw [List.getElem?_toArray] at hi
  exact h _ (List.mem_of_getElem? hi) x rfl
theorem noU8 (a b : RV) : NoU #[.bool a.n, .slice a.p a.l a.c, .bool a.m, .slice a.p2 a.l2 a.c2, .bool b.n, .slice b.p b.l b.c, .bool b.m, .slice b.p2 b.l2 b.c2] := noU_of _ (by simp)

section
variable {L : Nat} {w : World} {a b : RV} {q r : Rat}
theorem xadd (h : a.In L w q) (h' : b.In L w r) (hL : L ≤ 70000) : Calls Tryz.prog 45 #[.agg #[.bool a.n, .slice a.p a.l a.c, .bool a.m, .slice a.p2 a.l2 a.c2], .agg #[.bool b.n, .slice b.p b.l b.c, .bool b.m, .slice b.p2 b.l2 b.c2]] w (RetV (q + r) w) := (radd_any _ _ _ _ _ _ _ _ L q r w h h' hL).mono fun _ _ h => RetR.v h
theorem xsub (h : a.In L w q) (h' : b.In L w r) (hL : L ≤ 70000) : Calls Tryz.prog 43 #[.agg #[.bool a.n, .slice a.p a.l a.c, .bool a.m, .slice a.p2 a.l2 a.c2], .agg #[.bool b.n, .slice b.p b.l b.c, .bool b.m, .slice b.p2 b.l2 b.c2]] w (RetV (q - r) w) := (rsub_any _ _ _ _ _ _ _ _ L q r w h h' hL).mono fun _ _ h => RetR.v h
theorem xmul (h : a.In L w q) (h' : b.In L w r) (hL : L ≤ 70000) : Calls Tryz.prog 58 #[.agg #[.bool a.n, .slice a.p a.l a.c, .bool a.m, .slice a.p2 a.l2 a.c2], .agg #[.bool b.n, .slice b.p b.l b.c, .bool b.m, .slice b.p2 b.l2 b.c2]] w (RetV (q * r) w) := (rmul_any _ _ _ _ _ _ _ _ L q r w h h' hL).mono fun _ _ h => RetR.v h
theorem xnorm (h : a.In L w q) (hL : L ≤ 300000) : Calls Tryz.prog 59 #[.agg #[.bool a.n, .slice a.p a.l a.c, .bool a.m, .slice a.p2 a.l2 a.c2]] w (RetV q w) := (rnorm_any _ _ _ _ L q w h hL).mono fun _ _ h => RetR.v h
end

theorem rl_lerp {a b t : Rat} {L : Nat} (ha : Nm.rl a ≤ L) (hb : Nm.rl b ≤ L) (ht : Nm.rl t ≤ L) : Nm.rl (b - a) ≤ 2 * L + 1 ∧ Nm.rl (t * (b - a)) ≤ 3 * L + 1 ∧ Nm.rl (a + t * (b - a)) ≤ 4 * L + 2 := by
  have h1 := Nm.rl_sub b a
  have h2 := Nm.rl_mul t (b - a)
  have h3 := Nm.rl_add a (t * (b - a))
  omega

def MixSt (wa : World) (O : Nat) (X0 X1 : Rat) (k : Nat) (wr : World) : Prop :=
  Ext wa wr ∧ ∃ c0 c1 : RV, Blk wr O 27 #[.bool c0.n, .slice c0.p c0.l c0.c, .bool c0.m, .slice c0.p2 c0.l2 c0.c2, .bool c1.n, .slice c1.p c1.l c1.c, .bool c1.m, .slice c1.p2 c1.l2 c1.c2] ∧ ((k = 0 ∧ c0 = RV.zero ∧ c1 = RV.zero) ∨ (k = 1 ∧ c0.Is wr X0 ∧ c1 = RV.zero) ∨ (k = 2 ∧ c0.Is wr X0 ∧ c1.Is wr X1))

set_option maxRecDepth 20000 in
set_option maxHeartbeats 4000000 in
theorem mix_any (a0 a1 b0 b1 t : RV) (L : Nat) (A0 A1 B0 B1 S : Rat) (w : World) (hA0 : a0.In L w A0) (hA1 : a1.In L w A1) (hB0 : b0.In L w B0) (hB1 : b1.In L w B1) (hS : t.In L w S) (h1 : 1 ≤ L) (hL : L ≤ 15000) :
    Calls Tryz.prog 30 #[.agg #[.bool a0.n, .slice a0.p a0.l a0.c, .bool a0.m, .slice a0.p2 a0.l2 a0.c2, .bool a1.n, .slice a1.p a1.l a1.c, .bool a1.m, .slice a1.p2 a1.l2 a1.c2], .agg #[.bool b0.n, .slice b0.p b0.l b0.c, .bool b0.m, .slice b0.p2 b0.l2 b0.c2, .bool b1.n, .slice b1.p b1.l b1.c, .bool b1.m, .slice b1.p2 b1.l2 b1.c2], .agg #[.bool t.n, .slice t.p t.l t.c, .bool t.m, .slice t.p2 t.l2 t.c2]] w (RetP (A0 + S * (B0 - A0)) (A1 + S * (B1 - A1)) w) := by
  have hl0 := rl_lerp (a := A0) (b := B0) (t := S) (L := L) (by have := hA0.rl; omega) (by have := hB0.rl; omega) (by have := hS.rl; omega)
  have hl1 := rl_lerp (a := A1) (b := B1) (t := S) (L := L) (by have := hA1.rl; omega) (by have := hB1.rl; omega) (by have := hS.rl; omega)
  have HSUB0 := zH (fun W (x : Ext w W) => xsub (hB0.ext x) (hA0.ext x) (by omega))
  have HSUB1 := zH (fun W (x : Ext w W) => xsub (hB1.ext x) (hA1.ext x) (by omega))
  have HMUL0 := zH (fun W (b : RV) (x : Ext w W) (h : b.Is W (B0 - A0)) => xmul (L := 2 * L + 1) ((hS.ext x).mono (by omega)) (h.isIn hl0.1) (by omega))
  have HMUL1 := zH (fun W (b : RV) (x : Ext w W) (h : b.Is W (B1 - A1)) => xmul (L := 2 * L + 1) ((hS.ext x).mono (by omega)) (h.isIn hl1.1) (by omega))
  have HADD0 := zH (fun W (b : RV) (x : Ext w W) (h : b.Is W (S * (B0 - A0))) => xadd (L := 3 * L + 1) ((hA0.ext x).mono (by omega)) (h.isIn hl0.2.1) (by omega))
  have HADD1 := zH (fun W (b : RV) (x : Ext w W) (h : b.Is W (S * (B1 - A1))) => xadd (L := 3 * L + 1) ((hA1.ext x).mono (by omega)) (h.isIn hl1.2.1) (by omega))
  clear hA0 hA1 hB0 hB1 hS hl0 hl1
  generalize A0 + S * (B0 - A0) = X0 at HADD0 ⊢
  generalize A1 + S * (B1 - A1) = X1 at HADD1 ⊢
  generalize S * (B0 - A0) = M0 at HADD0 HMUL0
  generalize S * (B1 - A1) = M1 at HADD1 HMUL1
  generalize B0 - A0 = D0 at HMUL0 HSUB0
  generalize B1 - A1 = D1 at HMUL1 HSUB1
  go_enter Tryz.func30, Tryz.ntmps30
  go_wp2_with fail
  have bA : Blk ((((w.alloc (.cells #[.bool a0.n, .slice a0.p a0.l a0.c, .bool a0.m, .slice a0.p2 a0.l2 a0.c2, .bool a1.n, .slice a1.p a1.l a1.c, .bool a1.m, .slice a1.p2 a1.l2 a1.c2] 27)).alloc (.cells #[.bool b0.n, .slice b0.p b0.l b0.c, .bool b0.m, .slice b0.p2 b0.l2 b0.c2, .bool b1.n, .slice b1.p b1.l b1.c, .bool b1.m, .slice b1.p2 b1.l2 b1.c2] 27)).alloc (.cells #[.bool t.n, .slice t.p t.l t.c, .bool t.m, .slice t.p2 t.l2 t.c2] 26)).alloc (.cells #[.bool RV.zero.n, .slice RV.zero.p RV.zero.l RV.zero.c, .bool RV.zero.m, .slice RV.zero.p2 RV.zero.l2 RV.zero.c2, .bool RV.zero.n, .slice RV.zero.p RV.zero.l RV.zero.c, .bool RV.zero.m, .slice RV.zero.p2 RV.zero.l2 RV.zero.c2] 27)) w.heap.size 27 #[.bool a0.n, .slice a0.p a0.l a0.c, .bool a0.m, .slice a0.p2 a0.l2 a0.c2, .bool a1.n, .slice a1.p a1.l a1.c, .bool a1.m, .slice a1.p2 a1.l2 a1.c2] := Blk.ext (Blk.new_at w _ rfl _ _) ((((Ext.refl _).alloc _).alloc _).alloc _)
  have bB : Blk ((((w.alloc (.cells #[.bool a0.n, .slice a0.p a0.l a0.c, .bool a0.m, .slice a0.p2 a0.l2 a0.c2, .bool a1.n, .slice a1.p a1.l a1.c, .bool a1.m, .slice a1.p2 a1.l2 a1.c2] 27)).alloc (.cells #[.bool b0.n, .slice b0.p b0.l b0.c, .bool b0.m, .slice b0.p2 b0.l2 b0.c2, .bool b1.n, .slice b1.p b1.l b1.c, .bool b1.m, .slice b1.p2 b1.l2 b1.c2] 27)).alloc (.cells #[.bool t.n, .slice t.p t.l t.c, .bool t.m, .slice t.p2 t.l2 t.c2] 26)).alloc (.cells #[.bool RV.zero.n, .slice RV.zero.p RV.zero.l RV.zero.c, .bool RV.zero.m, .slice RV.zero.p2 RV.zero.l2 RV.zero.c2, .bool RV.zero.n, .slice RV.zero.p RV.zero.l RV.zero.c, .bool RV.zero.m, .slice RV.zero.p2 RV.zero.l2 RV.zero.c2] 27)) (w.heap.size + 1) 27 #[.bool b0.n, .slice b0.p b0.l b0.c, .bool b0.m, .slice b0.p2 b0.l2 b0.c2, .bool b1.n, .slice b1.p b1.l b1.c, .bool b1.m, .slice b1.p2 b1.l2 b1.c2] := Blk.ext (Blk.new_at (w.alloc (.cells #[.bool a0.n, .slice a0.p a0.l a0.c, .bool a0.m, .slice a0.p2 a0.l2 a0.c2, .bool a1.n, .slice a1.p a1.l a1.c, .bool a1.m, .slice a1.p2 a1.l2 a1.c2] 27)) _ (by simp) _ _) (((Ext.refl _).alloc _).alloc _)
  have bT : Blk ((((w.alloc (.cells #[.bool a0.n, .slice a0.p a0.l a0.c, .bool a0.m, .slice a0.p2 a0.l2 a0.c2, .bool a1.n, .slice a1.p a1.l a1.c, .bool a1.m, .slice a1.p2 a1.l2 a1.c2] 27)).alloc (.cells #[.bool b0.n, .slice b0.p b0.l b0.c, .bool b0.m, .slice b0.p2 b0.l2 b0.c2, .bool b1.n, .slice b1.p b1.l b1.c, .bool b1.m, .slice b1.p2 b1.l2 b1.c2] 27)).alloc (.cells #[.bool t.n, .slice t.p t.l t.c, .bool t.m, .slice t.p2 t.l2 t.c2] 26)).alloc (.cells #[.bool RV.zero.n, .slice RV.zero.p RV.zero.l RV.zero.c, .bool RV.zero.m, .slice RV.zero.p2 RV.zero.l2 RV.zero.c2, .bool RV.zero.n, .slice RV.zero.p RV.zero.l RV.zero.c, .bool RV.zero.m, .slice RV.zero.p2 RV.zero.l2 RV.zero.c2] 27)) (w.heap.size + 1 + 1) 26 #[.bool t.n, .slice t.p t.l t.c, .bool t.m, .slice t.p2 t.l2 t.c2] := Blk.ext (Blk.new_at ((w.alloc (.cells #[.bool a0.n, .slice a0.p a0.l a0.c, .bool a0.m, .slice a0.p2 a0.l2 a0.c2, .bool a1.n, .slice a1.p a1.l a1.c, .bool a1.m, .slice a1.p2 a1.l2 a1.c2] 27)).alloc (.cells #[.bool b0.n, .slice b0.p b0.l b0.c, .bool b0.m, .slice b0.p2 b0.l2 b0.c2, .bool b1.n, .slice b1.p b1.l b1.c, .bool b1.m, .slice b1.p2 b1.l2 b1.c2] 27)) _ (by simp) _ _) ((Ext.refl _).alloc _)
  have bR : Blk ((((w.alloc (.cells #[.bool a0.n, .slice a0.p a0.l a0.c, .bool a0.m, .slice a0.p2 a0.l2 a0.c2, .bool a1.n, .slice a1.p a1.l a1.c, .bool a1.m, .slice a1.p2 a1.l2 a1.c2] 27)).alloc (.cells #[.bool b0.n, .slice b0.p b0.l b0.c, .bool b0.m, .slice b0.p2 b0.l2 b0.c2, .bool b1.n, .slice b1.p b1.l b1.c, .bool b1.m, .slice b1.p2 b1.l2 b1.c2] 27)).alloc (.cells #[.bool t.n, .slice t.p t.l t.c, .bool t.m, .slice t.p2 t.l2 t.c2] 26)).alloc (.cells #[.bool RV.zero.n, .slice RV.zero.p RV.zero.l RV.zero.c, .bool RV.zero.m, .slice RV.zero.p2 RV.zero.l2 RV.zero.c2, .bool RV.zero.n, .slice RV.zero.p RV.zero.l RV.zero.c, .bool RV.zero.m, .slice RV.zero.p2 RV.zero.l2 RV.zero.c2] 27)) (w.heap.size + 1 + 1 + 1) 27 #[.bool RV.zero.n, .slice RV.zero.p RV.zero.l RV.zero.c, .bool RV.zero.m, .slice RV.zero.p2 RV.zero.l2 RV.zero.c2, .bool RV.zero.n, .slice RV.zero.p RV.zero.l RV.zero.c, .bool RV.zero.m, .slice RV.zero.p2 RV.zero.l2 RV.zero.c2] := Blk.new_at _ _ (by simp) _ _
  have hz : ((((w.alloc (.cells #[.bool a0.n, .slice a0.p a0.l a0.c, .bool a0.m, .slice a0.p2 a0.l2 a0.c2, .bool a1.n, .slice a1.p a1.l a1.c, .bool a1.m, .slice a1.p2 a1.l2 a1.c2] 27)).alloc (.cells #[.bool b0.n, .slice b0.p b0.l b0.c, .bool b0.m, .slice b0.p2 b0.l2 b0.c2, .bool b1.n, .slice b1.p b1.l b1.c, .bool b1.m, .slice b1.p2 b1.l2 b1.c2] 27)).alloc (.cells #[.bool t.n, .slice t.p t.l t.c, .bool t.m, .slice t.p2 t.l2 t.c2] 26)).alloc (.cells #[.bool RV.zero.n, .slice RV.zero.p RV.zero.l RV.zero.c, .bool RV.zero.m, .slice RV.zero.p2 RV.zero.l2 RV.zero.c2, .bool RV.zero.n, .slice RV.zero.p RV.zero.l RV.zero.c, .bool RV.zero.m, .slice RV.zero.p2 RV.zero.l2 RV.zero.c2] 27)).heap.size = w.heap.size + 1 + 1 + 1 + 1 := by simp
  have hE : Ext w ((((w.alloc (.cells #[.bool a0.n, .slice a0.p a0.l a0.c, .bool a0.m, .slice a0.p2 a0.l2 a0.c2, .bool a1.n, .slice a1.p a1.l a1.c, .bool a1.m, .slice a1.p2 a1.l2 a1.c2] 27)).alloc (.cells #[.bool b0.n, .slice b0.p b0.l b0.c, .bool b0.m, .slice b0.p2 b0.l2 b0.c2, .bool b1.n, .slice b1.p b1.l b1.c, .bool b1.m, .slice b1.p2 b1.l2 b1.c2] 27)).alloc (.cells #[.bool t.n, .slice t.p t.l t.c, .bool t.m, .slice t.p2 t.l2 t.c2] 26)).alloc (.cells #[.bool RV.zero.n, .slice RV.zero.p RV.zero.l RV.zero.c, .bool RV.zero.m, .slice RV.zero.p2 RV.zero.l2 RV.zero.c2, .bool RV.zero.n, .slice RV.zero.p RV.zero.l RV.zero.c, .bool RV.zero.m, .slice RV.zero.p2 RV.zero.l2 RV.zero.c2] 27)) := ((((Ext.refl _).alloc _).alloc _).alloc _).alloc _
  have HB3 := zH (And.intro bA (And.intro bB (And.intro bT bR)))
  clear bA bB bT bR
  obtain ⟨wa, hwa⟩ : ∃ wa, wa = ((((w.alloc (.cells #[.bool a0.n, .slice a0.p a0.l a0.c, .bool a0.m, .slice a0.p2 a0.l2 a0.c2, .bool a1.n, .slice a1.p a1.l a1.c, .bool a1.m, .slice a1.p2 a1.l2 a1.c2] 27)).alloc (.cells #[.bool b0.n, .slice b0.p b0.l b0.c, .bool b0.m, .slice b0.p2 b0.l2 b0.c2, .bool b1.n, .slice b1.p b1.l b1.c, .bool b1.m, .slice b1.p2 b1.l2 b1.c2] 27)).alloc (.cells #[.bool t.n, .slice t.p t.l t.c, .bool t.m, .slice t.p2 t.l2 t.c2] 26)).alloc (.cells #[.bool RV.zero.n, .slice RV.zero.p RV.zero.l RV.zero.c, .bool RV.zero.m, .slice RV.zero.p2 RV.zero.l2 RV.zero.c2, .bool RV.zero.n, .slice RV.zero.p RV.zero.l RV.zero.c, .bool RV.zero.m, .slice RV.zero.p2 RV.zero.l2 RV.zero.c2] 27)) := ⟨_, rfl⟩
  have hwa2 := hwa
  simp only [RV.zero] at hwa2
  rw [← hwa] at HB3 hz hE
  rw [← hwa2]
  have HZ := zH hz
  have HE := zH hE
  clear hwa hwa2 hz hE
  have hlt : w.heap.size < w.heap.size + 1 + 1 + 1 + 1 ∧ w.heap.size + 1 < w.heap.size + 1 + 1 + 1 + 1 ∧ w.heap.size + 1 + 1 < w.heap.size + 1 + 1 + 1 + 1 ∧ w.heap.size + 1 + 1 + 1 < w.heap.size + 1 + 1 + 1 + 1 := by omega
  have HWR := zH (show w.heap.size ≤ w.heap.size + 1 + 1 + 1 by omega)
  generalize hO : w.heap.size + 1 + 1 + 1 + 1 = O at *
  generalize hR : w.heap.size + 1 + 1 + 1 = R at *
  generalize hTT : w.heap.size + 1 + 1 = TT at *
  generalize hB : w.heap.size + 1 = B at *
  generalize hA : w.heap.size = A at *
  have n1 : A ≠ O := by omega
  have n2 : B ≠ O := by omega
  have n3 : TT ≠ O := by omega
  have n4 : R ≠ O := by omega
  have HAA := zH hA
  clear hO hR hTT hB hA hlt
  go_loopw [9] (fun i wr => ∃ k : Nat, i = .int .i64 k ∧ MixSt wa O X0 X1 k wr) (fun i _ => 2 - (intOf i).toNat)
  case atStart => exact ⟨0, rfl, (Ext.refl _).alloc _, RV.zero, RV.zero, Blk.new_at wa O HZ.out.symm _ _, .inl ⟨rfl, rfl, rfl⟩⟩
  case round =>
    obtain ⟨k, rfl, he, v0, v1, hb, hcase⟩ := hrel
    have HBO := zH hb
    have HEW := zH he
    have gl : ∀ x, Own O wr x → x.cell? ⟨A, 0, none⟩ = some (.bool a0.n) ∧ x.cell? ⟨A, 1, none⟩ = some (.slice a0.p a0.l a0.c) ∧ x.cell? ⟨A, 2, none⟩ = some (.bool a0.m) ∧ x.cell? ⟨A, 3, none⟩ = some (.slice a0.p2 a0.l2 a0.c2) ∧ x.cell? ⟨A, 4, none⟩ = some (.bool a1.n) ∧ x.cell? ⟨A, 5, none⟩ = some (.slice a1.p a1.l a1.c) ∧ x.cell? ⟨A, 6, none⟩ = some (.bool a1.m) ∧ x.cell? ⟨A, 7, none⟩ = some (.slice a1.p2 a1.l2 a1.c2) ∧ x.cell? ⟨B, 0, none⟩ = some (.bool b0.n) ∧ x.cell? ⟨B, 1, none⟩ = some (.slice b0.p b0.l b0.c) ∧ x.cell? ⟨B, 2, none⟩ = some (.bool b0.m) ∧ x.cell? ⟨B, 3, none⟩ = some (.slice b0.p2 b0.l2 b0.c2) ∧ x.cell? ⟨B, 4, none⟩ = some (.bool b1.n) ∧ x.cell? ⟨B, 5, none⟩ = some (.slice b1.p b1.l b1.c) ∧ x.cell? ⟨B, 6, none⟩ = some (.bool b1.m) ∧ x.cell? ⟨B, 7, none⟩ = some (.slice b1.p2 b1.l2 b1.c2) ∧ x.cell? ⟨TT, 0, none⟩ = some (.bool t.n) ∧ x.cell? ⟨TT, 1, none⟩ = some (.slice t.p t.l t.c) ∧ x.cell? ⟨TT, 2, none⟩ = some (.bool t.m) ∧ x.cell? ⟨TT, 3, none⟩ = some (.slice t.p2 t.l2 t.c2) := fun x h => by
      have kA := (HB3.out.1.ext he).own h n1
      have kB := (HB3.out.2.1.ext he).own h n2
      have kT := (HB3.out.2.2.1.ext he).own h n3
      exact ⟨kA.cell 0, kA.cell 1, kA.cell 2, kA.cell 3, kA.cell 4, kA.cell 5, kA.cell 6, kA.cell 7, kB.cell 0, kB.cell 1, kB.cell 2, kB.cell 3, kB.cell 4, kB.cell 5, kB.cell 6, kB.cell 7, kT.cell 0, kT.cell 1, kT.cell 2, kT.cell 3⟩
    clear hb he
    rcases hcase with ⟨rfl, rfl, rfl⟩ | ⟨rfl, h0, rfl⟩ | ⟨rfl, h0, h1⟩
    · go_wp2_with fail
      go_region_held3 (fun x => Own O wr x) (first | (with_reducible assumption) | (with_reducible exact Own.drew (Own.refl _ _)) | (with_reducible (apply Own.of_ext; assumption)) | (with_reducible (refine Own.set_at (Own.set_at (Own.set_at (Own.set_at ?_ _ _ _) _ _ _) _ _ _) _ _ _; first | assumption | (apply Own.of_ext; assumption))))
        (first | (go_at_call 43; ((with_reducible refine (HSUB0.out _ ((HE.out.trans HEW.out).trans (by first | assumption | exact Ext.drew (Ext.refl _)))).mono ?_)); rintro e wx ⟨r1, rfl, hc1, hen1⟩; have hx1 : Ext wr wx := Ext.trans (by first | assumption | exact Ext.drew (Ext.refl _)) hen1) | (go_at_call 58; ((with_reducible refine (HMUL0.out _ _ ((HE.out.trans HEW.out).trans (by first | assumption | exact Ext.drew (Ext.refl _))) hc1).mono ?_)); rintro e wy ⟨r2, rfl, hc2, hen2⟩; have hx2 : Ext wr wy := Ext.trans (by first | assumption | exact Ext.drew (Ext.refl _)) hen2) | (go_at_call 45; ((with_reducible refine (HADD0.out _ _ ((HE.out.trans HEW.out).trans (by first | assumption | exact Ext.drew (Ext.refl _))) hc2).mono ?_)); rintro e wz ⟨r3, rfl, hc3, hen3⟩; have hx3 : Ext wr wz := Ext.trans (by first | assumption | exact Ext.drew (Ext.refl _)) hen3; have X0' := Blk.ext HBO.out hx3; have x0 := X0'.cell 0; have y0 := X0'.frozen 0; have x1 := X0'.cell 1; have y1 := X0'.frozen 1; have x2 := X0'.cell 2; have y2 := X0'.frozen 2; have x3 := X0'.cell 3; have y3 := X0'.frozen 3; simp [RV.zero] at x0 x1 x2 x3))
      have o := ((((Own.refl O wz).set_at 0 none (.bool r3.n)).set_at 1 none (.slice r3.p r3.l r3.c)).set_at 2 none (.bool r3.m)).set_at 3 none (.slice r3.p2 r3.l2 r3.c2)
      have bb := (((Blk.set_ X0' 0 (.bool r3.n)).set_ 1 (.slice r3.p r3.l r3.c)).set_ 2 (.bool r3.m)).set_ 3 (.slice r3.p2 r3.l2 r3.c2)
      have ii := hc3.own X0' (noU8 _ _) o
      have ee := o.ext (HEW.out.trans hx3) (Nat.le_of_eq HZ.out)
      have HF := zH (And.intro bb (And.intro ii ee))
      clear o bb ii ee x0 x1 x2 x3 y0 y1 y2 y3 gl
      go_wp2_with fail
      go_roundw
      case rel => exact ⟨1, by go_num, HF.out.2.2, r3, RV.zero, HF.out.1, .inr (.inl ⟨rfl, HF.out.2.1, rfl⟩)⟩
      case measure => simp [intOf]
    · go_wp2_with fail
      go_region_held3 (fun x => Own O wr x) (first | (with_reducible assumption) | (with_reducible exact Own.drew (Own.refl _ _)) | (with_reducible (apply Own.of_ext; assumption)) | (with_reducible (refine Own.set_at (Own.set_at (Own.set_at (Own.set_at ?_ _ _ _) _ _ _) _ _ _) _ _ _; first | assumption | (apply Own.of_ext; assumption))))
        (first | (go_at_call 43; ((with_reducible refine (HSUB1.out _ ((HE.out.trans HEW.out).trans (by first | assumption | exact Ext.drew (Ext.refl _)))).mono ?_)); rintro e wx ⟨r1, rfl, hc1, hen1⟩; have hx1 : Ext wr wx := Ext.trans (by first | assumption | exact Ext.drew (Ext.refl _)) hen1) | (go_at_call 58; ((with_reducible refine (HMUL1.out _ _ ((HE.out.trans HEW.out).trans (by first | assumption | exact Ext.drew (Ext.refl _))) hc1).mono ?_)); rintro e wy ⟨r2, rfl, hc2, hen2⟩; have hx2 : Ext wr wy := Ext.trans (by first | assumption | exact Ext.drew (Ext.refl _)) hen2) | (go_at_call 45; ((with_reducible refine (HADD1.out _ _ ((HE.out.trans HEW.out).trans (by first | assumption | exact Ext.drew (Ext.refl _))) hc2).mono ?_)); rintro e wz ⟨r3, rfl, hc3, hen3⟩; have hx3 : Ext wr wz := Ext.trans (by first | assumption | exact Ext.drew (Ext.refl _)) hen3; have X0' := Blk.ext HBO.out hx3; have x0 := X0'.cell 4; have y0 := X0'.frozen 4; have x1 := X0'.cell 5; have y1 := X0'.frozen 5; have x2 := X0'.cell 6; have y2 := X0'.frozen 6; have x3 := X0'.cell 7; have y3 := X0'.frozen 7; simp [RV.zero] at x0 x1 x2 x3))
      have o := ((((Own.refl O wz).set_at 4 none (.bool r3.n)).set_at 5 none (.slice r3.p r3.l r3.c)).set_at 6 none (.bool r3.m)).set_at 7 none (.slice r3.p2 r3.l2 r3.c2)
      have bb := (((Blk.set_ X0' 4 (.bool r3.n)).set_ 5 (.slice r3.p r3.l r3.c)).set_ 6 (.bool r3.m)).set_ 7 (.slice r3.p2 r3.l2 r3.c2)
      have ii := hc3.own X0' (noU8 _ _) o
      have ee := o.ext (HEW.out.trans hx3) (Nat.le_of_eq HZ.out)
      have i0 := (h0.ext hx3).own X0' (noU8 _ _) o
      have HF := zH (And.intro bb (And.intro ii ee))
      have HI0 := zH i0
      clear o bb ii ee i0 h0 x0 x1 x2 x3 y0 y1 y2 y3 gl
      go_wp2_with fail
      go_roundw
      case rel => exact ⟨2, by go_num, HF.out.2.2, _, r3, HF.out.1, .inr (.inr ⟨rfl, HI0.out, HF.out.2.1⟩)⟩
      case measure => simp [intOf]
    · have kO := HBO.out
      have kR := HB3.out.2.2.2.ext HEW.out
      have x0 := kO.cell 0
      have x1 := kO.cell 1
      have x2 := kO.cell 2
      have x3 := kO.cell 3
      have x4 := kO.cell 4
      have x5 := kO.cell 5
      have x6 := kO.cell 6
      have x7 := kO.cell 7
      have q0 := kR.cell 0
      have q1 := kR.cell 1
      have q2 := kR.cell 2
      have q3 := kR.cell 3
      have q4 := kR.cell 4
      have q5 := kR.cell 5
      have q6 := kR.cell 6
      have q7 := kR.cell 7
      have y0 := kR.frozen 0
      have y1 := kR.frozen 1
      have y2 := kR.frozen 2
      have y3 := kR.frozen 3
      have y4 := kR.frozen 4
      have y5 := kR.frozen 5
      have y6 := kR.frozen 6
      have y7 := kR.frozen 7
      simp [RV.zero] at x0 q0 x1 q1 x2 q2 x3 q3 x4 q4 x5 q5 x6 q6 x7 q7
      have o := (((((((((Own.refl R wr).set_at 0 none (.bool v0.n)).set_at 1 none (.slice v0.p v0.l v0.c)).set_at 2 none (.bool v0.m)).set_at 3 none (.slice v0.p2 v0.l2 v0.c2)).set_at 4 none (.bool v1.n)).set_at 5 none (.slice v1.p v1.l v1.c)).set_at 6 none (.bool v1.m)).set_at 7 none (.slice v1.p2 v1.l2 v1.c2))
      have i0 := h0.own kR (noU8 _ _) o
      have i1 := h1.own kR (noU8 _ _) o
      have ee := o.ext (HE.out.trans HEW.out) (by rw [HAA.out]; exact HWR.out)
      have HF := zH (And.intro i0 (And.intro i1 ee))
      clear o i0 i1 ee gl h0 h1 kO kR
      go_wp2_with fail
      refine bodyPost_ret (v := .agg #[.bool v0.n, .slice v0.p v0.l v0.c, .bool v0.m, .slice v0.p2 v0.l2 v0.c2, .bool v1.n, .slice v1.p v1.l v1.c, .bool v1.m, .slice v1.p2 v1.l2 v1.c2]) ?_ rfl ⟨v0, v1, rfl, HF.out.1, HF.out.2.1, HF.out.2.2⟩
      simp [results, Tryz.results30, go_sem, *]
end Go.Proofs.YtllpkoinjompcaaGreat

namespace Go.Proofs.YtllpkoinjompcaaGreat
open Go.RowKit
attribute [local go_sem ↓] Go.wp_at_zero Go.wp_at_succ run_max_ii run_min_ii

theorem noUz : NoU #[.bool RV.zero.n, .slice RV.zero.p RV.zero.l RV.zero.c, .bool RV.zero.m, .slice RV.zero.p2 RV.zero.l2 RV.zero.c2, .bool RV.zero.n, .slice RV.zero.p RV.zero.l RV.zero.c, .bool RV.zero.m, .slice RV.zero.p2 RV.zero.l2 RV.zero.c2] := noU8 _ _

set_option maxRecDepth 20000 in
set_option maxHeartbeats 4000000 in
theorem reduced_any (a0 a1 : RV) (L : Nat) (A0 A1 : Rat) (w : World) (h0 : a0.In L w A0) (h1 : a1.In L w A1) (hL : L ≤ 70000) :
      Calls Tryz.prog 31 #[.agg #[.bool a0.n, .slice a0.p a0.l a0.c, .bool a0.m, .slice a0.p2 a0.l2 a0.c2, .bool a1.n, .slice a1.p a1.l a1.c, .bool a1.m, .slice a1.p2 a1.l2 a1.c2]] w (RetP A0 A1 w) := by
  have H0 := zH (fun W (x : Ext w W) => xnorm (h0.ext x) (by omega))
  have H1 := zH (fun W (x : Ext w W) => xnorm (h1.ext x) (by omega))
  clear h0 h1
  go_enter Tryz.func31, Tryz.ntmps31
  go_wp2_with fail
  have bx0 : Blk ((w.alloc (.cells #[.bool a0.n, .slice a0.p a0.l a0.c, .bool a0.m, .slice a0.p2 a0.l2 a0.c2, .bool a1.n, .slice a1.p a1.l a1.c, .bool a1.m, .slice a1.p2 a1.l2 a1.c2] 27)).alloc (.cells #[.bool RV.zero.n, .slice RV.zero.p RV.zero.l RV.zero.c, .bool RV.zero.m, .slice RV.zero.p2 RV.zero.l2 RV.zero.c2, .bool RV.zero.n, .slice RV.zero.p RV.zero.l RV.zero.c, .bool RV.zero.m, .slice RV.zero.p2 RV.zero.l2 RV.zero.c2] 27)) (w.heap.size) 27 #[.bool a0.n, .slice a0.p a0.l a0.c, .bool a0.m, .slice a0.p2 a0.l2 a0.c2, .bool a1.n, .slice a1.p a1.l a1.c, .bool a1.m, .slice a1.p2 a1.l2 a1.c2] := Blk.ext (Blk.new_at w _ (by simp) _ _) ((Ext.refl _).alloc _)
  have bR : Blk ((w.alloc (.cells #[.bool a0.n, .slice a0.p a0.l a0.c, .bool a0.m, .slice a0.p2 a0.l2 a0.c2, .bool a1.n, .slice a1.p a1.l a1.c, .bool a1.m, .slice a1.p2 a1.l2 a1.c2] 27)).alloc (.cells #[.bool RV.zero.n, .slice RV.zero.p RV.zero.l RV.zero.c, .bool RV.zero.m, .slice RV.zero.p2 RV.zero.l2 RV.zero.c2, .bool RV.zero.n, .slice RV.zero.p RV.zero.l RV.zero.c, .bool RV.zero.m, .slice RV.zero.p2 RV.zero.l2 RV.zero.c2] 27)) (w.heap.size + 1) 27 #[.bool RV.zero.n, .slice RV.zero.p RV.zero.l RV.zero.c, .bool RV.zero.m, .slice RV.zero.p2 RV.zero.l2 RV.zero.c2, .bool RV.zero.n, .slice RV.zero.p RV.zero.l RV.zero.c, .bool RV.zero.m, .slice RV.zero.p2 RV.zero.l2 RV.zero.c2] := Blk.new_at _ _ (by simp) _ _
  have hE : Ext w ((w.alloc (.cells #[.bool a0.n, .slice a0.p a0.l a0.c, .bool a0.m, .slice a0.p2 a0.l2 a0.c2, .bool a1.n, .slice a1.p a1.l a1.c, .bool a1.m, .slice a1.p2 a1.l2 a1.c2] 27)).alloc (.cells #[.bool RV.zero.n, .slice RV.zero.p RV.zero.l RV.zero.c, .bool RV.zero.m, .slice RV.zero.p2 RV.zero.l2 RV.zero.c2, .bool RV.zero.n, .slice RV.zero.p RV.zero.l RV.zero.c, .bool RV.zero.m, .slice RV.zero.p2 RV.zero.l2 RV.zero.c2] 27)) := (((Ext.refl _).alloc _).alloc _)
  have HBS := zH (And.intro bR (And.intro bx0 trivial))
  clear bR bx0
  obtain ⟨wa, hwa⟩ : ∃ wa, wa = ((w.alloc (.cells #[.bool a0.n, .slice a0.p a0.l a0.c, .bool a0.m, .slice a0.p2 a0.l2 a0.c2, .bool a1.n, .slice a1.p a1.l a1.c, .bool a1.m, .slice a1.p2 a1.l2 a1.c2] 27)).alloc (.cells #[.bool RV.zero.n, .slice RV.zero.p RV.zero.l RV.zero.c, .bool RV.zero.m, .slice RV.zero.p2 RV.zero.l2 RV.zero.c2, .bool RV.zero.n, .slice RV.zero.p RV.zero.l RV.zero.c, .bool RV.zero.m, .slice RV.zero.p2 RV.zero.l2 RV.zero.c2] 27)) := ⟨_, rfl⟩
  have hwa2 := hwa
  simp only [RV.zero] at hwa2
  rw [← hwa] at HBS hE
  rw [← hwa2]
  have HE := zH hE
  clear hwa hwa2 hE
  have HWR := zH (show w.heap.size ≤ w.heap.size + 1 by omega)
  generalize hR : w.heap.size + 1 = R at *
  generalize hBA : w.heap.size = BA at *
  have n0 : BA ≠ R := by omega
  have HAA := zH hBA
  clear hR hBA
  have gl : ∀ x, Own R wa x → x.cell? ⟨BA, 0, none⟩ = some (.bool a0.n) ∧ x.cell? ⟨BA, 1, none⟩ = some (.slice a0.p a0.l a0.c) ∧ x.cell? ⟨BA, 2, none⟩ = some (.bool a0.m) ∧ x.cell? ⟨BA, 3, none⟩ = some (.slice a0.p2 a0.l2 a0.c2) ∧ x.cell? ⟨BA, 4, none⟩ = some (.bool a1.n) ∧ x.cell? ⟨BA, 5, none⟩ = some (.slice a1.p a1.l a1.c) ∧ x.cell? ⟨BA, 6, none⟩ = some (.bool a1.m) ∧ x.cell? ⟨BA, 7, none⟩ = some (.slice a1.p2 a1.l2 a1.c2) := fun x h => by
    have k0 := HBS.out.2.1.own h n0
    exact ⟨k0.cell 0, k0.cell 1, k0.cell 2, k0.cell 3, k0.cell 4, k0.cell 5, k0.cell 6, k0.cell 7⟩
  go_region_held3 (fun x => Own R wa x) (first | (with_reducible assumption) | (with_reducible exact Own.drew (Own.refl _ _)) | (with_reducible (apply Own.of_ext; assumption)) | (refine Own.set_at (Own.set_at (Own.set_at (Own.set_at (Own.set_at (Own.set_at (Own.set_at (Own.set_at ?_ _ _ _) _ _ _) _ _ _) _ _ _) _ _ _) _ _ _) _ _ _) _ _ _; first | assumption | (apply Own.of_ext; assumption)))
    (first | (go_at_call 59; ((with_reducible refine (H0.out _ (HE.out.trans (by first | assumption | exact Ext.drew (Ext.refl _)))).mono ?_)); rintro e wy ⟨u9, rfl, hc1, hen1⟩; have hx1 : Ext wa wy := Ext.trans (by first | assumption | exact Ext.drew (Ext.refl _)) hen1) | (go_at_call 59; ((with_reducible refine (H1.out _ (HE.out.trans (by first | assumption | exact Ext.drew (Ext.refl _)))).mono ?_)); rintro e wz ⟨v9, rfl, hc2, hen2⟩; have hx2 : Ext wa wz := Ext.trans (by first | assumption | exact Ext.drew (Ext.refl _)) hen2; have hx := hx2; have X0' := Blk.ext HBS.out.1 hx; have x0 := X0'.cell 0; have y0 := X0'.frozen 0; have x1 := X0'.cell 1; have y1 := X0'.frozen 1; have x2 := X0'.cell 2; have y2 := X0'.frozen 2; have x3 := X0'.cell 3; have y3 := X0'.frozen 3; have x4 := X0'.cell 4; have y4 := X0'.frozen 4; have x5 := X0'.cell 5; have y5 := X0'.frozen 5; have x6 := X0'.cell 6; have y6 := X0'.frozen 6; have x7 := X0'.cell 7; have y7 := X0'.frozen 7; simp [RV.zero] at x0 x1 x2 x3 x4 x5 x6 x7))
  go_wp2_with fail
  have o := (((((((((Own.refl R wz).set_at 0 none (.bool u9.n)).set_at 1 none (.slice u9.p u9.l u9.c)).set_at 2 none (.bool u9.m)).set_at 3 none (.slice u9.p2 u9.l2 u9.c2)).set_at 4 none (.bool v9.n)).set_at 5 none (.slice v9.p v9.l v9.c)).set_at 6 none (.bool v9.m)).set_at 7 none (.slice v9.p2 v9.l2 v9.c2))
  have i0 := (hc1.ext hen2).own X0' noUz o
  have i1 := (hc2).own X0' noUz o
  have ee := o.ext (HE.out.trans hx) (by rw [HAA.out]; exact HWR.out)
  refine bodyPost_ret (v := .agg #[.bool u9.n, .slice u9.p u9.l u9.c, .bool u9.m, .slice u9.p2 u9.l2 u9.c2, .bool v9.n, .slice v9.p v9.l v9.c, .bool v9.m, .slice v9.p2 v9.l2 v9.c2]) ?_ rfl ⟨u9, v9, rfl, i0, i1, ee⟩
  simp [results, Tryz.results31, go_sem, *]

def lerpV (a b t : Rat) : Rat := a + t * (b - a)
def quadV (a b c t : Rat) : Rat := lerpV (lerpV a b t) (lerpV b c t) t
theorem rl_lerpV {a b t : Rat} {L : Nat} (ha : Nm.rl a ≤ L) (hb : Nm.rl b ≤ L) (ht : Nm.rl t ≤ L) : Nm.rl (lerpV a b t) ≤ 4 * L + 2 := (rl_lerp ha hb ht).2.2

set_option maxRecDepth 20000 in
set_option maxHeartbeats 4000000 in
theorem evalQuad_any (a0 a1 b0 b1 c0 c1 t : RV) (L : Nat) (A0 A1 B0 B1 C0 C1 S : Rat) (w : World) (hA0 : a0.In L w A0) (hA1 : a1.In L w A1) (hB0 : b0.In L w B0) (hB1 : b1.In L w B1) (hC0 : c0.In L w C0) (hC1 : c1.In L w C1) (hS : t.In L w S) (h1 : 1 ≤ L) (hL : L ≤ 3000) :
      Calls Tryz.prog 14 #[.agg #[.bool a0.n, .slice a0.p a0.l a0.c, .bool a0.m, .slice a0.p2 a0.l2 a0.c2, .bool a1.n, .slice a1.p a1.l a1.c, .bool a1.m, .slice a1.p2 a1.l2 a1.c2, .bool b0.n, .slice b0.p b0.l b0.c, .bool b0.m, .slice b0.p2 b0.l2 b0.c2, .bool b1.n, .slice b1.p b1.l b1.c, .bool b1.m, .slice b1.p2 b1.l2 b1.c2, .bool c0.n, .slice c0.p c0.l c0.c, .bool c0.m, .slice c0.p2 c0.l2 c0.c2, .bool c1.n, .slice c1.p c1.l c1.c, .bool c1.m, .slice c1.p2 c1.l2 c1.c2], .agg #[.bool t.n, .slice t.p t.l t.c, .bool t.m, .slice t.p2 t.l2 t.c2]] w (RetP (quadV A0 B0 C0 S) (quadV A1 B1 C1 S) w) := by
  have q0 := rl_lerpV (a := A0) (b := B0) (t := S) (L := L) (by have := hA0.rl; omega) (by have := hB0.rl; omega) (by have := hS.rl; omega)
  have q1 := rl_lerpV (a := A1) (b := B1) (t := S) (L := L) (by have := hA1.rl; omega) (by have := hB1.rl; omega) (by have := hS.rl; omega)
  have q2 := rl_lerpV (a := B0) (b := C0) (t := S) (L := L) (by have := hB0.rl; omega) (by have := hC0.rl; omega) (by have := hS.rl; omega)
  have q3 := rl_lerpV (a := B1) (b := C1) (t := S) (L := L) (by have := hB1.rl; omega) (by have := hC1.rl; omega) (by have := hS.rl; omega)
  have H0 := zH (fun W (x : Ext w W) => mix_any a0 a1 b0 b1 t L A0 A1 B0 B1 S W (hA0.ext x) (hA1.ext x) (hB0.ext x) (hB1.ext x) (hS.ext x) h1 (by omega))
  have H1 := zH (fun W (x : Ext w W) => mix_any b0 b1 c0 c1 t L B0 B1 C0 C1 S W (hB0.ext x) (hB1.ext x) (hC0.ext x) (hC1.ext x) (hS.ext x) h1 (by omega))
  have H2 := zH (fun W (x : Ext w W) (d0 d1 e0 e1 : RV) (k0 : d0.Is W (lerpV A0 B0 S)) (k1 : d1.Is W (lerpV A1 B1 S)) (k2 : e0.Is W (lerpV B0 C0 S)) (k3 : e1.Is W (lerpV B1 C1 S)) => mix_any d0 d1 e0 e1 t (4 * L + 2) _ _ _ _ S W (k0.isIn q0) (k1.isIn q1) (k2.isIn q2) (k3.isIn q3) ((hS.ext x).mono (by omega)) (by omega) (by omega))
  clear hA0 hA1 hB0 hB1 hC0 hC1 hS q0 q1 q2 q3
  go_enter Tryz.func14, Tryz.ntmps14
  go_wp2_with fail
  have bx0 : Blk (((w.alloc (.cells #[.bool a0.n, .slice a0.p a0.l a0.c, .bool a0.m, .slice a0.p2 a0.l2 a0.c2, .bool a1.n, .slice a1.p a1.l a1.c, .bool a1.m, .slice a1.p2 a1.l2 a1.c2, .bool b0.n, .slice b0.p b0.l b0.c, .bool b0.m, .slice b0.p2 b0.l2 b0.c2, .bool b1.n, .slice b1.p b1.l b1.c, .bool b1.m, .slice b1.p2 b1.l2 b1.c2, .bool c0.n, .slice c0.p c0.l c0.c, .bool c0.m, .slice c0.p2 c0.l2 c0.c2, .bool c1.n, .slice c1.p c1.l c1.c, .bool c1.m, .slice c1.p2 c1.l2 c1.c2] 32)).alloc (.cells #[.bool t.n, .slice t.p t.l t.c, .bool t.m, .slice t.p2 t.l2 t.c2] 26)).alloc (.cells #[.bool RV.zero.n, .slice RV.zero.p RV.zero.l RV.zero.c, .bool RV.zero.m, .slice RV.zero.p2 RV.zero.l2 RV.zero.c2, .bool RV.zero.n, .slice RV.zero.p RV.zero.l RV.zero.c, .bool RV.zero.m, .slice RV.zero.p2 RV.zero.l2 RV.zero.c2] 27)) (w.heap.size) 32 #[.bool a0.n, .slice a0.p a0.l a0.c, .bool a0.m, .slice a0.p2 a0.l2 a0.c2, .bool a1.n, .slice a1.p a1.l a1.c, .bool a1.m, .slice a1.p2 a1.l2 a1.c2, .bool b0.n, .slice b0.p b0.l b0.c, .bool b0.m, .slice b0.p2 b0.l2 b0.c2, .bool b1.n, .slice b1.p b1.l b1.c, .bool b1.m, .slice b1.p2 b1.l2 b1.c2, .bool c0.n, .slice c0.p c0.l c0.c, .bool c0.m, .slice c0.p2 c0.l2 c0.c2, .bool c1.n, .slice c1.p c1.l c1.c, .bool c1.m, .slice c1.p2 c1.l2 c1.c2] := Blk.ext (Blk.new_at w _ (by simp) _ _) (((Ext.refl _).alloc _).alloc _)
  have bx1 : Blk (((w.alloc (.cells #[.bool a0.n, .slice a0.p a0.l a0.c, .bool a0.m, .slice a0.p2 a0.l2 a0.c2, .bool a1.n, .slice a1.p a1.l a1.c, .bool a1.m, .slice a1.p2 a1.l2 a1.c2, .bool b0.n, .slice b0.p b0.l b0.c, .bool b0.m, .slice b0.p2 b0.l2 b0.c2, .bool b1.n, .slice b1.p b1.l b1.c, .bool b1.m, .slice b1.p2 b1.l2 b1.c2, .bool c0.n, .slice c0.p c0.l c0.c, .bool c0.m, .slice c0.p2 c0.l2 c0.c2, .bool c1.n, .slice c1.p c1.l c1.c, .bool c1.m, .slice c1.p2 c1.l2 c1.c2] 32)).alloc (.cells #[.bool t.n, .slice t.p t.l t.c, .bool t.m, .slice t.p2 t.l2 t.c2] 26)).alloc (.cells #[.bool RV.zero.n, .slice RV.zero.p RV.zero.l RV.zero.c, .bool RV.zero.m, .slice RV.zero.p2 RV.zero.l2 RV.zero.c2, .bool RV.zero.n, .slice RV.zero.p RV.zero.l RV.zero.c, .bool RV.zero.m, .slice RV.zero.p2 RV.zero.l2 RV.zero.c2] 27)) (w.heap.size + 1) 26 #[.bool t.n, .slice t.p t.l t.c, .bool t.m, .slice t.p2 t.l2 t.c2] := Blk.ext (Blk.new_at (w.alloc (.cells #[.bool a0.n, .slice a0.p a0.l a0.c, .bool a0.m, .slice a0.p2 a0.l2 a0.c2, .bool a1.n, .slice a1.p a1.l a1.c, .bool a1.m, .slice a1.p2 a1.l2 a1.c2, .bool b0.n, .slice b0.p b0.l b0.c, .bool b0.m, .slice b0.p2 b0.l2 b0.c2, .bool b1.n, .slice b1.p b1.l b1.c, .bool b1.m, .slice b1.p2 b1.l2 b1.c2, .bool c0.n, .slice c0.p c0.l c0.c, .bool c0.m, .slice c0.p2 c0.l2 c0.c2, .bool c1.n, .slice c1.p c1.l c1.c, .bool c1.m, .slice c1.p2 c1.l2 c1.c2] 32)) _ (by simp) _ _) ((Ext.refl _).alloc _)
  have bR : Blk (((w.alloc (.cells #[.bool a0.n, .slice a0.p a0.l a0.c, .bool a0.m, .slice a0.p2 a0.l2 a0.c2, .bool a1.n, .slice a1.p a1.l a1.c, .bool a1.m, .slice a1.p2 a1.l2 a1.c2, .bool b0.n, .slice b0.p b0.l b0.c, .bool b0.m, .slice b0.p2 b0.l2 b0.c2, .bool b1.n, .slice b1.p b1.l b1.c, .bool b1.m, .slice b1.p2 b1.l2 b1.c2, .bool c0.n, .slice c0.p c0.l c0.c, .bool c0.m, .slice c0.p2 c0.l2 c0.c2, .bool c1.n, .slice c1.p c1.l c1.c, .bool c1.m, .slice c1.p2 c1.l2 c1.c2] 32)).alloc (.cells #[.bool t.n, .slice t.p t.l t.c, .bool t.m, .slice t.p2 t.l2 t.c2] 26)).alloc (.cells #[.bool RV.zero.n, .slice RV.zero.p RV.zero.l RV.zero.c, .bool RV.zero.m, .slice RV.zero.p2 RV.zero.l2 RV.zero.c2, .bool RV.zero.n, .slice RV.zero.p RV.zero.l RV.zero.c, .bool RV.zero.m, .slice RV.zero.p2 RV.zero.l2 RV.zero.c2] 27)) (w.heap.size + 1 + 1) 27 #[.bool RV.zero.n, .slice RV.zero.p RV.zero.l RV.zero.c, .bool RV.zero.m, .slice RV.zero.p2 RV.zero.l2 RV.zero.c2, .bool RV.zero.n, .slice RV.zero.p RV.zero.l RV.zero.c, .bool RV.zero.m, .slice RV.zero.p2 RV.zero.l2 RV.zero.c2] := Blk.new_at _ _ (by simp) _ _
  have hE : Ext w (((w.alloc (.cells #[.bool a0.n, .slice a0.p a0.l a0.c, .bool a0.m, .slice a0.p2 a0.l2 a0.c2, .bool a1.n, .slice a1.p a1.l a1.c, .bool a1.m, .slice a1.p2 a1.l2 a1.c2, .bool b0.n, .slice b0.p b0.l b0.c, .bool b0.m, .slice b0.p2 b0.l2 b0.c2, .bool b1.n, .slice b1.p b1.l b1.c, .bool b1.m, .slice b1.p2 b1.l2 b1.c2, .bool c0.n, .slice c0.p c0.l c0.c, .bool c0.m, .slice c0.p2 c0.l2 c0.c2, .bool c1.n, .slice c1.p c1.l c1.c, .bool c1.m, .slice c1.p2 c1.l2 c1.c2] 32)).alloc (.cells #[.bool t.n, .slice t.p t.l t.c, .bool t.m, .slice t.p2 t.l2 t.c2] 26)).alloc (.cells #[.bool RV.zero.n, .slice RV.zero.p RV.zero.l RV.zero.c, .bool RV.zero.m, .slice RV.zero.p2 RV.zero.l2 RV.zero.c2, .bool RV.zero.n, .slice RV.zero.p RV.zero.l RV.zero.c, .bool RV.zero.m, .slice RV.zero.p2 RV.zero.l2 RV.zero.c2] 27)) := ((((Ext.refl _).alloc _).alloc _).alloc _)
  have HBS := zH (And.intro bR (And.intro bx0 bx1))
  clear bR bx0 bx1
  obtain ⟨wa, hwa⟩ : ∃ wa, wa = (((w.alloc (.cells #[.bool a0.n, .slice a0.p a0.l a0.c, .bool a0.m, .slice a0.p2 a0.l2 a0.c2, .bool a1.n, .slice a1.p a1.l a1.c, .bool a1.m, .slice a1.p2 a1.l2 a1.c2, .bool b0.n, .slice b0.p b0.l b0.c, .bool b0.m, .slice b0.p2 b0.l2 b0.c2, .bool b1.n, .slice b1.p b1.l b1.c, .bool b1.m, .slice b1.p2 b1.l2 b1.c2, .bool c0.n, .slice c0.p c0.l c0.c, .bool c0.m, .slice c0.p2 c0.l2 c0.c2, .bool c1.n, .slice c1.p c1.l c1.c, .bool c1.m, .slice c1.p2 c1.l2 c1.c2] 32)).alloc (.cells #[.bool t.n, .slice t.p t.l t.c, .bool t.m, .slice t.p2 t.l2 t.c2] 26)).alloc (.cells #[.bool RV.zero.n, .slice RV.zero.p RV.zero.l RV.zero.c, .bool RV.zero.m, .slice RV.zero.p2 RV.zero.l2 RV.zero.c2, .bool RV.zero.n, .slice RV.zero.p RV.zero.l RV.zero.c, .bool RV.zero.m, .slice RV.zero.p2 RV.zero.l2 RV.zero.c2] 27)) := ⟨_, rfl⟩
  have hwa2 := hwa
  simp only [RV.zero] at hwa2
  rw [← hwa] at HBS hE
  rw [← hwa2]
  have HE := zH hE
  clear hwa hwa2 hE
  have HWR := zH (show w.heap.size ≤ w.heap.size + 1 + 1 by omega)
  generalize hR : w.heap.size + 1 + 1 = R at *
  generalize hBB : w.heap.size + 1 = BB at *
  generalize hBA : w.heap.size = BA at *
  have n0 : BA ≠ R := by omega
  have n1 : BB ≠ R := by omega
  have HAA := zH hBA
  clear hR hBA hBB
  have gl : ∀ x, Own R wa x → x.cell? ⟨BA, 0, none⟩ = some (.bool a0.n) ∧ x.cell? ⟨BA, 1, none⟩ = some (.slice a0.p a0.l a0.c) ∧ x.cell? ⟨BA, 2, none⟩ = some (.bool a0.m) ∧ x.cell? ⟨BA, 3, none⟩ = some (.slice a0.p2 a0.l2 a0.c2) ∧ x.cell? ⟨BA, 4, none⟩ = some (.bool a1.n) ∧ x.cell? ⟨BA, 5, none⟩ = some (.slice a1.p a1.l a1.c) ∧ x.cell? ⟨BA, 6, none⟩ = some (.bool a1.m) ∧ x.cell? ⟨BA, 7, none⟩ = some (.slice a1.p2 a1.l2 a1.c2) ∧ x.cell? ⟨BA, 8, none⟩ = some (.bool b0.n) ∧ x.cell? ⟨BA, 9, none⟩ = some (.slice b0.p b0.l b0.c) ∧ x.cell? ⟨BA, 10, none⟩ = some (.bool b0.m) ∧ x.cell? ⟨BA, 11, none⟩ = some (.slice b0.p2 b0.l2 b0.c2) ∧ x.cell? ⟨BA, 12, none⟩ = some (.bool b1.n) ∧ x.cell? ⟨BA, 13, none⟩ = some (.slice b1.p b1.l b1.c) ∧ x.cell? ⟨BA, 14, none⟩ = some (.bool b1.m) ∧ x.cell? ⟨BA, 15, none⟩ = some (.slice b1.p2 b1.l2 b1.c2) ∧ x.cell? ⟨BA, 16, none⟩ = some (.bool c0.n) ∧ x.cell? ⟨BA, 17, none⟩ = some (.slice c0.p c0.l c0.c) ∧ x.cell? ⟨BA, 18, none⟩ = some (.bool c0.m) ∧ x.cell? ⟨BA, 19, none⟩ = some (.slice c0.p2 c0.l2 c0.c2) ∧ x.cell? ⟨BA, 20, none⟩ = some (.bool c1.n) ∧ x.cell? ⟨BA, 21, none⟩ = some (.slice c1.p c1.l c1.c) ∧ x.cell? ⟨BA, 22, none⟩ = some (.bool c1.m) ∧ x.cell? ⟨BA, 23, none⟩ = some (.slice c1.p2 c1.l2 c1.c2) ∧ x.cell? ⟨BB, 0, none⟩ = some (.bool t.n) ∧ x.cell? ⟨BB, 1, none⟩ = some (.slice t.p t.l t.c) ∧ x.cell? ⟨BB, 2, none⟩ = some (.bool t.m) ∧ x.cell? ⟨BB, 3, none⟩ = some (.slice t.p2 t.l2 t.c2) := fun x h => by
    have k0 := HBS.out.2.1.own h n0
    have k1 := HBS.out.2.2.own h n1
    exact ⟨k0.cell 0, k0.cell 1, k0.cell 2, k0.cell 3, k0.cell 4, k0.cell 5, k0.cell 6, k0.cell 7, k0.cell 8, k0.cell 9, k0.cell 10, k0.cell 11, k0.cell 12, k0.cell 13, k0.cell 14, k0.cell 15, k0.cell 16, k0.cell 17, k0.cell 18, k0.cell 19, k0.cell 20, k0.cell 21, k0.cell 22, k0.cell 23, k1.cell 0, k1.cell 1, k1.cell 2, k1.cell 3⟩
  go_region_held3 (fun x => Own R wa x) (first | (with_reducible assumption) | (with_reducible exact Own.drew (Own.refl _ _)) | (with_reducible (apply Own.of_ext; assumption)) | (refine Own.set_at (Own.set_at (Own.set_at (Own.set_at (Own.set_at (Own.set_at (Own.set_at (Own.set_at ?_ _ _ _) _ _ _) _ _ _) _ _ _) _ _ _) _ _ _) _ _ _) _ _ _; first | assumption | (apply Own.of_ext; assumption)))
    (first | (go_at_call 30; ((with_reducible refine (H0.out _ (HE.out.trans (by first | assumption | exact Ext.drew (Ext.refl _)))).mono ?_)); rintro e wx ⟨d0, d1, rfl, hd0, hd1, hen1⟩; have hx1 : Ext wa wx := Ext.trans (by first | assumption | exact Ext.drew (Ext.refl _)) hen1) | (go_at_call 30; ((with_reducible refine (H1.out _ (HE.out.trans (by first | assumption | exact Ext.drew (Ext.refl _)))).mono ?_)); rintro e wy ⟨e0, e1, rfl, he0, he1, hen2⟩; have hx2 : Ext wa wy := Ext.trans (by first | assumption | exact Ext.drew (Ext.refl _)) hen2) | (go_at_call 30; ((with_reducible refine (H2.out _ (HE.out.trans (by first | assumption | exact Ext.drew (Ext.refl _))) _ _ _ _ (hd0.ext hen2) (hd1.ext hen2) he0 he1).mono ?_)); rintro e wz ⟨u9, v9, rfl, hc1, hc2, hen3⟩; have hx3 : Ext wa wz := Ext.trans (by first | assumption | exact Ext.drew (Ext.refl _)) hen3; have hx := hx3; have X0' := Blk.ext HBS.out.1 hx; have x0 := X0'.cell 0; have y0 := X0'.frozen 0; have x1 := X0'.cell 1; have y1 := X0'.frozen 1; have x2 := X0'.cell 2; have y2 := X0'.frozen 2; have x3 := X0'.cell 3; have y3 := X0'.frozen 3; have x4 := X0'.cell 4; have y4 := X0'.frozen 4; have x5 := X0'.cell 5; have y5 := X0'.frozen 5; have x6 := X0'.cell 6; have y6 := X0'.frozen 6; have x7 := X0'.cell 7; have y7 := X0'.frozen 7; simp [RV.zero] at x0 x1 x2 x3 x4 x5 x6 x7))
  go_wp2_with fail
  have o := (((((((((Own.refl R wz).set_at 0 none (.bool u9.n)).set_at 1 none (.slice u9.p u9.l u9.c)).set_at 2 none (.bool u9.m)).set_at 3 none (.slice u9.p2 u9.l2 u9.c2)).set_at 4 none (.bool v9.n)).set_at 5 none (.slice v9.p v9.l v9.c)).set_at 6 none (.bool v9.m)).set_at 7 none (.slice v9.p2 v9.l2 v9.c2))
  have i0 := (hc1).own X0' noUz o
  have i1 := (hc2).own X0' noUz o
  have ee := o.ext (HE.out.trans hx) (by rw [HAA.out]; exact HWR.out)
  refine bodyPost_ret (v := .agg #[.bool u9.n, .slice u9.p u9.l u9.c, .bool u9.m, .slice u9.p2 u9.l2 u9.c2, .bool v9.n, .slice v9.p v9.l v9.c, .bool v9.m, .slice v9.p2 v9.l2 v9.c2]) ?_ rfl ⟨u9, v9, rfl, i0, i1, ee⟩
  simp [results, Tryz.results14, go_sem, *]
end Go.Proofs.YtllpkoinjompcaaGreat

namespace Go.Proofs.YtllpkoinjompcaaGreat
open Go.RowKit

section
variable {P : Program} {l : List Oper} {Q : Exit → Act → World → Prop} {md : Region.Mode} {S : World → Prop}

theorem wpAnyH_take_l {i : Nat} {oi : Oper} {v : Value} {fuel : Nat} {listed : Array Bool} {a : Act} {w : World} (hi : l[i]? = some oi)
    (hs : Region.noSelect l.toArray = true) (hf : Region.free md l.toArray listed i = true) (hr : (Region.ready md l.toArray listed).contains i = true)
    (hQ : ∀ c a w, Q (.panic c) (a.put oi.dst v) w → Q (.panic c) a w) (hy : YieldsIf P l.toArray S oi v a) (hS : S w)
    (h : wpAnyH P md l.toArray Q S fuel (listed.setIfInBounds i true) (a.put oi.dst v) w) : wpAnyH P md l.toArray Q S (fuel + 1) listed a w :=
  wpAnyH_take (by rw [List.getElem?_toArray]; exact hi) hs hf hr hQ hy hS h

theorem wpAnyH_skip_l {i : Nat} {oi : Oper} {fuel : Nat} {listed : Array Bool} {a : Act} {w : World} (hi : l[i]? = some oi)
    (hs : Region.noSelect l.toArray = true) (hf : Region.free md l.toArray listed i = true) (hr : (Region.ready md l.toArray listed).contains i = true)
    (hQ : ∀ c a w, Q (.panic c) (a.put oi.dst undef) w → Q (.panic c) a w) (hn : Region.wanted oi (yielded l.toArray a.tmps) = false) (hS : S w)
    (h : wpAnyH P md l.toArray Q S fuel (listed.setIfInBounds i true) (a.put oi.dst undef) w) : wpAnyH P md l.toArray Q S (fuel + 1) listed a w :=
  wpAnyH_take (by rw [List.getElem?_toArray]; exact hi) hs hf hr hQ (Or.inr ⟨hn, rfl⟩) hS h

theorem wpAnyH_one_l {i : Nat} {oi : Oper} {fuel : Nat} {listed : Array Bool} {a : Act} {w : World} (hi : l[i]? = some oi)
    (hr : Region.ready md l.toArray listed = [i])
    (h : ∀ K' : Act → World → Prop, Shut (∀ a w, S w → (S w → wpAnyH P md l.toArray Q S fuel (listed.setIfInBounds i true) a w) → K' a w) → if Region.wanted oi (yielded l.toArray a.tmps) = true then Oper.wp P oi a w K' Q else K' (a.put oi.dst undef) w) :
    wpAnyH P md l.toArray Q S (fuel + 1) listed a w :=
  wpAnyH_ready hr (by simp) (AllReadyH.cons (by rw [List.getElem?_toArray]; exact hi) h AllReadyH.nil)
end
end Go.Proofs.YtllpkoinjompcaaGreat

namespace Go.Proofs.YtllpkoinjompcaaGreat
open Go.RowKit

def both (p : Bool → Bool) : Bool := p false && p true
theorem both_spec {p : Bool → Bool} (h : both p = true) (b : Bool) : p b = true := by
  unfold both at h
  rw [Bool.and_eq_true] at h
  cases b
  · exact h.1
  · exact h.2

theorem set_chain4_1 {α : Type} (xs : Array α) (i1 i2 i3 i4 : Nat) (b1 b2 b3 b4 c : α) (h2 : i2 ≠ i1) (h3 : i3 ≠ i1) (h4 : i4 ≠ i1) : (((((xs.setIfInBounds i1 b1).setIfInBounds i2 b2).setIfInBounds i3 b3).setIfInBounds i4 b4).setIfInBounds i1 c) = ((((xs.setIfInBounds i1 c).setIfInBounds i2 b2).setIfInBounds i3 b3).setIfInBounds i4 b4) := by
  rw [Array.setIfInBounds_comm _ _ h4, Array.setIfInBounds_comm _ _ h3, Array.setIfInBounds_comm _ _ h2, Array.setIfInBounds_setIfInBounds]
theorem set_chain4_2 {α : Type} (xs : Array α) (i1 i2 i3 i4 : Nat) (b1 b2 b3 b4 c : α) (h3 : i3 ≠ i2) (h4 : i4 ≠ i2) : (((((xs.setIfInBounds i1 b1).setIfInBounds i2 b2).setIfInBounds i3 b3).setIfInBounds i4 b4).setIfInBounds i2 c) = ((((xs.setIfInBounds i1 b1).setIfInBounds i2 c).setIfInBounds i3 b3).setIfInBounds i4 b4) := by
  rw [Array.setIfInBounds_comm _ _ h4, Array.setIfInBounds_comm _ _ h3, Array.setIfInBounds_setIfInBounds]
theorem set_chain4_3 {α : Type} (xs : Array α) (i1 i2 i3 i4 : Nat) (b1 b2 b3 b4 c : α) (h4 : i4 ≠ i3) : (((((xs.setIfInBounds i1 b1).setIfInBounds i2 b2).setIfInBounds i3 b3).setIfInBounds i4 b4).setIfInBounds i3 c) = ((((xs.setIfInBounds i1 b1).setIfInBounds i2 b2).setIfInBounds i3 c).setIfInBounds i4 b4) := by
  rw [Array.setIfInBounds_comm _ _ h4, Array.setIfInBounds_setIfInBounds]
theorem set_chain4_4 {α : Type} (xs : Array α) (i1 i2 i3 i4 : Nat) (b1 b2 b3 b4 c : α)  : (((((xs.setIfInBounds i1 b1).setIfInBounds i2 b2).setIfInBounds i3 b3).setIfInBounds i4 b4).setIfInBounds i4 c) = ((((xs.setIfInBounds i1 b1).setIfInBounds i2 b2).setIfInBounds i3 b3).setIfInBounds i4 c) := by
  rw [Array.setIfInBounds_setIfInBounds]
def chk2 (md : Region.Mode) (l : List Oper) (listed : Array Bool) (i1 i2 i3 i4 : Nat) : Bool :=
  both fun b1 => both fun b2 => both fun b3 => both fun b4 => (b1 && b2 && b3 && b4) || !((!b2 || b1)) || (((Region.ready md l.toArray ((((listed.setIfInBounds i1 b1).setIfInBounds i2 b2).setIfInBounds i3 b3).setIfInBounds i4 b4)).all fun i => (i == i1 && !b1) || (i == i2 && !b2 && b1) || (i == i3 && !b3) || (i == i4 && !b4)) && !(Region.ready md l.toArray ((((listed.setIfInBounds i1 b1).setIfInBounds i2 b2).setIfInBounds i3 b3).setIfInBounds i4 b4)).isEmpty)
theorem cons2_1 (b1 b2 : Bool) (h : ((!b2 || b1)) = true) (h1 : b1 = false) : ((!b2 || true)) = true := by
  revert h h1
  cases b1 <;> cases b2 <;> simp
theorem cons2_2 (b1 b2 : Bool) (h : ((!b2 || b1)) = true) (h1 : b2 = false) (h2 : b1 = true) : ((!true || b1)) = true := by
  revert h h1 h2
  cases b1 <;> cases b2 <;> simp
theorem tuple2 {P : Program} {md : Region.Mode} {l : List Oper} {Q : Exit → Act → World → Prop} {S : World → Prop} {f : Nat} {listed : Array Bool} {a : Act} {w0 : World} (i1 i2 i3 i4 d1 d2 d3 d4 : Nat) {o1 o2 o3 o4 : Oper} (T : TypeId) (zs : Array Value) (Φ1 Φ2 : Value → World → Prop)
    (hi1 : l[i1]? = some o1)
    (hi2 : l[i2]? = some o2)
    (hi3 : l[i3]? = some o3)
    (hi4 : l[i4]? = some o4)
    (hni : [i1, i2, i3, i4].Nodup) (hnd : [d1, d2, d3, d4].Nodup)
    (hchk : chk2 md l listed i1 i2 i3 i4 = true)
    (hS : ∀ w, Ext w0 w → S w)
    (hΦ1 : ∀ v w w', Φ1 v w → Ext w w' → Φ1 v w')
    (hΦ2 : ∀ v w w', Φ2 v w → Ext w w' → Φ2 v w')
    (hc1 : ∀ (v1 v2 v3 v4 : Value) (w : World) (K : Act → World → Prop), Ext w0 w → S w → Shut (∀ v w', Φ1 v w' → Ext w w' → K (({ a with tmps := ((((a.tmps.setIfInBounds d1 v1).setIfInBounds d2 v2).setIfInBounds d3 v3).setIfInBounds d4 v4) } : Act).put (some d1) v) w') → if Region.wanted o1 (yielded l.toArray ({ a with tmps := ((((a.tmps.setIfInBounds d1 v1).setIfInBounds d2 v2).setIfInBounds d3 v3).setIfInBounds d4 v4) } : Act).tmps) = true then Oper.wp P o1 ({ a with tmps := ((((a.tmps.setIfInBounds d1 v1).setIfInBounds d2 v2).setIfInBounds d3 v3).setIfInBounds d4 v4) } : Act) w K Q else K (({ a with tmps := ((((a.tmps.setIfInBounds d1 v1).setIfInBounds d2 v2).setIfInBounds d3 v3).setIfInBounds d4 v4) } : Act).put o1.dst undef) w)
    (hc2 : ∀ (v1 v2 v3 v4 : Value) (w : World) (K : Act → World → Prop), Ext w0 w → S w → Shut (∀ v w', Φ2 v w' → Ext w w' → K (({ a with tmps := ((((a.tmps.setIfInBounds d1 v1).setIfInBounds d2 v2).setIfInBounds d3 v3).setIfInBounds d4 v4) } : Act).put (some d2) v) w') → if Region.wanted o2 (yielded l.toArray ({ a with tmps := ((((a.tmps.setIfInBounds d1 v1).setIfInBounds d2 v2).setIfInBounds d3 v3).setIfInBounds d4 v4) } : Act).tmps) = true then Oper.wp P o2 ({ a with tmps := ((((a.tmps.setIfInBounds d1 v1).setIfInBounds d2 v2).setIfInBounds d3 v3).setIfInBounds d4 v4) } : Act) w K Q else K (({ a with tmps := ((((a.tmps.setIfInBounds d1 v1).setIfInBounds d2 v2).setIfInBounds d3 v3).setIfInBounds d4 v4) } : Act).put o2.dst undef) w)
    (hc3 : ∀ (v1 v2 v3 v4 : Value) (w : World) (K : Act → World → Prop), Ext w0 w → S w → Shut (K (({ a with tmps := ((((a.tmps.setIfInBounds d1 v1).setIfInBounds d2 v2).setIfInBounds d3 v3).setIfInBounds d4 v4) } : Act).put (some d3) (.pointer (some ⟨w.heap.size, 0, none⟩))) (w.alloc (.cells zs T))) → if Region.wanted o3 (yielded l.toArray ({ a with tmps := ((((a.tmps.setIfInBounds d1 v1).setIfInBounds d2 v2).setIfInBounds d3 v3).setIfInBounds d4 v4) } : Act).tmps) = true then Oper.wp P o3 ({ a with tmps := ((((a.tmps.setIfInBounds d1 v1).setIfInBounds d2 v2).setIfInBounds d3 v3).setIfInBounds d4 v4) } : Act) w K Q else K (({ a with tmps := ((((a.tmps.setIfInBounds d1 v1).setIfInBounds d2 v2).setIfInBounds d3 v3).setIfInBounds d4 v4) } : Act).put o3.dst undef) w)
    (hc4 : ∀ (v1 v2 v3 v4 : Value) (w : World) (K : Act → World → Prop), Ext w0 w → S w → Shut (K (({ a with tmps := ((((a.tmps.setIfInBounds d1 v1).setIfInBounds d2 v2).setIfInBounds d3 v3).setIfInBounds d4 v4) } : Act).put (some d4) (.pointer (some ⟨w.heap.size, 0, none⟩))) (w.alloc (.cells zs T))) → if Region.wanted o4 (yielded l.toArray ({ a with tmps := ((((a.tmps.setIfInBounds d1 v1).setIfInBounds d2 v2).setIfInBounds d3 v3).setIfInBounds d4 v4) } : Act).tmps) = true then Oper.wp P o4 ({ a with tmps := ((((a.tmps.setIfInBounds d1 v1).setIfInBounds d2 v2).setIfInBounds d3 v3).setIfInBounds d4 v4) } : Act) w K Q else K (({ a with tmps := ((((a.tmps.setIfInBounds d1 v1).setIfInBounds d2 v2).setIfInBounds d3 v3).setIfInBounds d4 v4) } : Act).put o4.dst undef) w)
    (hend : ∀ (v1 v2 : Value) (X1 X2 : Nat) (w : World), Ext w0 w → S w → Φ1 v1 w → Φ2 v2 w → Blk w X1 T zs → Blk w X2 T zs → w0.heap.size ≤ X1 → w0.heap.size ≤ X2 → X1 ≠ X2 → wpAnyH P md l.toArray Q S f ((((listed.setIfInBounds i1 true).setIfInBounds i2 true).setIfInBounds i3 true).setIfInBounds i4 true) ({ a with tmps := ((((a.tmps.setIfInBounds d1 v1).setIfInBounds d2 v2).setIfInBounds d3 (.pointer (some ⟨X1, 0, none⟩))).setIfInBounds d4 (.pointer (some ⟨X2, 0, none⟩))) } : Act) w)
    (u1 u2 u3 u4 : Value)
    (hl : listed = ((((listed.setIfInBounds i1 false).setIfInBounds i2 false).setIfInBounds i3 false).setIfInBounds i4 false)) (ha : a = ({ a with tmps := ((((a.tmps.setIfInBounds d1 u1).setIfInBounds d2 u2).setIfInBounds d3 u3).setIfInBounds d4 u4) } : Act))
    : wpAnyH P md l.toArray Q S (f + 4) listed a w0 := by
  have e2_1 : i2 ≠ i1 := by intro h; simp [h] at hni
  have g2_1 : d2 ≠ d1 := by intro h; simp [h] at hnd
  have e3_1 : i3 ≠ i1 := by intro h; simp [h] at hni
  have g3_1 : d3 ≠ d1 := by intro h; simp [h] at hnd
  have e3_2 : i3 ≠ i2 := by intro h; simp [h] at hni
  have g3_2 : d3 ≠ d2 := by intro h; simp [h] at hnd
  have e4_1 : i4 ≠ i1 := by intro h; simp [h] at hni
  have g4_1 : d4 ≠ d1 := by intro h; simp [h] at hnd
  have e4_2 : i4 ≠ i2 := by intro h; simp [h] at hni
  have g4_2 : d4 ≠ d2 := by intro h; simp [h] at hnd
  have e4_3 : i4 ≠ i3 := by intro h; simp [h] at hni
  have g4_3 : d4 ≠ d3 := by intro h; simp [h] at hnd
  clear hni hnd
  have hall : ∀ b1 b2 b3 b4 : Bool, (b1 && b2 && b3 && b4) = false → ((!b2 || b1)) = true → (∀ i ∈ Region.ready md l.toArray ((((listed.setIfInBounds i1 b1).setIfInBounds i2 b2).setIfInBounds i3 b3).setIfInBounds i4 b4), (i = i1 ∧ b1 = false) ∨ (i = i2 ∧ b2 = false ∧ b1 = true) ∨ (i = i3 ∧ b3 = false) ∨ (i = i4 ∧ b4 = false)) ∧ Region.ready md l.toArray ((((listed.setIfInBounds i1 b1).setIfInBounds i2 b2).setIfInBounds i3 b3).setIfInBounds i4 b4) ≠ [] := by
    intro b1 b2 b3 b4 h0 h0c
    have h1 := (both_spec (both_spec (both_spec (both_spec hchk b1) b2) b3) b4)
    rw [h0, h0c, Bool.not_true, Bool.false_or, Bool.false_or, Bool.and_eq_true] at h1
    refine ⟨fun i hi => ?_, fun h2 => ?_⟩
    · have h3 := List.all_eq_true.1 h1.1 i hi
      simpa [or_assoc, and_assoc] using h3
    · have h3 := h1.2
      rw [h2] at h3
      cases h3
  clear hchk
  have H : ∀ (m : Nat) (b1 b2 b3 b4 : Bool) (v1 v2 v3 v4 : Value) (w : World), (!b1).toNat + (!b2).toNat + (!b3).toNat + (!b4).toNat = m → ((!b2 || b1)) = true → Ext w0 w → (b1 = true → Φ1 v1 w) → (b2 = true → Φ2 v2 w) → (b3 = true → ∃ X, v3 = .pointer (some ⟨X, 0, none⟩) ∧ Blk w X T zs ∧ w0.heap.size ≤ X) → (b4 = true → ∃ X, v4 = .pointer (some ⟨X, 0, none⟩) ∧ Blk w X T zs ∧ w0.heap.size ≤ X) → (b3 = true → b4 = true → v3 ≠ v4) → wpAnyH P md l.toArray Q S (f + m) ((((listed.setIfInBounds i1 b1).setIfInBounds i2 b2).setIfInBounds i3 b3).setIfInBounds i4 b4) ({ a with tmps := ((((a.tmps.setIfInBounds d1 v1).setIfInBounds d2 v2).setIfInBounds d3 v3).setIfInBounds d4 v4) } : Act) w := by
    intro m
    induction m with
    | zero =>
      intro b1 b2 b3 b4 v1 v2 v3 v4 w hm hcons hx F1 F2 F3 F4 D3_4
      obtain rfl : b1 = true := by cases b1 <;> simp at hm ⊢
      obtain rfl : b2 = true := by cases b2 <;> simp at hm ⊢
      obtain rfl : b3 = true := by cases b3 <;> simp at hm ⊢
      obtain rfl : b4 = true := by cases b4 <;> simp at hm ⊢
      obtain ⟨X1, rfl, B3, z3⟩ := F3 rfl
      obtain ⟨X2, rfl, B4, z4⟩ := F4 rfl
      exact hend _ _ _ _ w hx (hS _ hx) (F1 rfl) (F2 rfl) B3 B4 z3 z4 (fun h => D3_4 rfl rfl (by rw [h]))
    | succ m ih =>
      intro b1 b2 b3 b4 v1 v2 v3 v4 w hm hcons hx F1 F2 F3 F4 D3_4
      have hnot : (b1 && b2 && b3 && b4) = false := by
        cases hb : (b1 && b2 && b3 && b4)
        · rfl
        · exfalso; simp only [Bool.and_eq_true] at hb; simp [hb] at hm
      obtain ⟨hr, hne⟩ := hall b1 b2 b3 b4 hnot hcons
      refine ⟨fun h0 => absurd h0 hne, fun i hi => ?_⟩
      rcases hr i hi with ⟨hik, rfl⟩ | ⟨hik, rfl, rfl⟩ | ⟨hik, rfl⟩ | ⟨hik, rfl⟩
      · rw [hik]
        refine wpOp_step (by rw [List.getElem?_toArray]; exact hi1) (fun K' hK => hc1 v1 v2 v3 v4 w K' hx (hS _ hx) ?_)
        refine fun v w' hv he => hK _ _ ⟨hS _ (hx.trans he), ?_⟩
        rw [show ∀ (u : Value), ({ a with tmps := ((((a.tmps.setIfInBounds d1 v1).setIfInBounds d2 v2).setIfInBounds d3 v3).setIfInBounds d4 v4) } : Act).put (some d1) u = ({ a with tmps := ((((a.tmps.setIfInBounds d1 u).setIfInBounds d2 v2).setIfInBounds d3 v3).setIfInBounds d4 v4) } : Act) from fun u => by show ({ a with tmps := _ } : Act) = _; rw [set_chain4_1 _ d1 d2 d3 d4 _ _ _ _ _ g2_1 g3_1 g4_1]]
        rw [set_chain4_1 _ i1 i2 i3 i4 _ _ _ _ _ e2_1 e3_1 e4_1]
        exact ih true b2 b3 b4 v v2 v3 v4 _ (by simp at hm ⊢; omega) (cons2_1 _ _ hcons rfl) (hx.trans he) (fun _ => hv) (fun h => hΦ2 _ _ _ (F2 h) he) (fun h => by obtain ⟨X, q1, q2, q3⟩ := F3 h; exact ⟨X, q1, q2.ext he, q3⟩) (fun h => by obtain ⟨X, q1, q2, q3⟩ := F4 h; exact ⟨X, q1, q2.ext he, q3⟩) (D3_4)
      · rw [hik]
        refine wpOp_step (by rw [List.getElem?_toArray]; exact hi2) (fun K' hK => hc2 v1 v2 v3 v4 w K' hx (hS _ hx) ?_)
        refine fun v w' hv he => hK _ _ ⟨hS _ (hx.trans he), ?_⟩
        rw [show ∀ (u : Value), ({ a with tmps := ((((a.tmps.setIfInBounds d1 v1).setIfInBounds d2 v2).setIfInBounds d3 v3).setIfInBounds d4 v4) } : Act).put (some d2) u = ({ a with tmps := ((((a.tmps.setIfInBounds d1 v1).setIfInBounds d2 u).setIfInBounds d3 v3).setIfInBounds d4 v4) } : Act) from fun u => by show ({ a with tmps := _ } : Act) = _; rw [set_chain4_2 _ d1 d2 d3 d4 _ _ _ _ _ g3_2 g4_2]]
        rw [set_chain4_2 _ i1 i2 i3 i4 _ _ _ _ _ e3_2 e4_2]
        exact ih true true b3 b4 v1 v v3 v4 _ (by simp at hm ⊢; omega) (cons2_2 _ _ hcons rfl rfl) (hx.trans he) (fun h => hΦ1 _ _ _ (F1 h) he) (fun _ => hv) (fun h => by obtain ⟨X, q1, q2, q3⟩ := F3 h; exact ⟨X, q1, q2.ext he, q3⟩) (fun h => by obtain ⟨X, q1, q2, q3⟩ := F4 h; exact ⟨X, q1, q2.ext he, q3⟩) (D3_4)
      · rw [hik]
        refine wpOp_step (by rw [List.getElem?_toArray]; exact hi3) (fun K' hK => hc3 v1 v2 v3 v4 w K' hx (hS _ hx) ?_)
        refine hK _ _ ⟨hS _ (hx.alloc _), ?_⟩
        rw [show ∀ (u : Value), ({ a with tmps := ((((a.tmps.setIfInBounds d1 v1).setIfInBounds d2 v2).setIfInBounds d3 v3).setIfInBounds d4 v4) } : Act).put (some d3) u = ({ a with tmps := ((((a.tmps.setIfInBounds d1 v1).setIfInBounds d2 v2).setIfInBounds d3 u).setIfInBounds d4 v4) } : Act) from fun u => by show ({ a with tmps := _ } : Act) = _; rw [set_chain4_3 _ d1 d2 d3 d4 _ _ _ _ _ g4_3]]
        rw [set_chain4_3 _ i1 i2 i3 i4 _ _ _ _ _ e4_3]
        exact ih b1 b2 true b4 v1 v2 _ v4 _ (by simp at hm ⊢; omega) hcons (hx.alloc _) (fun h => hΦ1 _ _ _ (F1 h) ((Ext.refl w).alloc (.cells zs T))) (fun h => hΦ2 _ _ _ (F2 h) ((Ext.refl w).alloc (.cells zs T))) (fun _ => ⟨w.heap.size, rfl, Blk.new w _ _, hx.size⟩) (fun h => by obtain ⟨X, q1, q2, q3⟩ := F4 h; exact ⟨X, q1, q2.ext ((Ext.refl w).alloc (.cells zs T)), q3⟩) (fun _ h2 => by obtain ⟨X, q1, q2, q3⟩ := F4 h2; have hlt := Blk.lt q2; rw [q1]; intro hh; simp at hh <;> omega)
      · rw [hik]
        refine wpOp_step (by rw [List.getElem?_toArray]; exact hi4) (fun K' hK => hc4 v1 v2 v3 v4 w K' hx (hS _ hx) ?_)
        refine hK _ _ ⟨hS _ (hx.alloc _), ?_⟩
        rw [show ∀ (u : Value), ({ a with tmps := ((((a.tmps.setIfInBounds d1 v1).setIfInBounds d2 v2).setIfInBounds d3 v3).setIfInBounds d4 v4) } : Act).put (some d4) u = ({ a with tmps := ((((a.tmps.setIfInBounds d1 v1).setIfInBounds d2 v2).setIfInBounds d3 v3).setIfInBounds d4 u) } : Act) from fun u => by show ({ a with tmps := _ } : Act) = _; rw [set_chain4_4 _ d1 d2 d3 d4 _ _ _ _ _ ]]
        rw [set_chain4_4 _ i1 i2 i3 i4 _ _ _ _ _ ]
        exact ih b1 b2 b3 true v1 v2 v3 _ _ (by simp at hm ⊢; omega) hcons (hx.alloc _) (fun h => hΦ1 _ _ _ (F1 h) ((Ext.refl w).alloc (.cells zs T))) (fun h => hΦ2 _ _ _ (F2 h) ((Ext.refl w).alloc (.cells zs T))) (fun h => by obtain ⟨X, q1, q2, q3⟩ := F3 h; exact ⟨X, q1, q2.ext ((Ext.refl w).alloc (.cells zs T)), q3⟩) (fun _ => ⟨w.heap.size, rfl, Blk.new w _ _, hx.size⟩) (fun h2 _ => by obtain ⟨X, q1, q2, q3⟩ := F3 h2; have hlt := Blk.lt q2; rw [q1]; intro hh; simp at hh <;> omega)
  rw [hl, ha]
  exact H 4 false false false false u1 u2 u3 u4 w0 rfl rfl (Ext.refl _) (fun h => by cases h) (fun h => by cases h) (fun h => by cases h) (fun h => by cases h) (fun h => by cases h)

theorem set_chain6_1 {α : Type} (xs : Array α) (i1 i2 i3 i4 i5 i6 : Nat) (b1 b2 b3 b4 b5 b6 c : α) (h2 : i2 ≠ i1) (h3 : i3 ≠ i1) (h4 : i4 ≠ i1) (h5 : i5 ≠ i1) (h6 : i6 ≠ i1) : (((((((xs.setIfInBounds i1 b1).setIfInBounds i2 b2).setIfInBounds i3 b3).setIfInBounds i4 b4).setIfInBounds i5 b5).setIfInBounds i6 b6).setIfInBounds i1 c) = ((((((xs.setIfInBounds i1 c).setIfInBounds i2 b2).setIfInBounds i3 b3).setIfInBounds i4 b4).setIfInBounds i5 b5).setIfInBounds i6 b6) := by
  rw [Array.setIfInBounds_comm _ _ h6, Array.setIfInBounds_comm _ _ h5, Array.setIfInBounds_comm _ _ h4, Array.setIfInBounds_comm _ _ h3, Array.setIfInBounds_comm _ _ h2, Array.setIfInBounds_setIfInBounds]
theorem set_chain6_2 {α : Type} (xs : Array α) (i1 i2 i3 i4 i5 i6 : Nat) (b1 b2 b3 b4 b5 b6 c : α) (h3 : i3 ≠ i2) (h4 : i4 ≠ i2) (h5 : i5 ≠ i2) (h6 : i6 ≠ i2) : (((((((xs.setIfInBounds i1 b1).setIfInBounds i2 b2).setIfInBounds i3 b3).setIfInBounds i4 b4).setIfInBounds i5 b5).setIfInBounds i6 b6).setIfInBounds i2 c) = ((((((xs.setIfInBounds i1 b1).setIfInBounds i2 c).setIfInBounds i3 b3).setIfInBounds i4 b4).setIfInBounds i5 b5).setIfInBounds i6 b6) := by
  rw [Array.setIfInBounds_comm _ _ h6, Array.setIfInBounds_comm _ _ h5, Array.setIfInBounds_comm _ _ h4, Array.setIfInBounds_comm _ _ h3, Array.setIfInBounds_setIfInBounds]
theorem set_chain6_3 {α : Type} (xs : Array α) (i1 i2 i3 i4 i5 i6 : Nat) (b1 b2 b3 b4 b5 b6 c : α) (h4 : i4 ≠ i3) (h5 : i5 ≠ i3) (h6 : i6 ≠ i3) : (((((((xs.setIfInBounds i1 b1).setIfInBounds i2 b2).setIfInBounds i3 b3).setIfInBounds i4 b4).setIfInBounds i5 b5).setIfInBounds i6 b6).setIfInBounds i3 c) = ((((((xs.setIfInBounds i1 b1).setIfInBounds i2 b2).setIfInBounds i3 c).setIfInBounds i4 b4).setIfInBounds i5 b5).setIfInBounds i6 b6) := by
  rw [Array.setIfInBounds_comm _ _ h6, Array.setIfInBounds_comm _ _ h5, Array.setIfInBounds_comm _ _ h4, Array.setIfInBounds_setIfInBounds]
theorem set_chain6_4 {α : Type} (xs : Array α) (i1 i2 i3 i4 i5 i6 : Nat) (b1 b2 b3 b4 b5 b6 c : α) (h5 : i5 ≠ i4) (h6 : i6 ≠ i4) : (((((((xs.setIfInBounds i1 b1).setIfInBounds i2 b2).setIfInBounds i3 b3).setIfInBounds i4 b4).setIfInBounds i5 b5).setIfInBounds i6 b6).setIfInBounds i4 c) = ((((((xs.setIfInBounds i1 b1).setIfInBounds i2 b2).setIfInBounds i3 b3).setIfInBounds i4 c).setIfInBounds i5 b5).setIfInBounds i6 b6) := by
  rw [Array.setIfInBounds_comm _ _ h6, Array.setIfInBounds_comm _ _ h5, Array.setIfInBounds_setIfInBounds]
theorem set_chain6_5 {α : Type} (xs : Array α) (i1 i2 i3 i4 i5 i6 : Nat) (b1 b2 b3 b4 b5 b6 c : α) (h6 : i6 ≠ i5) : (((((((xs.setIfInBounds i1 b1).setIfInBounds i2 b2).setIfInBounds i3 b3).setIfInBounds i4 b4).setIfInBounds i5 b5).setIfInBounds i6 b6).setIfInBounds i5 c) = ((((((xs.setIfInBounds i1 b1).setIfInBounds i2 b2).setIfInBounds i3 b3).setIfInBounds i4 b4).setIfInBounds i5 c).setIfInBounds i6 b6) := by
  rw [Array.setIfInBounds_comm _ _ h6, Array.setIfInBounds_setIfInBounds]
theorem set_chain6_6 {α : Type} (xs : Array α) (i1 i2 i3 i4 i5 i6 : Nat) (b1 b2 b3 b4 b5 b6 c : α)  : (((((((xs.setIfInBounds i1 b1).setIfInBounds i2 b2).setIfInBounds i3 b3).setIfInBounds i4 b4).setIfInBounds i5 b5).setIfInBounds i6 b6).setIfInBounds i6 c) = ((((((xs.setIfInBounds i1 b1).setIfInBounds i2 b2).setIfInBounds i3 b3).setIfInBounds i4 b4).setIfInBounds i5 b5).setIfInBounds i6 c) := by
  rw [Array.setIfInBounds_setIfInBounds]
def chk3 (md : Region.Mode) (l : List Oper) (listed : Array Bool) (i1 i2 i3 i4 i5 i6 : Nat) : Bool :=
  both fun b1 => both fun b2 => both fun b3 => both fun b4 => both fun b5 => both fun b6 => (b1 && b2 && b3 && b4 && b5 && b6) || !((!b2 || b1) && (!b3 || b2)) || (((Region.ready md l.toArray ((((((listed.setIfInBounds i1 b1).setIfInBounds i2 b2).setIfInBounds i3 b3).setIfInBounds i4 b4).setIfInBounds i5 b5).setIfInBounds i6 b6)).all fun i => (i == i1 && !b1) || (i == i2 && !b2 && b1) || (i == i3 && !b3 && b2) || (i == i4 && !b4) || (i == i5 && !b5) || (i == i6 && !b6)) && !(Region.ready md l.toArray ((((((listed.setIfInBounds i1 b1).setIfInBounds i2 b2).setIfInBounds i3 b3).setIfInBounds i4 b4).setIfInBounds i5 b5).setIfInBounds i6 b6)).isEmpty)
theorem cons3_1 (b1 b2 b3 : Bool) (h : ((!b2 || b1) && (!b3 || b2)) = true) (h1 : b1 = false) : ((!b2 || true) && (!b3 || b2)) = true := by
  revert h h1
  cases b1 <;> cases b2 <;> cases b3 <;> simp
theorem cons3_2 (b1 b2 b3 : Bool) (h : ((!b2 || b1) && (!b3 || b2)) = true) (h1 : b2 = false) (h2 : b1 = true) : ((!true || b1) && (!b3 || true)) = true := by
  revert h h1 h2
  cases b1 <;> cases b2 <;> cases b3 <;> simp
theorem cons3_3 (b1 b2 b3 : Bool) (h : ((!b2 || b1) && (!b3 || b2)) = true) (h1 : b3 = false) (h2 : b2 = true) : ((!b2 || b1) && (!true || b2)) = true := by
  revert h h1 h2
  cases b1 <;> cases b2 <;> cases b3 <;> simp
theorem tuple3 {P : Program} {md : Region.Mode} {l : List Oper} {Q : Exit → Act → World → Prop} {S : World → Prop} {f : Nat} {listed : Array Bool} {a : Act} {w0 : World} (i1 i2 i3 i4 i5 i6 d1 d2 d3 d4 d5 d6 : Nat) {o1 o2 o3 o4 o5 o6 : Oper} (T : TypeId) (zs : Array Value) (Φ1 Φ2 Φ3 : Value → World → Prop)
    (hi1 : l[i1]? = some o1)
    (hi2 : l[i2]? = some o2)
    (hi3 : l[i3]? = some o3)
    (hi4 : l[i4]? = some o4)
    (hi5 : l[i5]? = some o5)
    (hi6 : l[i6]? = some o6)
    (hni : [i1, i2, i3, i4, i5, i6].Nodup) (hnd : [d1, d2, d3, d4, d5, d6].Nodup)
    (hchk : chk3 md l listed i1 i2 i3 i4 i5 i6 = true)
    (hS : ∀ w, Ext w0 w → S w)
    (hΦ1 : ∀ v w w', Φ1 v w → Ext w w' → Φ1 v w')
    (hΦ2 : ∀ v w w', Φ2 v w → Ext w w' → Φ2 v w')
    (hΦ3 : ∀ v w w', Φ3 v w → Ext w w' → Φ3 v w')
    (hc1 : ∀ (v1 v2 v3 v4 v5 v6 : Value) (w : World) (K : Act → World → Prop), Ext w0 w → S w → Shut (∀ v w', Φ1 v w' → Ext w w' → K (({ a with tmps := ((((((a.tmps.setIfInBounds d1 v1).setIfInBounds d2 v2).setIfInBounds d3 v3).setIfInBounds d4 v4).setIfInBounds d5 v5).setIfInBounds d6 v6) } : Act).put (some d1) v) w') → if Region.wanted o1 (yielded l.toArray ({ a with tmps := ((((((a.tmps.setIfInBounds d1 v1).setIfInBounds d2 v2).setIfInBounds d3 v3).setIfInBounds d4 v4).setIfInBounds d5 v5).setIfInBounds d6 v6) } : Act).tmps) = true then Oper.wp P o1 ({ a with tmps := ((((((a.tmps.setIfInBounds d1 v1).setIfInBounds d2 v2).setIfInBounds d3 v3).setIfInBounds d4 v4).setIfInBounds d5 v5).setIfInBounds d6 v6) } : Act) w K Q else K (({ a with tmps := ((((((a.tmps.setIfInBounds d1 v1).setIfInBounds d2 v2).setIfInBounds d3 v3).setIfInBounds d4 v4).setIfInBounds d5 v5).setIfInBounds d6 v6) } : Act).put o1.dst undef) w)
    (hc2 : ∀ (v1 v2 v3 v4 v5 v6 : Value) (w : World) (K : Act → World → Prop), Ext w0 w → S w → Shut (∀ v w', Φ2 v w' → Ext w w' → K (({ a with tmps := ((((((a.tmps.setIfInBounds d1 v1).setIfInBounds d2 v2).setIfInBounds d3 v3).setIfInBounds d4 v4).setIfInBounds d5 v5).setIfInBounds d6 v6) } : Act).put (some d2) v) w') → if Region.wanted o2 (yielded l.toArray ({ a with tmps := ((((((a.tmps.setIfInBounds d1 v1).setIfInBounds d2 v2).setIfInBounds d3 v3).setIfInBounds d4 v4).setIfInBounds d5 v5).setIfInBounds d6 v6) } : Act).tmps) = true then Oper.wp P o2 ({ a with tmps := ((((((a.tmps.setIfInBounds d1 v1).setIfInBounds d2 v2).setIfInBounds d3 v3).setIfInBounds d4 v4).setIfInBounds d5 v5).setIfInBounds d6 v6) } : Act) w K Q else K (({ a with tmps := ((((((a.tmps.setIfInBounds d1 v1).setIfInBounds d2 v2).setIfInBounds d3 v3).setIfInBounds d4 v4).setIfInBounds d5 v5).setIfInBounds d6 v6) } : Act).put o2.dst undef) w)
    (hc3 : ∀ (v1 v2 v3 v4 v5 v6 : Value) (w : World) (K : Act → World → Prop), Ext w0 w → S w → Shut (∀ v w', Φ3 v w' → Ext w w' → K (({ a with tmps := ((((((a.tmps.setIfInBounds d1 v1).setIfInBounds d2 v2).setIfInBounds d3 v3).setIfInBounds d4 v4).setIfInBounds d5 v5).setIfInBounds d6 v6) } : Act).put (some d3) v) w') → if Region.wanted o3 (yielded l.toArray ({ a with tmps := ((((((a.tmps.setIfInBounds d1 v1).setIfInBounds d2 v2).setIfInBounds d3 v3).setIfInBounds d4 v4).setIfInBounds d5 v5).setIfInBounds d6 v6) } : Act).tmps) = true then Oper.wp P o3 ({ a with tmps := ((((((a.tmps.setIfInBounds d1 v1).setIfInBounds d2 v2).setIfInBounds d3 v3).setIfInBounds d4 v4).setIfInBounds d5 v5).setIfInBounds d6 v6) } : Act) w K Q else K (({ a with tmps := ((((((a.tmps.setIfInBounds d1 v1).setIfInBounds d2 v2).setIfInBounds d3 v3).setIfInBounds d4 v4).setIfInBounds d5 v5).setIfInBounds d6 v6) } : Act).put o3.dst undef) w)
    (hc4 : ∀ (v1 v2 v3 v4 v5 v6 : Value) (w : World) (K : Act → World → Prop), Ext w0 w → S w → Shut (K (({ a with tmps := ((((((a.tmps.setIfInBounds d1 v1).setIfInBounds d2 v2).setIfInBounds d3 v3).setIfInBounds d4 v4).setIfInBounds d5 v5).setIfInBounds d6 v6) } : Act).put (some d4) (.pointer (some ⟨w.heap.size, 0, none⟩))) (w.alloc (.cells zs T))) → if Region.wanted o4 (yielded l.toArray ({ a with tmps := ((((((a.tmps.setIfInBounds d1 v1).setIfInBounds d2 v2).setIfInBounds d3 v3).setIfInBounds d4 v4).setIfInBounds d5 v5).setIfInBounds d6 v6) } : Act).tmps) = true then Oper.wp P o4 ({ a with tmps := ((((((a.tmps.setIfInBounds d1 v1).setIfInBounds d2 v2).setIfInBounds d3 v3).setIfInBounds d4 v4).setIfInBounds d5 v5).setIfInBounds d6 v6) } : Act) w K Q else K (({ a with tmps := ((((((a.tmps.setIfInBounds d1 v1).setIfInBounds d2 v2).setIfInBounds d3 v3).setIfInBounds d4 v4).setIfInBounds d5 v5).setIfInBounds d6 v6) } : Act).put o4.dst undef) w)
    (hc5 : ∀ (v1 v2 v3 v4 v5 v6 : Value) (w : World) (K : Act → World → Prop), Ext w0 w → S w → Shut (K (({ a with tmps := ((((((a.tmps.setIfInBounds d1 v1).setIfInBounds d2 v2).setIfInBounds d3 v3).setIfInBounds d4 v4).setIfInBounds d5 v5).setIfInBounds d6 v6) } : Act).put (some d5) (.pointer (some ⟨w.heap.size, 0, none⟩))) (w.alloc (.cells zs T))) → if Region.wanted o5 (yielded l.toArray ({ a with tmps := ((((((a.tmps.setIfInBounds d1 v1).setIfInBounds d2 v2).setIfInBounds d3 v3).setIfInBounds d4 v4).setIfInBounds d5 v5).setIfInBounds d6 v6) } : Act).tmps) = true then Oper.wp P o5 ({ a with tmps := ((((((a.tmps.setIfInBounds d1 v1).setIfInBounds d2 v2).setIfInBounds d3 v3).setIfInBounds d4 v4).setIfInBounds d5 v5).setIfInBounds d6 v6) } : Act) w K Q else K (({ a with tmps := ((((((a.tmps.setIfInBounds d1 v1).setIfInBounds d2 v2).setIfInBounds d3 v3).setIfInBounds d4 v4).setIfInBounds d5 v5).setIfInBounds d6 v6) } : Act).put o5.dst undef) w)
    (hc6 : ∀ (v1 v2 v3 v4 v5 v6 : Value) (w : World) (K : Act → World → Prop), Ext w0 w → S w → Shut (K (({ a with tmps := ((((((a.tmps.setIfInBounds d1 v1).setIfInBounds d2 v2).setIfInBounds d3 v3).setIfInBounds d4 v4).setIfInBounds d5 v5).setIfInBounds d6 v6) } : Act).put (some d6) (.pointer (some ⟨w.heap.size, 0, none⟩))) (w.alloc (.cells zs T))) → if Region.wanted o6 (yielded l.toArray ({ a with tmps := ((((((a.tmps.setIfInBounds d1 v1).setIfInBounds d2 v2).setIfInBounds d3 v3).setIfInBounds d4 v4).setIfInBounds d5 v5).setIfInBounds d6 v6) } : Act).tmps) = true then Oper.wp P o6 ({ a with tmps := ((((((a.tmps.setIfInBounds d1 v1).setIfInBounds d2 v2).setIfInBounds d3 v3).setIfInBounds d4 v4).setIfInBounds d5 v5).setIfInBounds d6 v6) } : Act) w K Q else K (({ a with tmps := ((((((a.tmps.setIfInBounds d1 v1).setIfInBounds d2 v2).setIfInBounds d3 v3).setIfInBounds d4 v4).setIfInBounds d5 v5).setIfInBounds d6 v6) } : Act).put o6.dst undef) w)
    (hend : ∀ (v1 v2 v3 : Value) (X1 X2 X3 : Nat) (w : World), Ext w0 w → S w → Φ1 v1 w → Φ2 v2 w → Φ3 v3 w → Blk w X1 T zs → Blk w X2 T zs → Blk w X3 T zs → w0.heap.size ≤ X1 → w0.heap.size ≤ X2 → w0.heap.size ≤ X3 → X1 ≠ X2 → X1 ≠ X3 → X2 ≠ X3 → wpAnyH P md l.toArray Q S f ((((((listed.setIfInBounds i1 true).setIfInBounds i2 true).setIfInBounds i3 true).setIfInBounds i4 true).setIfInBounds i5 true).setIfInBounds i6 true) ({ a with tmps := ((((((a.tmps.setIfInBounds d1 v1).setIfInBounds d2 v2).setIfInBounds d3 v3).setIfInBounds d4 (.pointer (some ⟨X1, 0, none⟩))).setIfInBounds d5 (.pointer (some ⟨X2, 0, none⟩))).setIfInBounds d6 (.pointer (some ⟨X3, 0, none⟩))) } : Act) w)
    (u1 u2 u3 u4 u5 u6 : Value)
    (hl : listed = ((((((listed.setIfInBounds i1 false).setIfInBounds i2 false).setIfInBounds i3 false).setIfInBounds i4 false).setIfInBounds i5 false).setIfInBounds i6 false)) (ha : a = ({ a with tmps := ((((((a.tmps.setIfInBounds d1 u1).setIfInBounds d2 u2).setIfInBounds d3 u3).setIfInBounds d4 u4).setIfInBounds d5 u5).setIfInBounds d6 u6) } : Act))
    : wpAnyH P md l.toArray Q S (f + 6) listed a w0 := by
  have e2_1 : i2 ≠ i1 := by intro h; simp [h] at hni
  have g2_1 : d2 ≠ d1 := by intro h; simp [h] at hnd
  have e3_1 : i3 ≠ i1 := by intro h; simp [h] at hni
  have g3_1 : d3 ≠ d1 := by intro h; simp [h] at hnd
  have e3_2 : i3 ≠ i2 := by intro h; simp [h] at hni
  have g3_2 : d3 ≠ d2 := by intro h; simp [h] at hnd
  have e4_1 : i4 ≠ i1 := by intro h; simp [h] at hni
  have g4_1 : d4 ≠ d1 := by intro h; simp [h] at hnd
  have e4_2 : i4 ≠ i2 := by intro h; simp [h] at hni
  have g4_2 : d4 ≠ d2 := by intro h; simp [h] at hnd
  have e4_3 : i4 ≠ i3 := by intro h; simp [h] at hni
  have g4_3 : d4 ≠ d3 := by intro h; simp [h] at hnd
  have e5_1 : i5 ≠ i1 := by intro h; simp [h] at hni
  have g5_1 : d5 ≠ d1 := by intro h; simp [h] at hnd
  have e5_2 : i5 ≠ i2 := by intro h; simp [h] at hni
  have g5_2 : d5 ≠ d2 := by intro h; simp [h] at hnd
  have e5_3 : i5 ≠ i3 := by intro h; simp [h] at hni
  have g5_3 : d5 ≠ d3 := by intro h; simp [h] at hnd
  have e5_4 : i5 ≠ i4 := by intro h; simp [h] at hni
  have g5_4 : d5 ≠ d4 := by intro h; simp [h] at hnd
  have e6_1 : i6 ≠ i1 := by intro h; simp [h] at hni
  have g6_1 : d6 ≠ d1 := by intro h; simp [h] at hnd
  have e6_2 : i6 ≠ i2 := by intro h; simp [h] at hni
  have g6_2 : d6 ≠ d2 := by intro h; simp [h] at hnd
  have e6_3 : i6 ≠ i3 := by intro h; simp [h] at hni
  have g6_3 : d6 ≠ d3 := by intro h; simp [h] at hnd
  have e6_4 : i6 ≠ i4 := by intro h; simp [h] at hni
  have g6_4 : d6 ≠ d4 := by intro h; simp [h] at hnd
  have e6_5 : i6 ≠ i5 := by intro h; simp [h] at hni
  have g6_5 : d6 ≠ d5 := by intro h; simp [h] at hnd
  clear hni hnd
  have hall : ∀ b1 b2 b3 b4 b5 b6 : Bool, (b1 && b2 && b3 && b4 && b5 && b6) = false → ((!b2 || b1) && (!b3 || b2)) = true → (∀ i ∈ Region.ready md l.toArray ((((((listed.setIfInBounds i1 b1).setIfInBounds i2 b2).setIfInBounds i3 b3).setIfInBounds i4 b4).setIfInBounds i5 b5).setIfInBounds i6 b6), (i = i1 ∧ b1 = false) ∨ (i = i2 ∧ b2 = false ∧ b1 = true) ∨ (i = i3 ∧ b3 = false ∧ b2 = true) ∨ (i = i4 ∧ b4 = false) ∨ (i = i5 ∧ b5 = false) ∨ (i = i6 ∧ b6 = false)) ∧ Region.ready md l.toArray ((((((listed.setIfInBounds i1 b1).setIfInBounds i2 b2).setIfInBounds i3 b3).setIfInBounds i4 b4).setIfInBounds i5 b5).setIfInBounds i6 b6) ≠ [] := by
    intro b1 b2 b3 b4 b5 b6 h0 h0c
    have h1 := (both_spec (both_spec (both_spec (both_spec (both_spec (both_spec hchk b1) b2) b3) b4) b5) b6)
    rw [h0, h0c, Bool.not_true, Bool.false_or, Bool.false_or, Bool.and_eq_true] at h1
    refine ⟨fun i hi => ?_, fun h2 => ?_⟩
    · have h3 := List.all_eq_true.1 h1.1 i hi
      simpa [or_assoc, and_assoc] using h3
    · have h3 := h1.2
      rw [h2] at h3
      cases h3
  clear hchk
  have H : ∀ (m : Nat) (b1 b2 b3 b4 b5 b6 : Bool) (v1 v2 v3 v4 v5 v6 : Value) (w : World), (!b1).toNat + (!b2).toNat + (!b3).toNat + (!b4).toNat + (!b5).toNat + (!b6).toNat = m → ((!b2 || b1) && (!b3 || b2)) = true → Ext w0 w → (b1 = true → Φ1 v1 w) → (b2 = true → Φ2 v2 w) → (b3 = true → Φ3 v3 w) → (b4 = true → ∃ X, v4 = .pointer (some ⟨X, 0, none⟩) ∧ Blk w X T zs ∧ w0.heap.size ≤ X) → (b5 = true → ∃ X, v5 = .pointer (some ⟨X, 0, none⟩) ∧ Blk w X T zs ∧ w0.heap.size ≤ X) → (b6 = true → ∃ X, v6 = .pointer (some ⟨X, 0, none⟩) ∧ Blk w X T zs ∧ w0.heap.size ≤ X) → (b4 = true → b5 = true → v4 ≠ v5) → (b4 = true → b6 = true → v4 ≠ v6) → (b5 = true → b6 = true → v5 ≠ v6) → wpAnyH P md l.toArray Q S (f + m) ((((((listed.setIfInBounds i1 b1).setIfInBounds i2 b2).setIfInBounds i3 b3).setIfInBounds i4 b4).setIfInBounds i5 b5).setIfInBounds i6 b6) ({ a with tmps := ((((((a.tmps.setIfInBounds d1 v1).setIfInBounds d2 v2).setIfInBounds d3 v3).setIfInBounds d4 v4).setIfInBounds d5 v5).setIfInBounds d6 v6) } : Act) w := by
    intro m
    induction m with
    | zero =>
      intro b1 b2 b3 b4 b5 b6 v1 v2 v3 v4 v5 v6 w hm hcons hx F1 F2 F3 F4 F5 F6 D4_5 D4_6 D5_6
      obtain rfl : b1 = true := by cases b1 <;> simp at hm ⊢
      obtain rfl : b2 = true := by cases b2 <;> simp at hm ⊢
      obtain rfl : b3 = true := by cases b3 <;> simp at hm ⊢
      obtain rfl : b4 = true := by cases b4 <;> simp at hm ⊢
      obtain rfl : b5 = true := by cases b5 <;> simp at hm ⊢
      obtain rfl : b6 = true := by cases b6 <;> simp at hm ⊢
      obtain ⟨X1, rfl, B4, z4⟩ := F4 rfl
      obtain ⟨X2, rfl, B5, z5⟩ := F5 rfl
      obtain ⟨X3, rfl, B6, z6⟩ := F6 rfl
      exact hend _ _ _ _ _ _ w hx (hS _ hx) (F1 rfl) (F2 rfl) (F3 rfl) B4 B5 B6 z4 z5 z6 (fun h => D4_5 rfl rfl (by rw [h])) (fun h => D4_6 rfl rfl (by rw [h])) (fun h => D5_6 rfl rfl (by rw [h]))
    | succ m ih =>
      intro b1 b2 b3 b4 b5 b6 v1 v2 v3 v4 v5 v6 w hm hcons hx F1 F2 F3 F4 F5 F6 D4_5 D4_6 D5_6
      have hnot : (b1 && b2 && b3 && b4 && b5 && b6) = false := by
        cases hb : (b1 && b2 && b3 && b4 && b5 && b6)
        · rfl
        · exfalso; simp only [Bool.and_eq_true] at hb; simp [hb] at hm
      obtain ⟨hr, hne⟩ := hall b1 b2 b3 b4 b5 b6 hnot hcons
      refine ⟨fun h0 => absurd h0 hne, fun i hi => ?_⟩
      rcases hr i hi with ⟨hik, rfl⟩ | ⟨hik, rfl, rfl⟩ | ⟨hik, rfl, rfl⟩ | ⟨hik, rfl⟩ | ⟨hik, rfl⟩ | ⟨hik, rfl⟩
      · rw [hik]
        refine wpOp_step (by rw [List.getElem?_toArray]; exact hi1) (fun K' hK => hc1 v1 v2 v3 v4 v5 v6 w K' hx (hS _ hx) ?_)
        refine fun v w' hv he => hK _ _ ⟨hS _ (hx.trans he), ?_⟩
        rw [show ∀ (u : Value), ({ a with tmps := ((((((a.tmps.setIfInBounds d1 v1).setIfInBounds d2 v2).setIfInBounds d3 v3).setIfInBounds d4 v4).setIfInBounds d5 v5).setIfInBounds d6 v6) } : Act).put (some d1) u = ({ a with tmps := ((((((a.tmps.setIfInBounds d1 u).setIfInBounds d2 v2).setIfInBounds d3 v3).setIfInBounds d4 v4).setIfInBounds d5 v5).setIfInBounds d6 v6) } : Act) from fun u => by show ({ a with tmps := _ } : Act) = _; rw [set_chain6_1 _ d1 d2 d3 d4 d5 d6 _ _ _ _ _ _ _ g2_1 g3_1 g4_1 g5_1 g6_1]]
        rw [set_chain6_1 _ i1 i2 i3 i4 i5 i6 _ _ _ _ _ _ _ e2_1 e3_1 e4_1 e5_1 e6_1]
        exact ih true b2 b3 b4 b5 b6 v v2 v3 v4 v5 v6 _ (by simp at hm ⊢; omega) (cons3_1 _ _ _ hcons rfl) (hx.trans he) (fun _ => hv) (fun h => hΦ2 _ _ _ (F2 h) he) (fun h => hΦ3 _ _ _ (F3 h) he) (fun h => by obtain ⟨X, q1, q2, q3⟩ := F4 h; exact ⟨X, q1, q2.ext he, q3⟩) (fun h => by obtain ⟨X, q1, q2, q3⟩ := F5 h; exact ⟨X, q1, q2.ext he, q3⟩) (fun h => by obtain ⟨X, q1, q2, q3⟩ := F6 h; exact ⟨X, q1, q2.ext he, q3⟩) (D4_5) (D4_6) (D5_6)
      · rw [hik]
        refine wpOp_step (by rw [List.getElem?_toArray]; exact hi2) (fun K' hK => hc2 v1 v2 v3 v4 v5 v6 w K' hx (hS _ hx) ?_)
        refine fun v w' hv he => hK _ _ ⟨hS _ (hx.trans he), ?_⟩
        rw [show ∀ (u : Value), ({ a with tmps := ((((((a.tmps.setIfInBounds d1 v1).setIfInBounds d2 v2).setIfInBounds d3 v3).setIfInBounds d4 v4).setIfInBounds d5 v5).setIfInBounds d6 v6) } : Act).put (some d2) u = ({ a with tmps := ((((((a.tmps.setIfInBounds d1 v1).setIfInBounds d2 u).setIfInBounds d3 v3).setIfInBounds d4 v4).setIfInBounds d5 v5).setIfInBounds d6 v6) } : Act) from fun u => by show ({ a with tmps := _ } : Act) = _; rw [set_chain6_2 _ d1 d2 d3 d4 d5 d6 _ _ _ _ _ _ _ g3_2 g4_2 g5_2 g6_2]]
        rw [set_chain6_2 _ i1 i2 i3 i4 i5 i6 _ _ _ _ _ _ _ e3_2 e4_2 e5_2 e6_2]
        exact ih true true b3 b4 b5 b6 v1 v v3 v4 v5 v6 _ (by simp at hm ⊢; omega) (cons3_2 _ _ _ hcons rfl rfl) (hx.trans he) (fun h => hΦ1 _ _ _ (F1 h) he) (fun _ => hv) (fun h => hΦ3 _ _ _ (F3 h) he) (fun h => by obtain ⟨X, q1, q2, q3⟩ := F4 h; exact ⟨X, q1, q2.ext he, q3⟩) (fun h => by obtain ⟨X, q1, q2, q3⟩ := F5 h; exact ⟨X, q1, q2.ext he, q3⟩) (fun h => by obtain ⟨X, q1, q2, q3⟩ := F6 h; exact ⟨X, q1, q2.ext he, q3⟩) (D4_5) (D4_6) (D5_6)
      · rw [hik]
        refine wpOp_step (by rw [List.getElem?_toArray]; exact hi3) (fun K' hK => hc3 v1 v2 v3 v4 v5 v6 w K' hx (hS _ hx) ?_)
        refine fun v w' hv he => hK _ _ ⟨hS _ (hx.trans he), ?_⟩
        rw [show ∀ (u : Value), ({ a with tmps := ((((((a.tmps.setIfInBounds d1 v1).setIfInBounds d2 v2).setIfInBounds d3 v3).setIfInBounds d4 v4).setIfInBounds d5 v5).setIfInBounds d6 v6) } : Act).put (some d3) u = ({ a with tmps := ((((((a.tmps.setIfInBounds d1 v1).setIfInBounds d2 v2).setIfInBounds d3 u).setIfInBounds d4 v4).setIfInBounds d5 v5).setIfInBounds d6 v6) } : Act) from fun u => by show ({ a with tmps := _ } : Act) = _; rw [set_chain6_3 _ d1 d2 d3 d4 d5 d6 _ _ _ _ _ _ _ g4_3 g5_3 g6_3]]
        rw [set_chain6_3 _ i1 i2 i3 i4 i5 i6 _ _ _ _ _ _ _ e4_3 e5_3 e6_3]
        exact ih b1 true true b4 b5 b6 v1 v2 v v4 v5 v6 _ (by simp at hm ⊢; omega) (cons3_3 _ _ _ hcons rfl rfl) (hx.trans he) (fun h => hΦ1 _ _ _ (F1 h) he) (fun h => hΦ2 _ _ _ (F2 h) he) (fun _ => hv) (fun h => by obtain ⟨X, q1, q2, q3⟩ := F4 h; exact ⟨X, q1, q2.ext he, q3⟩) (fun h => by obtain ⟨X, q1, q2, q3⟩ := F5 h; exact ⟨X, q1, q2.ext he, q3⟩) (fun h => by obtain ⟨X, q1, q2, q3⟩ := F6 h; exact ⟨X, q1, q2.ext he, q3⟩) (D4_5) (D4_6) (D5_6)
      · rw [hik]
        refine wpOp_step (by rw [List.getElem?_toArray]; exact hi4) (fun K' hK => hc4 v1 v2 v3 v4 v5 v6 w K' hx (hS _ hx) ?_)
        refine hK _ _ ⟨hS _ (hx.alloc _), ?_⟩
        rw [show ∀ (u : Value), ({ a with tmps := ((((((a.tmps.setIfInBounds d1 v1).setIfInBounds d2 v2).setIfInBounds d3 v3).setIfInBounds d4 v4).setIfInBounds d5 v5).setIfInBounds d6 v6) } : Act).put (some d4) u = ({ a with tmps := ((((((a.tmps.setIfInBounds d1 v1).setIfInBounds d2 v2).setIfInBounds d3 v3).setIfInBounds d4 u).setIfInBounds d5 v5).setIfInBounds d6 v6) } : Act) from fun u => by show ({ a with tmps := _ } : Act) = _; rw [set_chain6_4 _ d1 d2 d3 d4 d5 d6 _ _ _ _ _ _ _ g5_4 g6_4]]
        rw [set_chain6_4 _ i1 i2 i3 i4 i5 i6 _ _ _ _ _ _ _ e5_4 e6_4]
        exact ih b1 b2 b3 true b5 b6 v1 v2 v3 _ v5 v6 _ (by simp at hm ⊢; omega) hcons (hx.alloc _) (fun h => hΦ1 _ _ _ (F1 h) ((Ext.refl w).alloc (.cells zs T))) (fun h => hΦ2 _ _ _ (F2 h) ((Ext.refl w).alloc (.cells zs T))) (fun h => hΦ3 _ _ _ (F3 h) ((Ext.refl w).alloc (.cells zs T))) (fun _ => ⟨w.heap.size, rfl, Blk.new w _ _, hx.size⟩) (fun h => by obtain ⟨X, q1, q2, q3⟩ := F5 h; exact ⟨X, q1, q2.ext ((Ext.refl w).alloc (.cells zs T)), q3⟩) (fun h => by obtain ⟨X, q1, q2, q3⟩ := F6 h; exact ⟨X, q1, q2.ext ((Ext.refl w).alloc (.cells zs T)), q3⟩) (fun _ h2 => by obtain ⟨X, q1, q2, q3⟩ := F5 h2; have hlt := Blk.lt q2; rw [q1]; intro hh; simp at hh <;> omega) (fun _ h2 => by obtain ⟨X, q1, q2, q3⟩ := F6 h2; have hlt := Blk.lt q2; rw [q1]; intro hh; simp at hh <;> omega) (D5_6)
      · rw [hik]
        refine wpOp_step (by rw [List.getElem?_toArray]; exact hi5) (fun K' hK => hc5 v1 v2 v3 v4 v5 v6 w K' hx (hS _ hx) ?_)
        refine hK _ _ ⟨hS _ (hx.alloc _), ?_⟩
        rw [show ∀ (u : Value), ({ a with tmps := ((((((a.tmps.setIfInBounds d1 v1).setIfInBounds d2 v2).setIfInBounds d3 v3).setIfInBounds d4 v4).setIfInBounds d5 v5).setIfInBounds d6 v6) } : Act).put (some d5) u = ({ a with tmps := ((((((a.tmps.setIfInBounds d1 v1).setIfInBounds d2 v2).setIfInBounds d3 v3).setIfInBounds d4 v4).setIfInBounds d5 u).setIfInBounds d6 v6) } : Act) from fun u => by show ({ a with tmps := _ } : Act) = _; rw [set_chain6_5 _ d1 d2 d3 d4 d5 d6 _ _ _ _ _ _ _ g6_5]]
        rw [set_chain6_5 _ i1 i2 i3 i4 i5 i6 _ _ _ _ _ _ _ e6_5]
        exact ih b1 b2 b3 b4 true b6 v1 v2 v3 v4 _ v6 _ (by simp at hm ⊢; omega) hcons (hx.alloc _) (fun h => hΦ1 _ _ _ (F1 h) ((Ext.refl w).alloc (.cells zs T))) (fun h => hΦ2 _ _ _ (F2 h) ((Ext.refl w).alloc (.cells zs T))) (fun h => hΦ3 _ _ _ (F3 h) ((Ext.refl w).alloc (.cells zs T))) (fun h => by obtain ⟨X, q1, q2, q3⟩ := F4 h; exact ⟨X, q1, q2.ext ((Ext.refl w).alloc (.cells zs T)), q3⟩) (fun _ => ⟨w.heap.size, rfl, Blk.new w _ _, hx.size⟩) (fun h => by obtain ⟨X, q1, q2, q3⟩ := F6 h; exact ⟨X, q1, q2.ext ((Ext.refl w).alloc (.cells zs T)), q3⟩) (fun h2 _ => by obtain ⟨X, q1, q2, q3⟩ := F4 h2; have hlt := Blk.lt q2; rw [q1]; intro hh; simp at hh <;> omega) (D4_6) (fun _ h2 => by obtain ⟨X, q1, q2, q3⟩ := F6 h2; have hlt := Blk.lt q2; rw [q1]; intro hh; simp at hh <;> omega)
      · rw [hik]
        refine wpOp_step (by rw [List.getElem?_toArray]; exact hi6) (fun K' hK => hc6 v1 v2 v3 v4 v5 v6 w K' hx (hS _ hx) ?_)
        refine hK _ _ ⟨hS _ (hx.alloc _), ?_⟩
        rw [show ∀ (u : Value), ({ a with tmps := ((((((a.tmps.setIfInBounds d1 v1).setIfInBounds d2 v2).setIfInBounds d3 v3).setIfInBounds d4 v4).setIfInBounds d5 v5).setIfInBounds d6 v6) } : Act).put (some d6) u = ({ a with tmps := ((((((a.tmps.setIfInBounds d1 v1).setIfInBounds d2 v2).setIfInBounds d3 v3).setIfInBounds d4 v4).setIfInBounds d5 v5).setIfInBounds d6 u) } : Act) from fun u => by show ({ a with tmps := _ } : Act) = _; rw [set_chain6_6 _ d1 d2 d3 d4 d5 d6 _ _ _ _ _ _ _ ]]
        rw [set_chain6_6 _ i1 i2 i3 i4 i5 i6 _ _ _ _ _ _ _ ]
        exact ih b1 b2 b3 b4 b5 true v1 v2 v3 v4 v5 _ _ (by simp at hm ⊢; omega) hcons (hx.alloc _) (fun h => hΦ1 _ _ _ (F1 h) ((Ext.refl w).alloc (.cells zs T))) (fun h => hΦ2 _ _ _ (F2 h) ((Ext.refl w).alloc (.cells zs T))) (fun h => hΦ3 _ _ _ (F3 h) ((Ext.refl w).alloc (.cells zs T))) (fun h => by obtain ⟨X, q1, q2, q3⟩ := F4 h; exact ⟨X, q1, q2.ext ((Ext.refl w).alloc (.cells zs T)), q3⟩) (fun h => by obtain ⟨X, q1, q2, q3⟩ := F5 h; exact ⟨X, q1, q2.ext ((Ext.refl w).alloc (.cells zs T)), q3⟩) (fun _ => ⟨w.heap.size, rfl, Blk.new w _ _, hx.size⟩) (D4_5) (fun h2 _ => by obtain ⟨X, q1, q2, q3⟩ := F4 h2; have hlt := Blk.lt q2; rw [q1]; intro hh; simp at hh <;> omega) (fun h2 _ => by obtain ⟨X, q1, q2, q3⟩ := F5 h2; have hlt := Blk.lt q2; rw [q1]; intro hh; simp at hh <;> omega)
  rw [hl, ha]
  exact H 6 false false false false false false u1 u2 u3 u4 u5 u6 w0 rfl rfl (Ext.refl _) (fun h => by cases h) (fun h => by cases h) (fun h => by cases h) (fun h => by cases h) (fun h => by cases h) (fun h => by cases h) (fun h => by cases h) (fun h => by cases h) (fun h => by cases h)
end Go.Proofs.YtllpkoinjompcaaGreat

namespace Go.Proofs.YtllpkoinjompcaaGreat
open Go.RowKit
attribute [local go_sem ↓] Go.wp_at_zero Go.wp_at_succ run_max_ii run_min_ii

def PtV (x y : Rat) (v : Value) (w : World) : Prop := ∃ a b : RV, v = .agg #[.bool a.n, .slice a.p a.l a.c, .bool a.m, .slice a.p2 a.l2 a.c2, .bool b.n, .slice b.p b.l b.c, .bool b.m, .slice b.p2 b.l2 b.c2] ∧ a.Is w x ∧ b.Is w y
theorem PtV.ext {x y : Rat} (v : Value) (w w' : World) (h : PtV x y v w) (e : Ext w w') : PtV x y v w' := by
  obtain ⟨a, b, h1, h2, h3⟩ := h
  exact ⟨a, b, h1, h2.ext e, h3.ext e⟩
theorem RetP.v {x y : Rat} {w w' : World} {e : Ending} (h : RetP x y w e w') : ∃ v, e = .returned v ∧ PtV x y v w' ∧ Ext w w' := by
  obtain ⟨a, b, rfl, h1, h2, h3⟩ := h
  exact ⟨_, rfl, ⟨a, b, rfl, h1, h2⟩, h3⟩

abbrev put8 (w : World) (g : Nat) (a b : RV) : World := ((((((((w.setCell ⟨g, 0, none⟩ (.bool a.n)).setCell ⟨g, 1, none⟩ (.slice a.p a.l a.c)).setCell ⟨g, 2, none⟩ (.bool a.m)).setCell ⟨g, 3, none⟩ (.slice a.p2 a.l2 a.c2)).setCell ⟨g, 4, none⟩ (.bool b.n)).setCell ⟨g, 5, none⟩ (.slice b.p b.l b.c)).setCell ⟨g, 6, none⟩ (.bool b.m)).setCell ⟨g, 7, none⟩ (.slice b.p2 b.l2 b.c2))
theorem put8_own (w : World) (g : Nat) (a b : RV) : Own g w (put8 w g a b) := (((((((((Own.refl g w).set_at 0 none (.bool a.n)).set_at 1 none (.slice a.p a.l a.c)).set_at 2 none (.bool a.m)).set_at 3 none (.slice a.p2 a.l2 a.c2)).set_at 4 none (.bool b.n)).set_at 5 none (.slice b.p b.l b.c)).set_at 6 none (.bool b.m)).set_at 7 none (.slice b.p2 b.l2 b.c2))
set_option maxHeartbeats 2000000 in
theorem put8_blk {w : World} {g : Nat} {t : TypeId} {c0 c1 c2 c3 c4 c5 c6 c7 : Value} (h : Blk w g t #[c0, c1, c2, c3, c4, c5, c6, c7]) (a b : RV) : Blk (put8 w g a b) g t #[.bool a.n, .slice a.p a.l a.c, .bool a.m, .slice a.p2 a.l2 a.c2, .bool b.n, .slice b.p b.l b.c, .bool b.m, .slice b.p2 b.l2 b.c2] := by
  have h2 := ((((((((h.set_ 0 (.bool a.n)).set_ 1 (.slice a.p a.l a.c)).set_ 2 (.bool a.m)).set_ 3 (.slice a.p2 a.l2 a.c2)).set_ 4 (.bool b.n)).set_ 5 (.slice b.p b.l b.c)).set_ 6 (.bool b.m)).set_ 7 (.slice b.p2 b.l2 b.c2))
  simpa only [zA, zB, zC] using h2

theorem stored8_2 {wb w : World} {T : TypeId} {X1 X2 : Nat} {a1 b1 a2 b2 : RV} {x1 y1 x2 y2 : Rat} (hx : Ext wb w) (B1 : Blk w X1 T #[.bool false, .slice none 0 0, .bool false, .slice none 0 0, .bool false, .slice none 0 0, .bool false, .slice none 0 0]) (z1 : wb.heap.size ≤ X1) (p1 : a1.Is w x1) (q1 : b1.Is w y1) (B2 : Blk w X2 T #[.bool false, .slice none 0 0, .bool false, .slice none 0 0, .bool false, .slice none 0 0, .bool false, .slice none 0 0]) (z2 : wb.heap.size ≤ X2) (p2 : a2.Is w x2) (q2 : b2.Is w y2) (n12 : X1 ≠ X2) :
    Ext wb (put8 (put8 w X1 a1 b1) X2 a2 b2) ∧ Blk (put8 (put8 w X1 a1 b1) X2 a2 b2) X1 T #[.bool a1.n, .slice a1.p a1.l a1.c, .bool a1.m, .slice a1.p2 a1.l2 a1.c2, .bool b1.n, .slice b1.p b1.l b1.c, .bool b1.m, .slice b1.p2 b1.l2 b1.c2] ∧ Blk (put8 (put8 w X1 a1 b1) X2 a2 b2) X2 T #[.bool a2.n, .slice a2.p a2.l a2.c, .bool a2.m, .slice a2.p2 a2.l2 a2.c2, .bool b2.n, .slice b2.p b2.l b2.c, .bool b2.m, .slice b2.p2 b2.l2 b2.c2] ∧ (a1.Is (put8 (put8 w X1 a1 b1) X2 a2 b2) x1 ∧ b1.Is (put8 (put8 w X1 a1 b1) X2 a2 b2) y1) ∧ (a2.Is (put8 (put8 w X1 a1 b1) X2 a2 b2) x2 ∧ b2.Is (put8 (put8 w X1 a1 b1) X2 a2 b2) y2) := by
  have o1 := put8_own w X1 a1 b1
  have o2 := put8_own (put8 w X1 a1 b1) X2 a2 b2
  have c1 := B1
  have c2 := (B2.own o1 (Ne.symm n12))
  exact ⟨(o2.ext (o1.ext hx z1) z2), ((put8_blk c1 a1 b1).own o2 n12), (put8_blk c2 a2 b2), ⟨((p1.own c1 noUz o1).own c2 noUz o2), ((q1.own c1 noUz o1).own c2 noUz o2)⟩, ⟨((p2.own c1 noUz o1).own c2 noUz o2), ((q2.own c1 noUz o1).own c2 noUz o2)⟩⟩
theorem stored8_3 {wb w : World} {T : TypeId} {X1 X2 X3 : Nat} {a1 b1 a2 b2 a3 b3 : RV} {x1 y1 x2 y2 x3 y3 : Rat} (hx : Ext wb w) (B1 : Blk w X1 T #[.bool false, .slice none 0 0, .bool false, .slice none 0 0, .bool false, .slice none 0 0, .bool false, .slice none 0 0]) (z1 : wb.heap.size ≤ X1) (p1 : a1.Is w x1) (q1 : b1.Is w y1) (B2 : Blk w X2 T #[.bool false, .slice none 0 0, .bool false, .slice none 0 0, .bool false, .slice none 0 0, .bool false, .slice none 0 0]) (z2 : wb.heap.size ≤ X2) (p2 : a2.Is w x2) (q2 : b2.Is w y2) (B3 : Blk w X3 T #[.bool false, .slice none 0 0, .bool false, .slice none 0 0, .bool false, .slice none 0 0, .bool false, .slice none 0 0]) (z3 : wb.heap.size ≤ X3) (p3 : a3.Is w x3) (q3 : b3.Is w y3) (n12 : X1 ≠ X2) (n13 : X1 ≠ X3) (n23 : X2 ≠ X3) :
    Ext wb (put8 (put8 (put8 w X1 a1 b1) X2 a2 b2) X3 a3 b3) ∧ Blk (put8 (put8 (put8 w X1 a1 b1) X2 a2 b2) X3 a3 b3) X1 T #[.bool a1.n, .slice a1.p a1.l a1.c, .bool a1.m, .slice a1.p2 a1.l2 a1.c2, .bool b1.n, .slice b1.p b1.l b1.c, .bool b1.m, .slice b1.p2 b1.l2 b1.c2] ∧ Blk (put8 (put8 (put8 w X1 a1 b1) X2 a2 b2) X3 a3 b3) X2 T #[.bool a2.n, .slice a2.p a2.l a2.c, .bool a2.m, .slice a2.p2 a2.l2 a2.c2, .bool b2.n, .slice b2.p b2.l b2.c, .bool b2.m, .slice b2.p2 b2.l2 b2.c2] ∧ Blk (put8 (put8 (put8 w X1 a1 b1) X2 a2 b2) X3 a3 b3) X3 T #[.bool a3.n, .slice a3.p a3.l a3.c, .bool a3.m, .slice a3.p2 a3.l2 a3.c2, .bool b3.n, .slice b3.p b3.l b3.c, .bool b3.m, .slice b3.p2 b3.l2 b3.c2] ∧ (a1.Is (put8 (put8 (put8 w X1 a1 b1) X2 a2 b2) X3 a3 b3) x1 ∧ b1.Is (put8 (put8 (put8 w X1 a1 b1) X2 a2 b2) X3 a3 b3) y1) ∧ (a2.Is (put8 (put8 (put8 w X1 a1 b1) X2 a2 b2) X3 a3 b3) x2 ∧ b2.Is (put8 (put8 (put8 w X1 a1 b1) X2 a2 b2) X3 a3 b3) y2) ∧ (a3.Is (put8 (put8 (put8 w X1 a1 b1) X2 a2 b2) X3 a3 b3) x3 ∧ b3.Is (put8 (put8 (put8 w X1 a1 b1) X2 a2 b2) X3 a3 b3) y3) := by
  have o1 := put8_own w X1 a1 b1
  have o2 := put8_own (put8 w X1 a1 b1) X2 a2 b2
  have o3 := put8_own (put8 (put8 w X1 a1 b1) X2 a2 b2) X3 a3 b3
  have c1 := B1
  have c2 := (B2.own o1 (Ne.symm n12))
  have c3 := ((B3.own o1 (Ne.symm n13)).own o2 (Ne.symm n23))
  exact ⟨(o3.ext (o2.ext (o1.ext hx z1) z2) z3), (((put8_blk c1 a1 b1).own o2 n12).own o3 n13), ((put8_blk c2 a2 b2).own o3 n23), (put8_blk c3 a3 b3), ⟨(((p1.own c1 noUz o1).own c2 noUz o2).own c3 noUz o3), (((q1.own c1 noUz o1).own c2 noUz o2).own c3 noUz o3)⟩, ⟨(((p2.own c1 noUz o1).own c2 noUz o2).own c3 noUz o3), (((q2.own c1 noUz o1).own c2 noUz o2).own c3 noUz o3)⟩, ⟨(((p3.own c1 noUz o1).own c2 noUz o2).own c3 noUz o3), (((q3.own c1 noUz o1).own c2 noUz o2).own c3 noUz o3)⟩⟩
end Go.Proofs.YtllpkoinjompcaaGreat

namespace Go.Proofs.YtllpkoinjompcaaGreat
open Go.RowKit
attribute [local go_sem ↓] Go.wp_at_zero Go.wp_at_succ run_max_ii run_min_ii

end Go.Proofs.YtllpkoinjompcaaGreat

namespace Go.Proofs.YtllpkoinjompcaaGreat
open Go.RowKit

theorem heap_setCells (g : Nat) : ∀ (vs : List Value) (o : Nat) (w : World) (t : TypeId) (cs : List Value), w.heap[g]? = some (.cells cs.toArray t (0, 0)) → o + vs.length ≤ cs.length →
    (w.setCells g o vs).heap[g]? = some (.cells (cs.take o ++ vs ++ cs.drop (o + vs.length)).toArray t (0, 0))
  | [], o, w, t, cs, h, _ => by simpa [World.setCells] using h
  | v :: r, o, w, t, cs, h, hl => by
    rw [World.setCells]
    have h2 : (w.setCell ⟨g, o, none⟩ v).heap[g]? = some (.cells (cs.set o v).toArray t (0, 0)) := by
      have h3 := Blk.set_ (w := w) (g := g) (t := t) (cs := cs.toArray) h o v
      simpa [Blk] using h3
    rw [heap_setCells g r (o + 1) _ t (cs.set o v) h2 (by simp at hl ⊢; omega)]
    congr 3
    have hlt : o < cs.length := by simp at hl; omega
    apply List.ext_getElem?
    intro i
    simp only [List.length_cons, List.append_assoc, List.getElem?_append, List.length_take, List.length_set, List.getElem?_take, List.getElem?_set, List.getElem?_drop]
    have e : o + 1 + r.length = o + (r.length + 1) := by omega
    have m : min o cs.length = o := by omega
    have m1 : min (o + 1) cs.length = o + 1 := by omega
    rw [m, m1]
    by_cases h1 : i < o
    · rw [if_pos (by omega), if_pos (by omega), if_pos h1, if_pos h1, if_neg (by omega)]
    · by_cases h2 : i = o
      · subst h2
        simp [hlt]
      · rw [if_neg (by omega), if_neg h1]
        obtain ⟨k, rfl⟩ : ∃ k, i = o + 1 + k := ⟨i - (o + 1), by omega⟩
        have q1 : o + 1 + k - (o + 1) = k := by omega
        have q2 : o + 1 + k - o = k + 1 := by omega
        rw [q1, q2]
        by_cases h3 : k < r.length
        · rw [if_pos h3, if_pos (by first | omega | (simp; omega))]; simp
        · rw [if_neg h3, if_neg (by first | omega | (simp; omega)), if_neg (by omega)]
          congr 1
          first | omega | (simp; omega)

theorem Blk.setCells {w : World} {g : Nat} {t : TypeId} {cs : Array Value} (h : Blk w g t cs) (vs : Array Value) (hl : vs.size = cs.size) : Blk (w.setCells g 0 vs.toList) g t vs := by
  have h2 := heap_setCells g vs.toList 0 w t cs.toList (by simpa [Blk] using h) (by simp [hl])
  unfold Blk
  rw [h2, List.drop_of_length_le (by simp [hl])]
  simp

theorem Own.setCells_l {g : Nat} : ∀ (vs : List Value) (o : Nat) {a w : World}, Own g a w → Own g a (w.setCells g o vs)
  | [], _, _, _, h => h
  | v :: r, o, _, _, h => by rw [World.setCells]; exact Own.setCells_l r (o + 1) (h.set_at o none v)
theorem Own.setCells (w : World) (g : Nat) (vs : Array Value) : Own g w (w.setCells g 0 vs.toList) := Own.setCells_l _ _ (Own.refl g w)

theorem Blk.range {w : World} {g : Nat} {t : TypeId} {cs : Array Value} (h : Blk w g t cs) : w.rangeAt g 0 cs.toList := fun j v hv => by
  rw [Nat.zero_add, h.cell j]
  simpa using hv
theorem Blk.thereN {w : World} {g : Nat} {t : TypeId} {cs : Array Value} (h : Blk w g t cs) : w.there g 0 cs.size := fun j hj => by
  rw [Nat.zero_add, h.cell j, h.frozen j]
  simp [hj]

theorem Blk.loadVar {P : Program} {w : World} {g : Nat} {t ty : TypeId} {cs : Array Value} {d : TypeDesc} (h : Blk w g t cs) (hu : P.underlying ty = some d) (hd : d.isRow = true) (hi : (P.info? ty).map (·.size) = some cs.size) :
    (Go.loadVar ty ⟨g, 0, none⟩).run P w = .ok (.agg cs) w := by
  have h2 := run_loadVar_mid (P := P) w g 0 ty cs.toList d h.range hu hd (by simpa using hi)
  simpa using h2

theorem wp_store_blk {P : Program} {op : Oper} {a : Act} {w : World} {K : Act → World → Prop} {Q : Exit → Act → World → Prop} (ty : TypeId) (x y : Operand) (ho : op.op = .store ty x y)
    (g : Nat) (t : TypeId) (cs0 cs : Array Value) (hx : a.eval x = .pointer (some ⟨g, 0, none⟩)) (hy : a.eval y = .agg cs) (hb : Blk w g t cs0) (hl : cs.size = cs0.size)
    (hi : (P.info? ty).map (·.size) = some cs.size) (h1 : cs.all (·.oneCell') = true)
    (h : K (a.put op.dst undef) (w.setCells g 0 cs.toList)) : op.wp P a w K Q :=
  wp_store_mid ty x y ho g 0 cs hx hy (by rw [hl]; exact hb.thereN) hi h1 h

theorem wpAnyH_store_l {P : Program} {l : List Oper} {Q : Exit → Act → World → Prop} {md : Region.Mode} {S : World → Prop} {i : Nat} {oi : Oper} {fuel : Nat} {listed : Array Bool} {a : Act} {w : World} (hi : l[i]? = some oi)
    (hr : Region.ready md l.toArray listed = [i]) (hg : oi.guard = none) (ty : TypeId) (x y : Operand) (ho : oi.op = .store ty x y)
    (g : Nat) (t : TypeId) (cs0 cs : Array Value) (hx : a.eval x = .pointer (some ⟨g, 0, none⟩)) (hy : a.eval y = .agg cs) (hb : Blk w g t cs0) (hl : cs.size = cs0.size)
    (hz : (P.info? ty).map (·.size) = some cs.size) (h1 : cs.all (·.oneCell') = true) (hS : S (w.setCells g 0 cs.toList))
    (h : wpAnyH P md l.toArray Q S fuel (listed.setIfInBounds i true) (a.put oi.dst undef) (w.setCells g 0 cs.toList)) : wpAnyH P md l.toArray Q S (fuel + 1) listed a w :=
  wpAnyH_one_l hi hr (fun K hK => by
    rw [if_pos (by simp only [Region.wanted, hg])]
    exact wp_store_blk ty x y ho g t cs0 cs hx hy hb hl hz h1 (hK.out _ _ hS (fun _ => h)))

theorem wpList_store_blk {P : Program} {ops : Array Oper} {rest : List Oper} {op : Oper} {a : Act} {w : World} {Q : Exit → Act → World → Prop} (hgd : op.guard = none) (ty : TypeId) (x y : Operand) (ho : op.op = .store ty x y)
    (g : Nat) (t : TypeId) (cs0 cs : Array Value) (hx : a.eval x = .pointer (some ⟨g, 0, none⟩)) (hy : a.eval y = .agg cs) (hb : Blk w g t cs0) (hl : cs.size = cs0.size)
    (hi : (P.info? ty).map (·.size) = some cs.size) (h1 : cs.all (·.oneCell') = true)
    (h : wpList P ops Q rest (a.put op.dst undef) (w.setCells g 0 cs.toList)) : wpList P ops Q (op :: rest) a w :=
  wpList_plain hgd fun _ hK => wp_store_blk ty x y ho g t cs0 cs hx hy hb hl hi h1 (hK _ _ h)
theorem wpList_val {P : Program} {ops : Array Oper} {rest : List Oper} {op : Oper} {a : Act} {w w' : World} {Q : Exit → Act → World → Prop} {v : Value} (hgd : op.guard = none)
    (hv : (execOp a.eval op).run P w = .ok (.value v) w') (h : wpList P ops Q rest (a.put op.dst v) w') : wpList P ops Q (op :: rest) a w :=
  wpList_plain hgd fun _ hK => by
    unfold Oper.wp
    rw [hv]
    exact hK _ _ h

theorem Own.then_ext' {g : Nat} {a b c : World} (h : Ext a b) (k : Own g b c) : Own g a c :=
  ⟨k.os.trans h.os, k.tape.trans h.tape, k.output.trans h.output, Nat.le_trans h.size k.size, fun i hi hn => (k.block i (Nat.lt_of_lt_of_le hi h.size) hn).trans (h.block i hi)⟩
theorem results_cell2 {P : Program} {fn : Func} {i j : Tmp} {t u : TypeId} (h : fn.results = #[.cell i t, .cell j u]) {tmps : Array Value} {w : World} {p q : Addr} {v z : Value}
    (hi : tmps.getD i undef = .pointer (some p)) (hj : tmps.getD j undef = .pointer (some q)) (h1 : (Go.loadVar t p).run P w = .ok v w) (h2 : (Go.loadVar u q).run P w = .ok z w) :
    (results fn tmps).run P w = .ok (.tuple #[v, z]) w := by
  simp only [Array.getD_eq_getD_getElem?] at hi hj
  simp [results, h, hi, hj, h1, h2, asAddr]
theorem results_cell1 {P : Program} {fn : Func} {i : Tmp} {t : TypeId} (h : fn.results = #[.cell i t]) {tmps : Array Value} {w : World} {p : Addr} {v : Value}
    (hi : tmps.getD i undef = .pointer (some p)) (h1 : (Go.loadVar t p).run P w = .ok v w) :
    (results fn tmps).run P w = .ok v w := by
  simp only [Array.getD_eq_getD_getElem?] at hi
  simp [results, h, hi, h1, asAddr]
end Go.Proofs.YtllpkoinjompcaaGreat

namespace Go.Proofs.YtllpkoinjompcaaGreat
open Go.RowKit
attribute [local go_sem ↓] Go.wp_at_zero Go.wp_at_succ run_max_ii run_min_ii

def Own2 (g h : Nat) (w w' : World) : Prop := ∃ x, Own g w x ∧ Own h x w'
theorem Own2.refl (g h : Nat) (w : World) : Own2 g h w w := ⟨w, Own.refl _ _, Own.refl _ _⟩
theorem Own2.drew {g h : Nat} {a w : World} (k : Own2 g h a w) : Own2 g h a w.drew := by obtain ⟨x, h1, h2⟩ := k; exact ⟨x, h1, h2.drew⟩
theorem Own2.of_ext {g h : Nat} {a b : World} (k : Ext a b) : Own2 g h a b := ⟨b, Own.of_ext k, Own.refl _ _⟩
theorem Own2.one {g h : Nat} {a b : World} (k : Own g a b) : Own2 g h a b := ⟨b, k, Own.refl _ _⟩
theorem Blk.own2 {g h : Nat} {w w' : World} {b : Nat} {t : TypeId} {cs : Array Value} (k : Blk w b t cs) (o : Own2 g h w w') (n1 : b ≠ g) (n2 : b ≠ h) : Blk w' b t cs := by
  obtain ⟨x, h1, h2⟩ := o
  exact (Blk.own k h1 n1).own h2 n2
end Go.Proofs.YtllpkoinjompcaaGreat
