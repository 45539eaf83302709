/- ScanlineMatchesWinding. -/
import Derived.Test.YtaeeeailoiioaacGreatM7
namespace Go.Proofs.YtaeeeailoiioaacGreat.matches
open Go.RowKit Go.ChangeShapes Go.WideShapes Go.ChangeAt
attribute [local go_sem ↓] Go.wp_at_zero Go.wp_at_succ run_max_ii run_min_ii
theorem le_sumQ {a : Nat} : ∀ {l : List Nat}, a ∈ l → a ≤ l.sum
  | x :: l, h => by
    rw [List.sum_cons]
    rcases List.mem_cons.1 h with rfl | h
    · omega
    have := le_sumQ h; omega
theorem smPoly_ring {rs : List Ring} (h : smPoly rs = true) : ∀ r, r ∈ rs → r.length ≤ 60 := by
  intro r hr
  have h2 := (smPoly_out h).2
  have h3 : min r.length 1000 ≤ mtot rs := by
    unfold mtot
    exact le_sumQ (List.mem_map.2 ⟨r, hr, rfl⟩)
  omega
theorem smPoly_small {rs : List Ring} (h : smPoly rs = true) : rs.length ≤ 100000 ∧ ∀ r, r ∈ rs → r.length ≤ 100000 := ⟨by have := (smPoly_out h).1; omega, fun r hr => by have := smPoly_ring h r hr; omega⟩
theorem ptRings {w0 w : World} {m : List Ent} {X1 X2 i j : Nat} {p : Int × Int} (h : Hp w0 w m) (h1 : m[i]? = some (.blk X1 44 [.int .i64 p.1, .int .i64 p.2])) (h2 : m[j]? = some (.blk X2 45 [.slice (some ⟨X1, 0, none⟩) 1 1])) : RingsV w (.slice (some ⟨X2, 0, none⟩) 1 1) [[p]] := by
 refine ⟨_, 1, rfl, fun _ => ⟨X2, 0, rfl, fun i r hr => ?_⟩⟩
 have hi : i = 0 := by have := (List.getElem?_eq_some_iff.1 hr).1; simp at this; omega
 subst hi
 have hr2 : r = [p] := by simpa using hr.symm
 subst hr2
 refine ⟨_, 1, h.cell h2 0 rfl, ⟨_, 1, rfl, fun _ => ⟨X1, 0, rfl, fun i hi => ?_⟩⟩⟩
 have hi : i = 0 := by simpa using hi
 subst hi
 exact ⟨h.cell h1 0 rfl, h.cell h1 1 rfl⟩
theorem okR_one (p : Int × Int) : okR [[p]] = okPt p.1 p.2 := by simp [okR, tot, okAll]
theorem ne_snoc {l : List QI} {k : Nat} {e : QI} {x : Rat} (h : l[k]? = some e) (h1 : ∀ a, a ∈ l.take k → a.1 ≠ x) (h2 : e.1 ≠ x) : ∀ a, a ∈ l.take (k + 1) → a.1 ≠ x := by
  rw [take_snoc h]
  intro a ha
  rcases List.mem_append.1 ha with ha | ha
  · exact h1 a ha
  rw [List.mem_singleton.1 ha]; exact h2
theorem pts_snoc {l : Ring} {k : Nat} {e : Int × Int} {y : Int} (h : l[k]? = some e) (h1 : ∀ a, a ∈ l.take k → a.2 ≠ y) (h2 : e.2 ≠ y) : ∀ a, a ∈ l.take (k + 1) → a.2 ≠ y := by
  rw [take_snoc h]
  intro a ha
  rcases List.mem_append.1 ha with ha | ha
  · exact h1 a ha
  rw [List.mem_singleton.1 ha]; exact h2
theorem rings_snoc {l : List Ring} {k : Nat} {r : Ring} {y : Int} (h : l[k]? = some r) (h1 : ∀ z, z ∈ l.take k → ∀ a, a ∈ z → a.2 ≠ y) (h2 : ∀ a, a ∈ r → a.2 ≠ y) : ∀ z, z ∈ l.take (k + 1) → ∀ a, a ∈ z → a.2 ≠ y := by
  rw [take_snoc h]
  intro a ha
  rcases List.mem_append.1 ha with ha | ha
  · exact h1 a ha
  rw [List.mem_singleton.1 ha]; exact h2
set_option maxRecDepth 20000 in
set_option maxHeartbeats 4000000 in
theorem walkF0 (A : Option Addr) (rs : List Ring) (cap : Nat) (rule : Int) (p : Int × Int)  (w : World) (hs : ∀ W, Ext w W → Calls Tryz.prog 6 #[.slice A rs.length cap] W fun e w' => e = .returned (.bool false) ∧ Ext W w')  :
  Calls Tryz.prog 4 #[.slice A rs.length cap, .int .i64 rule, .agg #[.int .i64 p.1, .int .i64 p.2]] w fun e w' => e = .returned (.bool true) ∧ Ext w w' := by
 have HS := zH hs
 clear hs
 go_enter Tryz.func4, Tryz.ntmps4
 have H0 := zH (Hp.start w)
 go_upto_region 0 with fail
 refine wp_region_lit ?_
 refine mv_alloc (T := 44) (zs := [.int .i64 p.1, .int .i64 p.2]) (by rfl) (by go_simp) H0.out (by simp [NoUL]) ?_
 intro X1 w2 hh hx hge
 have H3 := zH (show Hp w w2 [.blk X1 44 [.int .i64 p.1, .int .i64 p.2]] from hh)
 clear hh hx hge
 try simp only [Act.put, zA, zB, zC]
 refine zq (.bool false) ?_
 go_upto_region 1 with fail
 refine wp_region_lit ?_
 refine qV (.slice A rs.length cap) ?_
 refine zc (HS.out _ H3.out.ext) ?_
 rintro e w8 ⟨rfl, hx⟩
 have H9 := zH (H3.out.step hx)
 clear hx
 refine zn ?_
 refine qV (.bool true) ?_
 refine zq (.bool true) ?_
 refine zk ?_
 refine zk ?_
 refine zk ?_
 refine qV (.bool true) ?_
 refine zq (.bool true) ?_
 refine zk ?_
 refine zk ?_
 refine zk ?_
 refine zk ?_
 refine zk ?_
 refine zq (.bool true) ?_
 go_upto_region 2 with fail
 refine wp_region_lit ?_
 refine zc (example_any _) ?_
 rintro e w16 ⟨rfl, hx⟩
 have H17 := zH (H9.out.step hx)
 clear hx
 refine zn ?_
 refine zq (.bool true) ?_
 go_wp2_with fail
 go_ret
 exact ⟨rfl, H17.out.ext⟩
set_option maxRecDepth 20000 in
set_option maxHeartbeats 4000000 in
theorem walkF1 (A : Option Addr) (rs : List Ring) (cap : Nat) (rule : Int) (p : Int × Int)  (w : World) (hs : ∀ W, Ext w W → Calls Tryz.prog 6 #[.slice A rs.length cap] W fun e w' => e = .returned (.bool true) ∧ Ext W w') (hu : RingsV w (.slice A rs.length cap) rs) (hn : rs.length ≤ 100000) (hr : ∀ r, r ∈ rs → r.length ≤ 100000) (hv : okR rs = false) :
  Calls Tryz.prog 4 #[.slice A rs.length cap, .int .i64 rule, .agg #[.int .i64 p.1, .int .i64 p.2]] w fun e w' => e = .returned (.bool true) ∧ Ext w w' := by
 have HS := zH hs
 clear hs
 have HU := zH hu
 have HN := zH hn
 have HR := zH hr
 have HV := zH hv
 clear hv
 go_enter Tryz.func4, Tryz.ntmps4
 have H0 := zH (Hp.start w)
 go_upto_region 0 with fail
 refine wp_region_lit ?_
 refine mv_alloc (T := 44) (zs := [.int .i64 p.1, .int .i64 p.2]) (by rfl) (by go_simp) H0.out (by simp [NoUL]) ?_
 intro X20 w21 hh hx hge
 have H22 := zH (show Hp w w21 [.blk X20 44 [.int .i64 p.1, .int .i64 p.2]] from hh)
 clear hh hx hge
 try simp only [Act.put, zA, zB, zC]
 refine zq (.bool false) ?_
 go_upto_region 1 with fail
 refine wp_region_lit ?_
 refine qV (.slice A rs.length cap) ?_
 refine zc (HS.out _ H22.out.ext) ?_
 rintro e w27 ⟨rfl, hx⟩
 have H28 := zH (H22.out.step hx)
 clear hx
 refine zn ?_
 refine qV (.bool false) ?_
 refine zq (.bool false) ?_
 refine qV (.slice A rs.length cap) ?_
 refine zc (r16Valid_any (.slice A rs.length cap) rs _ (HU.out.ext H28.out.ext) HN.out HR.out) ?_
 rintro e w33 ⟨rfl, hx⟩
 have H34 := zH (H28.out.step hx)
 clear hx
 refine ⟨.bool false, by rw [HV.out], ?_⟩
 try simp only [Act.put, zA, zB, zC]
 refine qV (.bool true) ?_
 refine zq (.bool true) ?_
 refine zq (.bool true) ?_
 refine zk ?_
 refine zk ?_
 refine zk ?_
 refine zk ?_
 refine zk ?_
 refine zq (.bool true) ?_
 go_upto_region 2 with fail
 refine wp_region_lit ?_
 refine zc (example_any _) ?_
 rintro e w40 ⟨rfl, hx⟩
 have H41 := zH (H34.out.step hx)
 clear hx
 refine zn ?_
 refine zq (.bool true) ?_
 go_wp2_with fail
 go_ret
 exact ⟨rfl, H41.out.ext⟩
set_option maxRecDepth 20000 in
set_option maxHeartbeats 4000000 in
theorem walkF2 (A : Option Addr) (rs : List Ring) (cap : Nat) (rule : Int) (p : Int × Int)  (w : World) (hs : ∀ W, Ext w W → Calls Tryz.prog 6 #[.slice A rs.length cap] W fun e w' => e = .returned (.bool true) ∧ Ext W w') (hu : RingsV w (.slice A rs.length cap) rs) (hn : rs.length ≤ 100000) (hr : ∀ r, r ∈ rs → r.length ≤ 100000) (hv : okR rs = true) (hvp : okPt p.1 p.2 = false) :
  Calls Tryz.prog 4 #[.slice A rs.length cap, .int .i64 rule, .agg #[.int .i64 p.1, .int .i64 p.2]] w fun e w' => e = .returned (.bool true) ∧ Ext w w' := by
 have HS := zH hs
 clear hs
 have HU := zH hu
 have HN := zH hn
 have HR := zH hr
 have HV := zH hv
 clear hv
 have HVP := zH hvp
 go_enter Tryz.func4, Tryz.ntmps4
 have H0 := zH (Hp.start w)
 go_upto_region 0 with fail
 refine wp_region_lit ?_
 refine mv_alloc (T := 44) (zs := [.int .i64 p.1, .int .i64 p.2]) (by rfl) (by go_simp) H0.out (by simp [NoUL]) ?_
 intro X44 w45 hh hx hge
 have H46 := zH (show Hp w w45 [.blk X44 44 [.int .i64 p.1, .int .i64 p.2]] from hh)
 clear hh hx hge
 try simp only [Act.put, zA, zB, zC]
 refine zq (.bool false) ?_
 go_upto_region 1 with fail
 refine wp_region_lit ?_
 refine qV (.slice A rs.length cap) ?_
 refine zc (HS.out _ H46.out.ext) ?_
 rintro e w51 ⟨rfl, hx⟩
 have H52 := zH (H46.out.step hx)
 clear hx
 refine zn ?_
 refine qV (.bool false) ?_
 refine zq (.bool false) ?_
 refine qV (.slice A rs.length cap) ?_
 refine zc (r16Valid_any (.slice A rs.length cap) rs _ (HU.out.ext H52.out.ext) HN.out HR.out) ?_
 rintro e w57 ⟨rfl, hx⟩
 have H58 := zH (H52.out.step hx)
 clear hx
 refine ⟨.bool true, by rw [HV.out], ?_⟩
 try simp only [Act.put, zA, zB, zC]
 refine qV (.bool false) ?_
 refine zq (.bool false) ?_
 refine qV (.bool false) ?_
 refine zd X44 (0) [.int .i64 p.1, .int .i64 p.2] (H58.out.range (i := 0) (by rfl) 0 2) Tryz.underlying44 ?_
 refine mv_lit (T := 44) (zs := [.int .i64 p.1, .int .i64 p.2]) (n := 1) (by rfl) (by go_simp) H58.out (by simp [NoUL]) ?_
 intro X63 w64 hh hx hge
 have H65 := zH (show Hp w w64 [.blk X44 44 [.int .i64 p.1, .int .i64 p.2], .blk X63 44 [.int .i64 p.1, .int .i64 p.2]] from hh)
 clear hh hx hge
 try simp only [Act.put, zA, zB, zC]
 refine mv_lit (T := 45) (zs := [.slice (some ⟨X63, 0, none⟩) 1 1]) (n := 1) (by rfl) (by go_simp) H65.out (by simp [NoUL]) ?_
 intro X67 w68 hh hx hge
 have H69 := zH (show Hp w w68 [.blk X44 44 [.int .i64 p.1, .int .i64 p.2], .blk X63 44 [.int .i64 p.1, .int .i64 p.2], .blk X67 45 [.slice (some ⟨X63, 0, none⟩) 1 1]] from hh)
 clear hh hx hge
 try simp only [Act.put, zA, zB, zC]
 refine zc (r16Valid_any (.slice (some ⟨X67, 0, none⟩) 1 1) [[p]] _ (ptRings H69.out (i := 1) (j := 2) (by rfl) (by rfl)) (by simp) (by simp)) ?_
 rintro e w71 ⟨rfl, hx⟩
 have H72 := zH (H69.out.step hx)
 clear hx
 refine ⟨.bool false, by rw [okR_one, HVP.out], ?_⟩
 try simp only [Act.put, zA, zB, zC]
 refine qV (.bool true) ?_
 refine zq (.bool true) ?_
 go_upto_region 2 with fail
 refine wp_region_lit ?_
 refine zc (example_any _) ?_
 rintro e w76 ⟨rfl, hx⟩
 have H77 := zH (H72.out.step hx)
 clear hx
 refine zn ?_
 refine zq (.bool true) ?_
 go_wp2_with fail
 go_ret
 exact ⟨rfl, H77.out.ext⟩
set_option maxRecDepth 20000 in
set_option maxHeartbeats 4000000 in
theorem walkT (A : Option Addr) (rs : List Ring) (cap : Nat) (rule : Int) (p : Int × Int)  (w : World) (hs : ∀ W, Ext w W → Calls Tryz.prog 6 #[.slice A rs.length cap] W fun e w' => e = .returned (.bool true) ∧ Ext W w') (hu : RingsV w (.slice A rs.length cap) rs) (hn : rs.length ≤ 100000) (hr : ∀ r, r ∈ rs → r.length ≤ 100000) (hru : -9223372036854775808 ≤ rule ∧ rule ≤ 9223372036854775807) (hv : okR rs = true) (hvp : okPt p.1 p.2 = true) :
  Calls Tryz.prog 4 #[.slice A rs.length cap, .int .i64 rule, .agg #[.int .i64 p.1, .int .i64 p.2]] w fun e w' => e = .returned (.bool true) ∧ Ext w w' := by
 have HS := zH hs
 clear hs
 have HU := zH hu
 have HN := zH hn
 have HR := zH hr
 have HV := zH hv
 clear hv
 have HVP := zH hvp
 obtain ⟨A_, cu_, hvq_, hA⟩ := hu
 injection hvq_ with e1_ e2_ e3_
 subst e1_ e3_
 clear e2_
 have HA := zH hA
 have op_ := okPt_out hvp
 have OP := zH op_
 clear hA op_ hr
 go_enter Tryz.func4, Tryz.ntmps4
 have H0 := zH (Hp.start w)
 go_upto_region 0 with fail
 refine wp_region_lit ?_
 refine mv_alloc (T := 44) (zs := [.int .i64 p.1, .int .i64 p.2]) (by rfl) (by go_simp) H0.out (by simp [NoUL]) ?_
 intro X80 w81 hh hx hge
 have H82 := zH (show Hp w w81 [.blk X80 44 [.int .i64 p.1, .int .i64 p.2]] from hh)
 clear hh hx hge
 try simp only [Act.put, zA, zB, zC]
 refine zq (.bool false) ?_
 go_upto_region 1 with fail
 refine wp_region_lit ?_
 refine qV (.slice A rs.length cap) ?_
 refine zc (HS.out _ H82.out.ext) ?_
 rintro e w87 ⟨rfl, hx⟩
 have H88 := zH (H82.out.step hx)
 clear hx
 refine zn ?_
 refine qV (.bool false) ?_
 refine zq (.bool false) ?_
 refine qV (.slice A rs.length cap) ?_
 refine zc (r16Valid_any (.slice A rs.length cap) rs _ (HU.out.ext H88.out.ext) HN.out HR.out) ?_
 rintro e w93 ⟨rfl, hx⟩
 have H94 := zH (H88.out.step hx)
 clear hx
 refine ⟨.bool true, by rw [HV.out], ?_⟩
 try simp only [Act.put, zA, zB, zC]
 refine qV (.bool false) ?_
 refine zq (.bool false) ?_
 refine qV (.bool false) ?_
 refine zd X80 (0) [.int .i64 p.1, .int .i64 p.2] (H94.out.range (i := 0) (by rfl) 0 2) Tryz.underlying44 ?_
 refine mv_lit (T := 44) (zs := [.int .i64 p.1, .int .i64 p.2]) (n := 1) (by rfl) (by go_simp) H94.out (by simp [NoUL]) ?_
 intro X99 w100 hh hx hge
 have H101 := zH (show Hp w w100 [.blk X80 44 [.int .i64 p.1, .int .i64 p.2], .blk X99 44 [.int .i64 p.1, .int .i64 p.2]] from hh)
 clear hh hx hge
 try simp only [Act.put, zA, zB, zC]
 refine mv_lit (T := 45) (zs := [.slice (some ⟨X99, 0, none⟩) 1 1]) (n := 1) (by rfl) (by go_simp) H101.out (by simp [NoUL]) ?_
 intro X103 w104 hh hx hge
 have H105 := zH (show Hp w w104 [.blk X80 44 [.int .i64 p.1, .int .i64 p.2], .blk X99 44 [.int .i64 p.1, .int .i64 p.2], .blk X103 45 [.slice (some ⟨X99, 0, none⟩) 1 1]] from hh)
 clear hh hx hge
 try simp only [Act.put, zA, zB, zC]
 refine zc (r16Valid_any (.slice (some ⟨X103, 0, none⟩) 1 1) [[p]] _ (ptRings H105.out (i := 1) (j := 2) (by rfl) (by rfl)) (by simp) (by simp)) ?_
 rintro e w107 ⟨rfl, hx⟩
 have H108 := zH (H105.out.step hx)
 clear hx
 refine ⟨.bool true, by rw [okR_one, HVP.out], ?_⟩
 try simp only [Act.put, zA, zB, zC]
 refine qV (.bool false) ?_
 refine zq (.bool false) ?_
 go_upto_region 3 with fail
 refine wp_region_lit ?_
 refine qV (.slice A rs.length cap) ?_
 refine zq (.int .i64 ((rs.length : Nat) : Int)) ?_
 refine zq (.int .i64 0) ?_
 go_wp2_with fail
 go_loopg [32] (rs.length) (fun cq v115 wr => ∃ (i : Nat), cq = rs.length - i ∧ v115 = .int .i64 (i : Int) ∧ (i ≤ rs.length) ∧ (∀ r, r ∈ rs.take i → ∀ a, a ∈ r → a.2 ≠ p.2) ∧ Hp w wr [.blk X80 44 [.int .i64 p.1, .int .i64 p.2], .blk X99 44 [.int .i64 p.1, .int .i64 p.2], .blk X103 45 [.slice (some ⟨X99, 0, none⟩) 1 1]] ∧ Dig w107 wr)
 case atStart => exact ⟨0, rfl, rfl, Nat.zero_le _, (by simp), H108.out, Dig.refl _⟩
 case round =>
  obtain ⟨i, rfl, rfl, q_HKI, q_HP1, hh_, hd_⟩ := hrel
  generalize wr = w116 at *
  have HKI := zH q_HKI
  clear q_HKI
  have HP1 := zH q_HP1
  clear q_HP1
  have H118 := zH hh_
  have D118 := zH hd_
  clear hh_ hd_ H108
  by_cases c119 : i < rs.length
  ·have HLT := zH c119
   clear c119
   have hlt := HLT.out
   have hlt2 : (i : Int) < (rs.length : Int) := by omega
   obtain ⟨r, hri_⟩ : ∃ r, rs[i]? = some r := ⟨_, List.getElem?_eq_getElem hlt⟩
   have HRI := zH hri_
   have hrl := HR.out r (List.mem_of_getElem? hri_)
   obtain ⟨g, off, rfl, hp_⟩ := HA.out (by omega)
   obtain ⟨B, cb, h1_, A2_, cb2_, hv_, h2_⟩ := hp_ i r hri_
   injection hv_ with e1_ e2_ e3_
   subst e1_
   have HRC := zH h1_
   have HPT := zH h2_
   clear hri_ hp_ h1_ h2_ e2_ e3_
   go_upto_region 5 with fail
   refine wp_region_lit ?_
   refine qV (.int .i64 (i : Int)) ?_
   refine zq (.int .i64 (i : Int)) ?_
   go_upto_region 6 with fail
   refine wp_region_lit ?_
   refine qV (.slice (some ⟨g, off, none⟩) rs.length cap) ?_
   refine zq (.int .i64 (i : Int)) ?_
   refine zp (w' := w116) (.pointer (some ⟨g, off + i, none⟩)) (by exact ezi (k := i) Tryz.underlying22 (l := hlt) (f := (show off + i = off + i * 1 by omega))) ?_
   refine ze g (off + i) (.slice B r.length cb) (range_one (H118.out.ext.get HRC.out)) ?_
   refine qV (.int .i64 ((r.length : Nat) : Int)) ?_
   refine zq (.int .i64 0) ?_
   go_wp2_with fail
   go_loopg [40] (r.length) (fun cq v127 wr => ∃ (k : Nat), cq = r.length - k ∧ v127 = .int .i64 (k : Int) ∧ (k ≤ r.length) ∧ (∀ a, a ∈ r.take k → a.2 ≠ p.2) ∧ Hp w wr [.blk X80 44 [.int .i64 p.1, .int .i64 p.2], .blk X99 44 [.int .i64 p.1, .int .i64 p.2], .blk X103 45 [.slice (some ⟨X99, 0, none⟩) 1 1]] ∧ Dig w116 wr)
   case atStart => exact ⟨0, rfl, rfl, Nat.zero_le _, (by simp), H118.out, Dig.refl _⟩
   case round =>
    obtain ⟨k, rfl, rfl, q_HKU, q_HP2, hh_, hd_⟩ := hrel
    generalize wr = w128 at *
    have HKU := zH q_HKU
    clear q_HKU
    have HP2 := zH q_HP2
    clear q_HP2
    have H130 := zH hh_
    have D130 := zH hd_
    clear hh_ hd_ H118
    by_cases c131 : k < r.length
    ·have HLU := zH c131
     clear c131
     have hlu := HLU.out
     have hlu2 : (k : Int) < (r.length : Int) := by omega
     obtain ⟨gr, ofr, rfl, hpa_⟩ := HPT.out (by intro h_; rw [h_] at hlu; simp at hlu)
     have HPA := zH hpa_
     clear hpa_
     obtain ⟨⟨a0, a1⟩, ha_⟩ : ∃ a, r[k]? = some a := ⟨_, List.getElem?_eq_getElem hlu⟩
     have HAK := zH ha_
     have HPK := zH (range_pt HPA.out ha_)
     clear ha_
     dsimp only at HPK
     go_upto_region 8 with fail
     refine wp_region_lit ?_
     refine qV (.int .i64 (k : Int)) ?_
     refine zq (.int .i64 (k : Int)) ?_
     by_cases c134 : a1 = p.2
     ·have C := zH c134
      clear c134
      go_upto_region 9 with fail
      refine zy ?_
      have H135 := zH (H130.out.step (Ext.refl w128).drew)
      refine zx 0 (bs 11 1) (.slice (some ⟨g, off, none⟩) rs.length cap) zb ?_
      refine zx 1 (bs 11 3) (.int .i64 (i : Int)) zb ?_
      refine zu 2 (bs 11 7) (v := .pointer (some ⟨g, off + i, none⟩)) zb ?_ (hv := by intro w hSw; exact ezi (k := i) Tryz.underlying22 (l := hlt) (f := (show off + i = off + i * 1 by omega)))
      refine zf 3 (bs 11 15) g (off + i) (.slice (some ⟨gr, ofr, none⟩) r.length cb) (range_one (H130.out.ext.get HRC.out)) zb ?_
      refine zx 4 (bs 11 31) (.int .i64 (k : Int)) zb ?_
      refine zu 5 (bs 11 63) (v := .pointer (some ⟨gr, ofr + k * 2, none⟩)) zb ?_ (hv := by intro w hSw; exact ezi (k := k) Tryz.underlying45 (l := hlu) (f := rfl))
      refine zx 6 (bs 11 127) (.pointer (some ⟨gr, ofr + k * 2 + 1, none⟩)) zb ?_
      refine zf 7 (bs 11 255) gr (ofr + k * 2 + 1) (.int .i64 a1) (range_part (range_ext HPK.out H130.out.ext) 1 1) zb ?_
      refine zx 8 (bs 11 511) (.pointer (some ⟨X80, 1, none⟩)) zb ?_
      refine zf 9 (bs 11 1023) X80 1 (.int .i64 p.2) (H130.out.range (i := 0) (by rfl) 1 1) zb ?_
      refine zu 10 (bs 11 2047) (v := .bool true) zb ?_ (hv := by intro w hSw; exact ezq (e := (dec_t C.out)))
      refine wpAnyH_done (by kernel_rfl) ?_ _
      go_upto_region 10 with fail
      refine wp_region_lit ?_
      refine zc (example_any _) ?_
      rintro e w145 ⟨rfl, hx⟩
      have H146 := zH (H135.out.step hx)
      clear hx
      refine zn ?_
      refine zq (.bool true) ?_
      go_wp2_with fail
      go_ret
      exact ⟨rfl, H146.out.ext⟩
     have C := zH c134
     clear c134
     go_upto_region 9 with fail
     refine zy ?_
     have H149 := zH (H130.out.step (Ext.refl w128).drew)
     have D149 := zH (Dig.of_ext (w := w128) zb)
     refine zx 0 (bs 11 1) (.slice (some ⟨g, off, none⟩) rs.length cap) zb ?_
     refine zx 1 (bs 11 3) (.int .i64 (i : Int)) zb ?_
     refine zu 2 (bs 11 7) (v := .pointer (some ⟨g, off + i, none⟩)) zb ?_ (hv := by intro w hSw; exact ezi (k := i) Tryz.underlying22 (l := hlt) (f := (show off + i = off + i * 1 by omega)))
     refine zf 3 (bs 11 15) g (off + i) (.slice (some ⟨gr, ofr, none⟩) r.length cb) (range_one (H130.out.ext.get HRC.out)) zb ?_
     refine zx 4 (bs 11 31) (.int .i64 (k : Int)) zb ?_
     refine zu 5 (bs 11 63) (v := .pointer (some ⟨gr, ofr + k * 2, none⟩)) zb ?_ (hv := by intro w hSw; exact ezi (k := k) Tryz.underlying45 (l := hlu) (f := rfl))
     refine zx 6 (bs 11 127) (.pointer (some ⟨gr, ofr + k * 2 + 1, none⟩)) zb ?_
     refine zf 7 (bs 11 255) gr (ofr + k * 2 + 1) (.int .i64 a1) (range_part (range_ext HPK.out H130.out.ext) 1 1) zb ?_
     refine zx 8 (bs 11 511) (.pointer (some ⟨X80, 1, none⟩)) zb ?_
     refine zf 9 (bs 11 1023) X80 1 (.int .i64 p.2) (H130.out.range (i := 0) (by rfl) 1 1) zb ?_
     refine zu 10 (bs 11 2047) (v := .bool false) zb ?_ (hv := by intro w hSw; exact ezq (e := (dec_f C.out)))
     refine wpAnyH_done (by kernel_rfl) ?_ _
     have DD159 := zH ((D130.out.trans D149.out))
     go_wp2_with fail
     go_roundg (r.length - (k + 1))
     case measure => exact (by omega)
     case rel => exact ⟨k + 1, rfl, (by go_num), hlu, (pts_snoc HAK.out HP2.out C.out), H149.out, DD159.out⟩
    have HLU := zH c131
    clear c131
    have hlu := HLU.out
    have hku := HKU.out
    obtain rfl : k = r.length := by omega
    have hge2 : ¬ (r.length : Int) < (r.length : Int) := by omega
    have DD160 := zH ((D118.out.trans D130.out))
    go_wp2_with fail
    go_roundg (rs.length - (i + 1))
    case measure => exact (by omega)
    case rel => exact ⟨i + 1, rfl, (by go_num), hlt, (rings_snoc HRI.out HP1.out (by have h_ := HP2.out; rwa [List.take_length] at h_)), H130.out, DD160.out⟩
  have HLT := zH c119
  clear c119
  have hki := HKI.out
  have hlt := HLT.out
  obtain rfl : i = rs.length := by omega
  have hge : ¬ (rs.length : Int) < (rs.length : Int) := by omega
  have HNV := zH (show ∀ r, r ∈ rs → ∀ v, v ∈ r → v.2 ≠ p.2 by have h_ := HP1.out; rwa [List.take_length] at h_)
  go_upto_region 13 with fail
  refine zy ?_
  have H161 := zH (H118.out.step (Ext.refl w116).drew)
  refine zx 0 (bs 10 1) (.pointer (some ⟨X80, 0, none⟩)) zb ?_
  refine zf 1 (bs 10 3) X80 0 (.int .i64 p.1) (H118.out.range (i := 0) (by rfl) 0 1) zb ?_
  refine zx 3 (bs 10 11) (.pointer (some ⟨X80, 1, none⟩)) zb ?_
  refine zf 4 (bs 10 27) X80 1 (.int .i64 p.2) (H118.out.range (i := 0) (by rfl) 1 1) zb ?_
  refine tuple2 (f := 2) 2 5 6 7 59 62 9 10 27 z4 (fun v w => ∃ c, v = .agg c ∧ NIs w c (((p.1) : Int) : Rat)) (fun v w => ∃ c, v = .agg c ∧ NIs w c (((p.2) : Int) : Rat)) rfl rfl rfl rfl (by decide) (by decide) (by kernel_rfl) (fun _ hx => zb.trans hx) (fun _ _ _ h e => by obtain ⟨c, h1, h2⟩ := h; exact ⟨c, h1, h2.ext e⟩) (fun _ _ _ h e => by obtain ⟨c, h1, h2⟩ := h; exact ⟨c, h1, h2.ext e⟩) ?ht165c1 ?ht165c2 ?ht165c3 ?ht165c4 ?ht165e _ _ _ _ (by kernel_rfl) rfl
  case ht165c1 =>
   intro v1 v2 v3 v4 w1 K hxq hSw hK
   try simp only [Act.put, zA, zB, zC]
   rw [if_pos (by rfl)]
   refine wp_call_op (by go_simp) (q03From p.1 _ (by have ob0 := OP.out.1.1; have ob1 := OP.out.1.2; have ob2 := OP.out.2.1; have ob3 := OP.out.2.2; omega) (by have ob0 := OP.out.1.1; have ob1 := OP.out.1.2; have ob2 := OP.out.2.1; have ob3 := OP.out.2.2; omega)) ?_
   rintro e w' ⟨c_, rfl, hc_, hx⟩
   refine ⟨_, rfl, ?_⟩
   have hk := hK.out _ _ ⟨c_, rfl, hc_⟩ hx
   try simp only [Act.put, zA, zB, zC]
   simp only [Act.put, zA, zB, zC] at hk
   exact hk
  case ht165c2 =>
   intro v1 v2 v3 v4 w1 K hxq hSw hK
   try simp only [Act.put, zA, zB, zC]
   rw [if_pos (by rfl)]
   refine wp_call_op (by go_simp) (q03From p.2 _ (by have ob0 := OP.out.1.1; have ob1 := OP.out.1.2; have ob2 := OP.out.2.1; have ob3 := OP.out.2.2; omega) (by have ob0 := OP.out.1.1; have ob1 := OP.out.1.2; have ob2 := OP.out.2.1; have ob3 := OP.out.2.2; omega)) ?_
   rintro e w' ⟨c_, rfl, hc_, hx⟩
   refine ⟨_, rfl, ?_⟩
   have hk := hK.out _ _ ⟨c_, rfl, hc_⟩ hx
   try simp only [Act.put, zA, zB, zC]
   simp only [Act.put, zA, zB, zC] at hk
   exact hk
  case ht165c3 =>
   intro v1 v2 v3 v4 w1 K hxq hSw hK
   try simp only [Act.put, zA, zB, zC]
   go_simp
   have hk := hK.out
   simp only [Act.put, zA, zB, zC] at hk
   exact hk
  case ht165c4 =>
   intro v1 v2 v3 v4 w1 K hxq hSw hK
   try simp only [Act.put, zA, zB, zC]
   go_simp
   have hk := hK.out
   simp only [Act.put, zA, zB, zC] at hk
   exact hk
  case ht165e =>
  intro v1_ v2_ X168 Y169 w170 hx hSw xp1 xp2 xb1 xb2 xz1 xz2 n12
  have hh := H161.out.add2 hx xb1 xb2 xz1 xz2 n12 (by simp [NoUL]) (by simp [NoUL])
  have H171 := zH (show Hp w w170 [.blk X80 44 [.int .i64 p.1, .int .i64 p.2], .blk X99 44 [.int .i64 p.1, .int .i64 p.2], .blk X103 45 [.slice (some ⟨X99, 0, none⟩) 1 1], .blk X168 27 rz, .blk Y169 27 rz] from hh)
  have S173 := zH (show Ext w116 w170 from zb.trans hx)
  have G174 := zH (show w116.heap.size ≤ X168 from Nat.le_trans zb.size xz1)
  have G175 := zH (show w116.heap.size ≤ Y169 from Nat.le_trans zb.size xz2)
  obtain ⟨c_, rfl, hc_⟩ := xp1
  obtain ⟨r166, rfl, hr_⟩ := hc_
  have R166 := zH hr_
  have B166 := zH (rl_i64 p.1 (by have ob0 := OP.out.1.1; have ob1 := OP.out.1.2; have ob2 := OP.out.2.1; have ob3 := OP.out.2.2; omega) (by have ob0 := OP.out.1.1; have ob1 := OP.out.1.2; have ob2 := OP.out.2.1; have ob3 := OP.out.2.2; omega))
  clear hr_
  obtain ⟨c_, rfl, hc_⟩ := xp2
  obtain ⟨r167, rfl, hr_⟩ := hc_
  have R167 := zH hr_
  have B167 := zH (rl_i64 p.2 (by have ob0 := OP.out.1.1; have ob1 := OP.out.1.2; have ob2 := OP.out.2.1; have ob3 := OP.out.2.2; omega) (by have ob0 := OP.out.1.1; have ob1 := OP.out.1.2; have ob2 := OP.out.2.1; have ob3 := OP.out.2.2; omega))
  clear hr_
  clear hh hx hSw xb1 xb2 xz1 xz2 n12
  (try simp only [zA, zB, zC])
  refine md_st (i := 8) (listed' := (bs 10 511)) (by rfl) (by kernel_rfl) (by rfl) (by kernel_rfl) _ _ _ (by rfl) H171.out (ix := 3) (by rfl) 0 [.bool r166.n, .slice r166.p r166.l r166.c, .bool r166.m, .slice r166.p2 r166.l2 r166.c2] (by rfl) (by rfl) (by simp) (by kernel_rfl) (by simp [Value.oneCell']) (by simp [NoUL]) ?_
  intro w176 hh hd ho
  have H177 := zH (show Hp w w176 [.blk X80 44 [.int .i64 p.1, .int .i64 p.2], .blk X99 44 [.int .i64 p.1, .int .i64 p.2], .blk X103 45 [.slice (some ⟨X99, 0, none⟩) 1 1], .blk X168 27 (rc r166), .blk Y169 27 rz] from hh)
  have D177 := zH (hd)
  have S179 := zH (show Ext w116 w176 from Own.ext ho S173.out G174.out)
  clear hh hd ho
  refine ⟨S179.out, ?_⟩
  (try simp only [Act.put])
  refine md_st (i := 9) (listed' := (bs 10 1023)) (by rfl) (by kernel_rfl) (by rfl) (by kernel_rfl) _ _ _ (by rfl) H177.out (ix := 4) (by rfl) 0 [.bool r167.n, .slice r167.p r167.l r167.c, .bool r167.m, .slice r167.p2 r167.l2 r167.c2] (by rfl) (by rfl) (by simp) (by kernel_rfl) (by simp [Value.oneCell']) (by simp [NoUL]) ?_
  intro w180 hh hd ho
  have H181 := zH (show Hp w w180 [.blk X80 44 [.int .i64 p.1, .int .i64 p.2], .blk X99 44 [.int .i64 p.1, .int .i64 p.2], .blk X103 45 [.slice (some ⟨X99, 0, none⟩) 1 1], .blk X168 27 (rc r166), .blk Y169 27 (rc r167)] from hh)
  have D181 := zH (hd)
  have S183 := zH (show Ext w116 w180 from Own.ext ho S179.out G175.out)
  clear hh hd ho
  refine ⟨S183.out, ?_⟩
  (try simp only [Act.put])
  refine wpAnyH_done (by kernel_rfl) ?_ _
  go_upto_region 14 with fail
  refine wp_region_lit ?_
  refine qV (.slice A rs.length cap) ?_
  refine zd Y169 (0) (rc r167) (H181.out.range (i := 4) (by rfl) 0 4) Tryz.underlying27 ?_
  have DD187 := zH ((D177.out.trans D181.out))
  refine zc (crossings_any 20 (.slice A rs.length cap) rs r167 (((p.2) : Int) : Rat) _ (HU.out.ext H181.out.ext) (RV.Is.isIn (L := 20) (R167.out.dig DD187.out) (Nat.le_trans B167.out (by decide))) (by decide) (by decide) HN.out HR.out) ?_
  rintro e w185 ⟨A1186, c1186, A2186, c2186, n_, ms186, rfl, rfl, hr1_, hr2_, hok_, hcv_, hx⟩
  have HVC186 := zH hcv_
  have HOC186 := zH hok_
  obtain ⟨Ax_, cx_, hv_, hA_⟩ := RowN.form hr1_
  obtain rfl : A1186 = Ax_ := by injection hv_
  have HXA186 := zH hA_
  clear hv_ hA_ hcv_ hok_
  obtain ⟨Ay_, cy_, hv_, hA_⟩ := RowN.form hr2_
  obtain rfl : A2186 = Ay_ := by injection hv_
  have HWA186 := zH hA_
  clear hv_ hA_
  have H188 := zH (show Hp w w185 [.blk X80 44 [.int .i64 p.1, .int .i64 p.2], .blk X99 44 [.int .i64 p.1, .int .i64 p.2], .blk X103 45 [.slice (some ⟨X99, 0, none⟩) 1 1], .blk X168 27 (rc r166), .blk Y169 27 (rc r167), ro 27 4 A1186 ms186.length c1186 MkE.cx ms186, ro 3 1 A2186 ms186.length c2186 MkE.cu ms186] from H181.out.addRow2 hx hr1_ hr2_ (by decide))
  have D188 := zH (Dig.of_ext hx)
  clear hr1_ hr2_
  have HML186 := zH (show ms186.length ≤ 4096 by have h_ := marksV_len (((p.2) : Int) : Rat) rs; rw [← HVC186.out, List.length_map] at h_; exact h_)
  clear hx
  refine zn ?_
  refine qV (.tuple #[.slice A1186 ms186.length c1186, .slice A2186 ms186.length c2186]) ?_
  refine zq (.slice A1186 ms186.length c1186) ?_
  refine qV (.slice A2186 ms186.length c2186) ?_
  refine zq (.slice A1186 ms186.length c1186) ?_
  refine zq (.slice A2186 ms186.length c2186) ?_
  go_upto_region 15 with fail
  refine wp_region_lit ?_
  refine qV (.slice A1186 ms186.length c1186) ?_
  refine zq (.int .i64 ((ms186.length : Nat) : Int)) ?_
  refine zq (.int .i64 0) ?_
  go_wp2_with fail
  go_loopg [71] (ms186.length) (fun cq v198 wr => ∃ (j : Nat), cq = ms186.length - j ∧ v198 = .int .i64 (j : Int) ∧ (j ≤ ms186.length) ∧ (∀ a, a ∈ (List.map MkE.vl ms186).take j → a.1 ≠ (((p.1) : Int) : Rat)) ∧ Hp w wr [.blk X80 44 [.int .i64 p.1, .int .i64 p.2], .blk X99 44 [.int .i64 p.1, .int .i64 p.2], .blk X103 45 [.slice (some ⟨X99, 0, none⟩) 1 1], .blk X168 27 [.bool r166.n, .slice r166.p r166.l r166.c, .bool r166.m, .slice r166.p2 r166.l2 r166.c2], .blk Y169 27 [.bool r167.n, .slice r167.p r167.l r167.c, .bool r167.m, .slice r167.p2 r167.l2 r167.c2], .row 27 4 (.slice A1186 ms186.length c1186) (ms186.length) (List.flatMap MkE.cx ms186), .row 3 1 (.slice A2186 ms186.length c2186) (ms186.length) (List.flatMap MkE.cu ms186)] ∧ Dig w185 wr)
  case atStart => exact ⟨0, rfl, rfl, Nat.zero_le _, (by simp), H188.out, Dig.refl _⟩
  case round =>
   obtain ⟨j, rfl, rfl, q_HKJ, q_HX3, hh_, hd_⟩ := hrel
   generalize wr = w199 at *
   have HKJ := zH q_HKJ
   clear q_HKJ
   have HX3 := zH q_HX3
   clear q_HX3
   have H201 := zH hh_
   have D201 := zH hd_
   clear hh_ hd_ H188
   by_cases c202 : j < ms186.length
   ·have HLV3 := zH c202
    clear c202
    have hlv := HLV3.out
    have hml : ms186.length ≤ 4096 := HML186.out
    obtain ⟨gxs, rfl⟩ := HXA186.out (by omega)
    obtain ⟨gws, rfl⟩ := HWA186.out (by omega)
    have hlv2 := hlv
    obtain ⟨e, he_⟩ : ∃ e, ms186[j]? = some e := ⟨_, List.getElem?_eq_getElem hlv⟩
    have HEe := zH he_
    have HOe := zH (HOC186.out e (List.mem_of_getElem? he_))
    have RAe := zH HOe.out.1
    have BAe := zH HOe.out.2.1
    have HSe := zH HOe.out.2.2
    clear he_
    go_upto_region 17 with fail
    refine wp_region_lit ?_
    refine qV (.int .i64 (j : Int)) ?_
    refine zq (.int .i64 (j : Int)) ?_
    have HQK := zH (show (List.map MkE.vl ms186)[j]? = some e.vl from by rw [List.getElem?_map, HEe.out]; rfl)
    by_cases c205 : e.q = (((p.1) : Int) : Rat)
    ·have C := zH c205
     clear c205
     go_upto_region 18 with fail
     refine zy ?_
     have H206 := zH (H201.out.step (Ext.refl w199).drew)
     have D206 := zH (Dig.of_ext (w := w199) zb)
     refine zx 0 (bs 7 1) (.slice (some ⟨gxs, 0, none⟩) ms186.length c1186) zb ?_
     refine zx 1 (bs 7 3) (.int .i64 (j : Int)) zb ?_
     refine zo 2 (bs 7 7) (v := .pointer (some ⟨gxs, j * 4, none⟩)) zb ?_ (hv := by intro w hSw; exact ezi (k := j) Tryz.underlying47 (l := hlv) (f := (Nat.zero_add _).symm))
     refine mR 3 (bs 7 15) gxs (j * 4) [.bool e.a.n, .slice e.a.p e.a.l e.a.c, .bool e.a.m, .slice e.a.p2 e.a.l2 e.a.c2] (fun x hx => range_ext (show World.rangeAt w199 gxs (j * 4) [.bool e.a.n, .slice e.a.p e.a.l e.a.c, .bool e.a.m, .slice e.a.p2 e.a.l2 e.a.c2] from (H201.out.elem (f := MkE.cx) (i := 5) (by rfl) MkE.cx_len HEe.out)) hx) Tryz.underlying27 zb ?_
     refine zg 4 (bs 7 31) X168 (0) (rc r166) (H201.out.range (i := 3) (by rfl) 0 4) Tryz.underlying27 zb ?_
     have DD212 := zH ((D201.out.trans D206.out))
     have DD213 := zH (((((D177.out.trans D181.out).trans D188.out).trans D201.out).trans D206.out))
     refine mC 5 (bs 7 63) (q03Cmp (L := 60000) (RV.Is.nin (RAe.out.dig DD212.out) (Nat.le_trans BAe.out (by omega))) (RV.Is.nin (R166.out.dig DD213.out) (Nat.le_trans B166.out (by omega))) (by omega)) ?_
     rintro e w211 ⟨rfl, hx⟩
     have H214 := zH (H206.out.step hx)
     have S216 := zH (show Ext w199 w211 from zb.trans hx)
     clear hx
     refine zm S216.out ?_
     refine zu 6 (bs 7 127) (v := .bool true) S216.out ?_ (hv := by intro w hSw; exact ezq (e := (dec_t (rcmp_eq_i.2 C.out))))
     refine wpAnyH_done (by kernel_rfl) ?_ _
     go_upto_region 19 with fail
     refine wp_region_lit ?_
     refine zc (example_any _) ?_
     rintro e w218 ⟨rfl, hx⟩
     have H219 := zH (H214.out.step hx)
     clear hx
     refine zn ?_
     refine zq (.bool true) ?_
     go_wp2_with fail
     go_ret
     exact ⟨rfl, H219.out.ext⟩
    have C := zH c205
    clear c205
    go_upto_region 18 with fail
    refine zy ?_
    have H222 := zH (H201.out.step (Ext.refl w199).drew)
    have D222 := zH (Dig.of_ext (w := w199) zb)
    refine zx 0 (bs 7 1) (.slice (some ⟨gxs, 0, none⟩) ms186.length c1186) zb ?_
    refine zx 1 (bs 7 3) (.int .i64 (j : Int)) zb ?_
    refine zo 2 (bs 7 7) (v := .pointer (some ⟨gxs, j * 4, none⟩)) zb ?_ (hv := by intro w hSw; exact ezi (k := j) Tryz.underlying47 (l := hlv) (f := (Nat.zero_add _).symm))
    refine mR 3 (bs 7 15) gxs (j * 4) [.bool e.a.n, .slice e.a.p e.a.l e.a.c, .bool e.a.m, .slice e.a.p2 e.a.l2 e.a.c2] (fun x hx => range_ext (show World.rangeAt w199 gxs (j * 4) [.bool e.a.n, .slice e.a.p e.a.l e.a.c, .bool e.a.m, .slice e.a.p2 e.a.l2 e.a.c2] from (H201.out.elem (f := MkE.cx) (i := 5) (by rfl) MkE.cx_len HEe.out)) hx) Tryz.underlying27 zb ?_
    refine zg 4 (bs 7 31) X168 (0) (rc r166) (H201.out.range (i := 3) (by rfl) 0 4) Tryz.underlying27 zb ?_
    have DD228 := zH ((D201.out.trans D222.out))
    have DD229 := zH (((((D177.out.trans D181.out).trans D188.out).trans D201.out).trans D222.out))
    refine mC 5 (bs 7 63) (q03Cmp (L := 60000) (RV.Is.nin (RAe.out.dig DD228.out) (Nat.le_trans BAe.out (by omega))) (RV.Is.nin (R166.out.dig DD229.out) (Nat.le_trans B166.out (by omega))) (by omega)) ?_
    rintro e w227 ⟨rfl, hx⟩
    have H230 := zH (H222.out.step hx)
    have D230 := zH (show Dig w199.drew w227 from Dig.of_ext hx)
    have S232 := zH (show Ext w199 w227 from zb.trans hx)
    clear hx
    refine zm S232.out ?_
    refine zu 6 (bs 7 127) (v := .bool false) S232.out ?_ (hv := by intro w hSw; exact ezq (e := (dec_f (fun hh => C.out (rcmp_eq_i.1 hh)))))
    refine wpAnyH_done (by kernel_rfl) ?_ _
    have DD234 := zH (((D201.out.trans D222.out).trans D230.out))
    go_wp2_with fail
    go_roundg (ms186.length - (j + 1))
    case measure => exact (by omega)
    case rel => exact ⟨j + 1, rfl, (by go_num), hlv, (ne_snoc HQK.out HX3.out C.out), H230.out, DD234.out⟩
   have HLV3 := zH c202
   clear c202
   have hlv := HLV3.out
   have hkj := HKJ.out
   obtain rfl : j = ms186.length := by omega
   have hge3 : ¬ (ms186.length : Int) < (ms186.length : Int) := by omega
   have HNX := zH (show ∀ a, a ∈ marksV (((p.2) : Int) : Rat) rs → a.1 ≠ (((p.1) : Int) : Rat) by have h_ := HX3.out; rw [List.take_of_length_le (by rw [List.length_map]; omega), HVC186.out] at h_; exact h_)
   go_upto_region 21 with fail
   refine zy ?_
   have H235 := zH (H201.out.step (Ext.refl w199).drew)
   have D235 := zH (Dig.of_ext (w := w199) zb)
   refine zx 0 (bs 15 1) (.slice A rs.length cap) zb ?_
   refine mX 1 (bs 15 3) (.int .i64 rule) zb ?_
   refine mR 2 (bs 15 7) Y169 (0) [.bool r167.n, .slice r167.p r167.l r167.c, .bool r167.m, .slice r167.p2 r167.l2 r167.c2] (fun x hx => range_ext (show World.rangeAt w199 Y169 (0) [.bool r167.n, .slice r167.p r167.l r167.c, .bool r167.m, .slice r167.p2 r167.l2 r167.c2] from (H201.out.range (i := 4) (by rfl) 0 4)) hx) Tryz.underlying27 zb ?_
   refine zg 4 (bs 15 23) X168 (0) (rc r166) (H201.out.range (i := 3) (by rfl) 0 4) Tryz.underlying27 zb ?_
   refine zx 6 (bs 15 87) (.slice A rs.length cap) zb ?_
   refine mX 7 (bs 15 215) (.int .i64 rule) zb ?_
   refine zg 8 (bs 15 471) X80 (0) [.int .i64 p.1, .int .i64 p.2] (H201.out.range (i := 0) (by rfl) 0 2) Tryz.underlying44 zb ?_
   have DD243 := zH (((((D177.out.trans D181.out).trans D188.out).trans D201.out).trans D235.out))
   refine mC 3 (bs 15 479) (spans_any 20 (.slice A rs.length cap) rs rule r167 (((p.2) : Int) : Rat) _ (HU.out.ext H235.out.ext) (RV.Is.isIn (L := 20) (R167.out.dig DD243.out) (Nat.le_trans B167.out (by decide))) (by decide) (by decide) HN.out HR.out hru) ?_
   rintro e w241 ⟨v_, es242, rfl, hv1_, hv2_, hv3_, hx⟩
   have VL242 := zH hv2_
   have LN242 := zH hv3_
   have OK242 := zH hv1_.2
   obtain ⟨A242, c242, rfl, hA_⟩ := RowN.form hv1_.1
   have HA242 := zH hA_
   clear hv2_ hv3_ hA_
   have H244 := zH (show Hp w w241 [.blk X80 44 [.int .i64 p.1, .int .i64 p.2], .blk X99 44 [.int .i64 p.1, .int .i64 p.2], .blk X103 45 [.slice (some ⟨X99, 0, none⟩) 1 1], .blk X168 27 (rc r166), .blk Y169 27 (rc r167), ro 27 4 A1186 ms186.length c1186 MkE.cx ms186, ro 3 1 A2186 ms186.length c2186 MkE.cu ms186, ro 39 8 A242 es242.length c242 SpE.cells es242] from H235.out.addRow hx hv1_.1)
   have D244 := zH (show Dig w199.drew w241 from Dig.of_ext hx)
   have S246 := zH (show Ext w199 w241 from zb.trans hx)
   clear hv1_
   clear hx
   refine zm S246.out ?_
   have DD248 := zH ((((((D177.out.trans D181.out).trans D188.out).trans D201.out).trans D235.out).trans D244.out))
   refine mC 5 (bs 15 511) (contains_any 28 (.slice A242 es242.length c242) (List.map SpE.vl es242) _ (((p.1) : Int) : Rat) _ (SpR.reads ⟨H244.out.row (i := 7) (by rfl), OK242.out⟩) (RV.Is.nin (R166.out.dig DD248.out) (Nat.le_trans B166.out (by decide))) (by decide) (by decide) (by rw [List.length_map]; exact Nat.le_trans LN242.out (by decide))) ?_
   rintro e w247 ⟨rfl, hx⟩
   have H249 := zH (H244.out.step hx)
   have S251 := zH (S246.out.trans hx)
   clear hx
   refine ⟨.bool (fillsV (windV p rs) rule), by rw [show inV (List.map SpE.vl es242) (((p.1) : Int) : Rat) = fillsV (windV p rs) rule from (by rw [VL242.out]; unfold inV spansV; rw [mergeV_idem]; exact spans_wind HV.out HNV.out HNX.out)], S251.out, ?_⟩
   try simp only [Act.put, zA, zB, zC]
   refine mC 9 (bs 15 1023) (pcontains_any (.slice A rs.length cap) rs rule p _ (HU.out.ext H249.out.ext) HV.out hvp HN.out HR.out hru) ?_
   rintro e w252 ⟨rfl, hx⟩
   have H253 := zH (H249.out.step hx)
   have S255 := zH (S251.out.trans hx)
   clear hx
   refine zm S255.out ?_
   refine zu 10 (bs 15 2047) (v := .bool true) S255.out ?_ (hv := by intro w hSw; go_simp)
   refine zx 11 (bs 15 4095) (.bool true) S255.out ?_
   refine mC 12 (bs 15 8191) (example_any _) ?_
   rintro e w258 ⟨rfl, hx⟩
   have H259 := zH (H253.out.step hx)
   have S261 := zH (S255.out.trans hx)
   clear hx
   refine zm S261.out ?_
   refine zx 13 (bs 15 16383) (.bool true) S261.out ?_
   refine zx 14 (bs 15 32767) (.bool true) S261.out ?_
   refine wpAnyH_done (by kernel_rfl) ?_ _
   go_wp2_with fail
   go_ret
   exact ⟨rfl, H259.out.ext⟩

theorem walk (A : Option Addr) (rs : List Ring) (cap : Nat) (rule : Int) (p : Int × Int) (w : World) (hv : RingsV w (.slice A rs.length cap) rs ∧ ∀ r, r ∈ rs → r.length ≤ maxLen) (hm : rs.length ≤ maxLen) (hru : -9223372036854775808 ≤ rule ∧ rule ≤ 9223372036854775807) :
  Calls Tryz.prog 4 #[.slice A rs.length cap, .int .i64 rule, .agg #[.int .i64 p.1, .int .i64 p.2]] w fun e w' => e = .returned (.bool true) ∧ Ext w w' := by
 have hs := fun W (x : Ext w W) => smallPolygons_any (.slice A rs.length cap) rs W (hv.1.ext x) hm
 cases h0 : smPoly rs with
 | false => rw [h0] at hs; exact walkF0 A rs cap rule p w hs
 | true =>
  rw [h0] at hs
  obtain ⟨h2, h3⟩ := smPoly_small h0
  cases h1 : okR rs with
  | false => exact walkF1 A rs cap rule p w hs hv.1 h2 h3 h1
  | true =>
   cases h4 : okPt p.1 p.2 with
   | false => exact walkF2 A rs cap rule p w hs hv.1 h2 h3 h1 h4
   | true => exact walkT A rs cap rule p w hs hv.1 h2 h3 hru h1 h4
set_option maxRecDepth 100000 in
theorem lifted (os : Os) (started : os.Started) (H : Type) (enc : TypeId × Value → H) :
  ReturnsInHanded {} Tryz.checked os 4 .any (Rows.scanlineMatchesWindingSpec.pre6 enc Tryz.prog Tryz.f4 Rows.scanlineMatchesWindingRow.domain false) (Rows.scanlineMatchesWindingSpec.post enc Tryz.prog Tryz.f4 false true false false) := by
 refine returnsInHanded_of_change (C := Tryz.checked) own started (by kernel_rfl) Tryz.func4
  (ChangeSpec.witness6 (enc := enc) (C := Tryz.checked) false ⟨#[], #[.slice none 0 0, .int .i64 0, .agg #[.int .i64 0, .int .i64 0]], []⟩ 8 (by kernel_rfl) (by kernel_rfl) (by kernel_rfl) (by kernel_rfl)) ?_
 intro W base args ds gs before hval0 hW hcnd _
 have hval : ∀ (j : Nat) t v, Tryz.f4.params[j]? = some t → args[j]? = some v → Value.okWide Tryz.prog W .any base t v := hval0
 have hW' := hW
 obtain ⟨p, q, hA0, hV, rfl, hfz, hnd⟩ := hW
 have hA : DataW.TrodAll enc Tryz.prog W 0 (fun _ => true) true Tryz.f4.params.toList args.toList ds p := hA0
 rw [Tryz.params4] at hA hval
 obtain ⟨v0, vs0, d0, ds0, p0, q0, hargs, rfl, rfl, h0, r0⟩ := trodAll_cons hA
 obtain ⟨v1, vs1, d1, ds1, p1, q1, rfl, rfl, rfl, h1, r1⟩ := trodAll_cons r0
 obtain ⟨v2, vs2, d2, ds2, p2, q2, rfl, rfl, rfl, h2, r2⟩ := trodAll_cons r1
 obtain ⟨rfl, rfl, rfl⟩ := trodAll_nil r2
 obtain rfl : args = #[v0, v1, v2] := by cases args; simp_all
 obtain ⟨rfl, rfl⟩ := trodVars_none hV
 have k0 := h0
 have lt0 : ∀ x ∈ p0, x.block < W.heap.size := by obtain ⟨m, hm⟩ := k0; exact DataW.trod_lt m _ _ _ hm
 obtain ⟨yA, zl0, yc, rfl⟩ := okWide_slice Tryz.underlying22 (hval 0 22 v0 rfl rfl)
 obtain ⟨zA0, yl, zc0, ze0, g0⟩ := (by obtain ⟨m, hm⟩ := h0; exact rings_openQ hm : ∃ zB zl zc, [Value.slice yA zl0 yc] = [.slice zB (List.length zl) zc] ∧ zl.length ≤ maxLen ∧ RingsV W (.slice zB zl.length zc) zl ∧ ∀ r, r ∈ zl → r.length ≤ maxLen)
 obtain ⟨rfl, rfl, rfl⟩ : yA = zA0 ∧ zl0 = yl.length ∧ yc = zc0 := by simpa using ze0
 obtain ⟨n, rfl, rfl, rfl, w1⟩ := open_int Tryz.underlying3 (hval 1 3 v1 rfl rfl) h1
 have k2 := h2
 have lt2 : ∀ x ∈ p2, x.block < W.heap.size := by obtain ⟨m, hm⟩ := k2; exact DataW.trod_lt m _ _ _ hm
 obtain ⟨⟨l2⟩, rfl, _⟩ := okWide_structQ Tryz.underlying44 (hval 2 44 v2 rfl rfl)
 obtain ⟨a, rfl⟩ : ∃ a : Int × Int, l2 = [.int .i64 a.1, .int .i64 a.2] := by
  obtain ⟨m, hm⟩ := h2
  exact pt_open hm
 clear hA0 hval0
 refine (walk yA yl yc n a W g0.2 g0.1 (bounds_i64 w1)).mono fun e W' ⟨he, hx⟩ => ?_
 subst he
 have bel := hx.below
 exact ⟨_, rfl, _, _, _, [], _, [], hW', trodAll_mk1 (shut_bool Tryz.underlying4 _), (trodAll_cons_mk (Below.trod laidOut (by kernel_rfl) (of_decide_eq_true (by kernel_rfl)) k0 bel lt0) (trodAll_cons_mk (shut_int Tryz.underlying3 w1) (trodAll_cons_mk (Below.trod laidOut (by kernel_rfl) (of_decide_eq_true (by kernel_rfl)) k2 bel lt2) trodAll_mk0))), rfl, bel.frame _, fun h => by cases h⟩

theorem proved : Rows.ScanlineMatchesWindingSaid :=
  OpenClaim.holds_of_wide 4 Tryz.f4 rfl rfl rfl rfl rfl rfl rfl ⟨rfl, rfl, rfl, rfl, rfl⟩ rfl rfl rfl rfl rfl (by kernel_rfl) Tryz.func4 (by kernel_rfl)
    (of_decide_eq_true (by kernel_rfl)) (by unfold Func.isWrapper; first | (rw [if_pos (by decide +kernel)]; kernel_rfl) | (rw [if_neg (by decide +kernel)]; exact ⟨rfl, rfl⟩))
    (fun os started H enc _ => lifted os started H enc)
#print axioms proved
end Go.Proofs.YtaeeeailoiioaacGreat.matches
