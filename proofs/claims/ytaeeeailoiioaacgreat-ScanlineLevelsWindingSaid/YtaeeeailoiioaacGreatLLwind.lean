/- ScanlineLevelsWinding. -/
import Derived.Test.YtaeeeailoiioaacGreatM7
namespace Go.Proofs.YtaeeeailoiioaacGreat.lwind
open Go.RowKit Go.ChangeShapes Go.WideShapes Go.ChangeAt
attribute [local go_sem ↓] Go.wp_at_zero Go.wp_at_succ run_max_ii run_min_ii
theorem le_sumQ {a : Nat} : ∀ {l : List Nat}, a ∈ l → a ≤ l.sum
  | x :: l, h => by
    rw [List.sum_cons]
    rcases List.mem_cons.1 h with rfl | h
    · omega
    have := le_sumQ h; omega
theorem smPoly_ring {rs : List Ring} (h : smPoly rs = true) : ∀ r, r ∈ rs → r.length ≤ 60 := by
  intro r hr
  have h2 := (smPoly_out h).2
  have h3 : min r.length 1000 ≤ mtot rs := by
    unfold mtot
    exact le_sumQ (List.mem_map.2 ⟨r, hr, rfl⟩)
  omega
theorem smPoly_small {rs : List Ring} (h : smPoly rs = true) : rs.length ≤ 100000 ∧ ∀ r, r ∈ rs → r.length ≤ 100000 := ⟨by have := (smPoly_out h).1; omega, fun r hr => by have := smPoly_ring h r hr; omega⟩
theorem ptRings {w0 w : World} {m : List Ent} {X1 X2 i j : Nat} {p : Int × Int} (h : Hp w0 w m) (h1 : m[i]? = some (.blk X1 44 [.int .i64 p.1, .int .i64 p.2])) (h2 : m[j]? = some (.blk X2 45 [.slice (some ⟨X1, 0, none⟩) 1 1])) : RingsV w (.slice (some ⟨X2, 0, none⟩) 1 1) [[p]] := by
 refine ⟨_, 1, rfl, fun _ => ⟨X2, 0, rfl, fun i r hr => ?_⟩⟩
 have hi : i = 0 := by have := (List.getElem?_eq_some_iff.1 hr).1; simp at this; omega
 subst hi
 have hr2 : r = [p] := by simpa using hr.symm
 subst hr2
 refine ⟨_, 1, h.cell h2 0 rfl, ⟨_, 1, rfl, fun _ => ⟨X1, 0, rfl, fun i hi => ?_⟩⟩⟩
 have hi : i = 0 := by simpa using hi
 subst hi
 exact ⟨h.cell h1 0 rfl, h.cell h1 1 rfl⟩
theorem okR_one (p : Int × Int) : okR [[p]] = okPt p.1 p.2 := by simp [okR, tot, okAll]
theorem ne_snoc {l : List QI} {k : Nat} {e : QI} {x : Rat} (h : l[k]? = some e) (h1 : ∀ a, a ∈ l.take k → a.1 ≠ x) (h2 : e.1 ≠ x) : ∀ a, a ∈ l.take (k + 1) → a.1 ≠ x := by
  rw [take_snoc h]
  intro a ha
  rcases List.mem_append.1 ha with ha | ha
  · exact h1 a ha
  rw [List.mem_singleton.1 ha]; exact h2
theorem pts_snoc {l : Ring} {k : Nat} {e : Int × Int} {y : Int} (h : l[k]? = some e) (h1 : ∀ a, a ∈ l.take k → a.2 ≠ y) (h2 : e.2 ≠ y) : ∀ a, a ∈ l.take (k + 1) → a.2 ≠ y := by
  rw [take_snoc h]
  intro a ha
  rcases List.mem_append.1 ha with ha | ha
  · exact h1 a ha
  rw [List.mem_singleton.1 ha]; exact h2
theorem rings_snoc {l : List Ring} {k : Nat} {r : Ring} {y : Int} (h : l[k]? = some r) (h1 : ∀ z, z ∈ l.take k → ∀ a, a ∈ z → a.2 ≠ y) (h2 : ∀ a, a ∈ r → a.2 ≠ y) : ∀ z, z ∈ l.take (k + 1) → ∀ a, a ∈ z → a.2 ≠ y := by
  rw [take_snoc h]
  intro a ha
  rcases List.mem_append.1 ha with ha | ha
  · exact h1 a ha
  rw [List.mem_singleton.1 ha]; exact h2
set_option maxRecDepth 20000 in
set_option maxHeartbeats 4000000 in
theorem walkF0 (A : Option Addr) (rs : List Ring) (cap : Nat) (p : Int × Int)  (w : World) (hs : ∀ W, Ext w W → Calls Tryz.prog 6 #[.slice A rs.length cap] W fun e w' => e = .returned (.bool false) ∧ Ext W w')  :
  Calls Tryz.prog 5 #[.slice A rs.length cap, .agg #[.int .i64 p.1, .int .i64 p.2]] w fun e w' => e = .returned (.bool true) ∧ Ext w w' := by
 have HS := zH hs
 clear hs
 go_enter Tryz.func5, Tryz.ntmps5
 have H0 := zH (Hp.start w)
 go_upto_region 0 with fail
 refine wp_region_lit ?_
 refine mv_alloc (T := 44) (zs := [.int .i64 p.1, .int .i64 p.2]) (by rfl) (by go_simp) H0.out (by simp [NoUL]) ?_
 intro X264 w265 hh hx hge
 have H266 := zH (show Hp w w265 [.blk X264 44 [.int .i64 p.1, .int .i64 p.2]] from hh)
 clear hh hx hge
 try simp only [Act.put, zA, zB, zC]
 refine zq (.bool false) ?_
 go_upto_region 1 with fail
 refine wp_region_lit ?_
 refine qV (.slice A rs.length cap) ?_
 refine zc (HS.out _ H266.out.ext) ?_
 rintro e w271 ⟨rfl, hx⟩
 have H272 := zH (H266.out.step hx)
 clear hx
 refine zn ?_
 refine qV (.bool true) ?_
 refine zq (.bool true) ?_
 refine zk ?_
 refine zk ?_
 refine zk ?_
 refine qV (.bool true) ?_
 refine zq (.bool true) ?_
 refine zk ?_
 refine zk ?_
 refine zk ?_
 refine zk ?_
 refine zk ?_
 refine zq (.bool true) ?_
 go_upto_region 2 with fail
 refine wp_region_lit ?_
 refine zc (example_any _) ?_
 rintro e w279 ⟨rfl, hx⟩
 have H280 := zH (H272.out.step hx)
 clear hx
 refine zn ?_
 refine zq (.bool true) ?_
 go_wp2_with fail
 go_ret
 exact ⟨rfl, H280.out.ext⟩
set_option maxRecDepth 20000 in
set_option maxHeartbeats 4000000 in
theorem walkF1 (A : Option Addr) (rs : List Ring) (cap : Nat) (p : Int × Int)  (w : World) (hs : ∀ W, Ext w W → Calls Tryz.prog 6 #[.slice A rs.length cap] W fun e w' => e = .returned (.bool true) ∧ Ext W w') (hu : RingsV w (.slice A rs.length cap) rs) (hn : rs.length ≤ 100000) (hr : ∀ r, r ∈ rs → r.length ≤ 100000) (hv : okR rs = false) :
  Calls Tryz.prog 5 #[.slice A rs.length cap, .agg #[.int .i64 p.1, .int .i64 p.2]] w fun e w' => e = .returned (.bool true) ∧ Ext w w' := by
 have HS := zH hs
 clear hs
 have HU := zH hu
 have HN := zH hn
 have HR := zH hr
 have HV := zH hv
 clear hv
 go_enter Tryz.func5, Tryz.ntmps5
 have H0 := zH (Hp.start w)
 go_upto_region 0 with fail
 refine wp_region_lit ?_
 refine mv_alloc (T := 44) (zs := [.int .i64 p.1, .int .i64 p.2]) (by rfl) (by go_simp) H0.out (by simp [NoUL]) ?_
 intro X283 w284 hh hx hge
 have H285 := zH (show Hp w w284 [.blk X283 44 [.int .i64 p.1, .int .i64 p.2]] from hh)
 clear hh hx hge
 try simp only [Act.put, zA, zB, zC]
 refine zq (.bool false) ?_
 go_upto_region 1 with fail
 refine wp_region_lit ?_
 refine qV (.slice A rs.length cap) ?_
 refine zc (HS.out _ H285.out.ext) ?_
 rintro e w290 ⟨rfl, hx⟩
 have H291 := zH (H285.out.step hx)
 clear hx
 refine zn ?_
 refine qV (.bool false) ?_
 refine zq (.bool false) ?_
 refine qV (.slice A rs.length cap) ?_
 refine zc (r16Valid_any (.slice A rs.length cap) rs _ (HU.out.ext H291.out.ext) HN.out HR.out) ?_
 rintro e w296 ⟨rfl, hx⟩
 have H297 := zH (H291.out.step hx)
 clear hx
 refine ⟨.bool false, by rw [HV.out], ?_⟩
 try simp only [Act.put, zA, zB, zC]
 refine qV (.bool true) ?_
 refine zq (.bool true) ?_
 refine zq (.bool true) ?_
 refine zk ?_
 refine zk ?_
 refine zk ?_
 refine zk ?_
 refine zk ?_
 refine zq (.bool true) ?_
 go_upto_region 2 with fail
 refine wp_region_lit ?_
 refine zc (example_any _) ?_
 rintro e w303 ⟨rfl, hx⟩
 have H304 := zH (H297.out.step hx)
 clear hx
 refine zn ?_
 refine zq (.bool true) ?_
 go_wp2_with fail
 go_ret
 exact ⟨rfl, H304.out.ext⟩
set_option maxRecDepth 20000 in
set_option maxHeartbeats 4000000 in
theorem walkF2 (A : Option Addr) (rs : List Ring) (cap : Nat) (p : Int × Int)  (w : World) (hs : ∀ W, Ext w W → Calls Tryz.prog 6 #[.slice A rs.length cap] W fun e w' => e = .returned (.bool true) ∧ Ext W w') (hu : RingsV w (.slice A rs.length cap) rs) (hn : rs.length ≤ 100000) (hr : ∀ r, r ∈ rs → r.length ≤ 100000) (hv : okR rs = true) (hvp : okPt p.1 p.2 = false) :
  Calls Tryz.prog 5 #[.slice A rs.length cap, .agg #[.int .i64 p.1, .int .i64 p.2]] w fun e w' => e = .returned (.bool true) ∧ Ext w w' := by
 have HS := zH hs
 clear hs
 have HU := zH hu
 have HN := zH hn
 have HR := zH hr
 have HV := zH hv
 clear hv
 have HVP := zH hvp
 go_enter Tryz.func5, Tryz.ntmps5
 have H0 := zH (Hp.start w)
 go_upto_region 0 with fail
 refine wp_region_lit ?_
 refine mv_alloc (T := 44) (zs := [.int .i64 p.1, .int .i64 p.2]) (by rfl) (by go_simp) H0.out (by simp [NoUL]) ?_
 intro X307 w308 hh hx hge
 have H309 := zH (show Hp w w308 [.blk X307 44 [.int .i64 p.1, .int .i64 p.2]] from hh)
 clear hh hx hge
 try simp only [Act.put, zA, zB, zC]
 refine zq (.bool false) ?_
 go_upto_region 1 with fail
 refine wp_region_lit ?_
 refine qV (.slice A rs.length cap) ?_
 refine zc (HS.out _ H309.out.ext) ?_
 rintro e w314 ⟨rfl, hx⟩
 have H315 := zH (H309.out.step hx)
 clear hx
 refine zn ?_
 refine qV (.bool false) ?_
 refine zq (.bool false) ?_
 refine qV (.slice A rs.length cap) ?_
 refine zc (r16Valid_any (.slice A rs.length cap) rs _ (HU.out.ext H315.out.ext) HN.out HR.out) ?_
 rintro e w320 ⟨rfl, hx⟩
 have H321 := zH (H315.out.step hx)
 clear hx
 refine ⟨.bool true, by rw [HV.out], ?_⟩
 try simp only [Act.put, zA, zB, zC]
 refine qV (.bool false) ?_
 refine zq (.bool false) ?_
 refine qV (.bool false) ?_
 refine zd X307 (0) [.int .i64 p.1, .int .i64 p.2] (H321.out.range (i := 0) (by rfl) 0 2) Tryz.underlying44 ?_
 refine mv_lit (T := 44) (zs := [.int .i64 p.1, .int .i64 p.2]) (n := 1) (by rfl) (by go_simp) H321.out (by simp [NoUL]) ?_
 intro X326 w327 hh hx hge
 have H328 := zH (show Hp w w327 [.blk X307 44 [.int .i64 p.1, .int .i64 p.2], .blk X326 44 [.int .i64 p.1, .int .i64 p.2]] from hh)
 clear hh hx hge
 try simp only [Act.put, zA, zB, zC]
 refine mv_lit (T := 45) (zs := [.slice (some ⟨X326, 0, none⟩) 1 1]) (n := 1) (by rfl) (by go_simp) H328.out (by simp [NoUL]) ?_
 intro X330 w331 hh hx hge
 have H332 := zH (show Hp w w331 [.blk X307 44 [.int .i64 p.1, .int .i64 p.2], .blk X326 44 [.int .i64 p.1, .int .i64 p.2], .blk X330 45 [.slice (some ⟨X326, 0, none⟩) 1 1]] from hh)
 clear hh hx hge
 try simp only [Act.put, zA, zB, zC]
 refine zc (r16Valid_any (.slice (some ⟨X330, 0, none⟩) 1 1) [[p]] _ (ptRings H332.out (i := 1) (j := 2) (by rfl) (by rfl)) (by simp) (by simp)) ?_
 rintro e w334 ⟨rfl, hx⟩
 have H335 := zH (H332.out.step hx)
 clear hx
 refine ⟨.bool false, by rw [okR_one, HVP.out], ?_⟩
 try simp only [Act.put, zA, zB, zC]
 refine qV (.bool true) ?_
 refine zq (.bool true) ?_
 go_upto_region 2 with fail
 refine wp_region_lit ?_
 refine zc (example_any _) ?_
 rintro e w339 ⟨rfl, hx⟩
 have H340 := zH (H335.out.step hx)
 clear hx
 refine zn ?_
 refine zq (.bool true) ?_
 go_wp2_with fail
 go_ret
 exact ⟨rfl, H340.out.ext⟩
set_option maxRecDepth 20000 in
set_option maxHeartbeats 4000000 in
theorem walkT (A : Option Addr) (rs : List Ring) (cap : Nat) (p : Int × Int)  (w : World) (hs : ∀ W, Ext w W → Calls Tryz.prog 6 #[.slice A rs.length cap] W fun e w' => e = .returned (.bool true) ∧ Ext W w') (hu : RingsV w (.slice A rs.length cap) rs) (hn : rs.length ≤ 100000) (hr : ∀ r, r ∈ rs → r.length ≤ 100000) (hv : okR rs = true) (hvp : okPt p.1 p.2 = true) :
  Calls Tryz.prog 5 #[.slice A rs.length cap, .agg #[.int .i64 p.1, .int .i64 p.2]] w fun e w' => e = .returned (.bool true) ∧ Ext w w' := by
 have HS := zH hs
 clear hs
 have HU := zH hu
 have HN := zH hn
 have HR := zH hr
 have HV := zH hv
 clear hv
 have HVP := zH hvp
 obtain ⟨A_, cu_, hvq_, hA⟩ := hu
 injection hvq_ with e1_ e2_ e3_
 subst e1_ e3_
 clear e2_
 have HA := zH hA
 have op_ := okPt_out hvp
 have OP := zH op_
 clear hA op_ hr
 go_enter Tryz.func5, Tryz.ntmps5
 have H0 := zH (Hp.start w)
 go_upto_region 0 with fail
 refine wp_region_lit ?_
 refine mv_alloc (T := 44) (zs := [.int .i64 p.1, .int .i64 p.2]) (by rfl) (by go_simp) H0.out (by simp [NoUL]) ?_
 intro X343 w344 hh hx hge
 have H345 := zH (show Hp w w344 [.blk X343 44 [.int .i64 p.1, .int .i64 p.2]] from hh)
 clear hh hx hge
 try simp only [Act.put, zA, zB, zC]
 refine zq (.bool false) ?_
 go_upto_region 1 with fail
 refine wp_region_lit ?_
 refine qV (.slice A rs.length cap) ?_
 refine zc (HS.out _ H345.out.ext) ?_
 rintro e w350 ⟨rfl, hx⟩
 have H351 := zH (H345.out.step hx)
 clear hx
 refine zn ?_
 refine qV (.bool false) ?_
 refine zq (.bool false) ?_
 refine qV (.slice A rs.length cap) ?_
 refine zc (r16Valid_any (.slice A rs.length cap) rs _ (HU.out.ext H351.out.ext) HN.out HR.out) ?_
 rintro e w356 ⟨rfl, hx⟩
 have H357 := zH (H351.out.step hx)
 clear hx
 refine ⟨.bool true, by rw [HV.out], ?_⟩
 try simp only [Act.put, zA, zB, zC]
 refine qV (.bool false) ?_
 refine zq (.bool false) ?_
 refine qV (.bool false) ?_
 refine zd X343 (0) [.int .i64 p.1, .int .i64 p.2] (H357.out.range (i := 0) (by rfl) 0 2) Tryz.underlying44 ?_
 refine mv_lit (T := 44) (zs := [.int .i64 p.1, .int .i64 p.2]) (n := 1) (by rfl) (by go_simp) H357.out (by simp [NoUL]) ?_
 intro X362 w363 hh hx hge
 have H364 := zH (show Hp w w363 [.blk X343 44 [.int .i64 p.1, .int .i64 p.2], .blk X362 44 [.int .i64 p.1, .int .i64 p.2]] from hh)
 clear hh hx hge
 try simp only [Act.put, zA, zB, zC]
 refine mv_lit (T := 45) (zs := [.slice (some ⟨X362, 0, none⟩) 1 1]) (n := 1) (by rfl) (by go_simp) H364.out (by simp [NoUL]) ?_
 intro X366 w367 hh hx hge
 have H368 := zH (show Hp w w367 [.blk X343 44 [.int .i64 p.1, .int .i64 p.2], .blk X362 44 [.int .i64 p.1, .int .i64 p.2], .blk X366 45 [.slice (some ⟨X362, 0, none⟩) 1 1]] from hh)
 clear hh hx hge
 try simp only [Act.put, zA, zB, zC]
 refine zc (r16Valid_any (.slice (some ⟨X366, 0, none⟩) 1 1) [[p]] _ (ptRings H368.out (i := 1) (j := 2) (by rfl) (by rfl)) (by simp) (by simp)) ?_
 rintro e w370 ⟨rfl, hx⟩
 have H371 := zH (H368.out.step hx)
 clear hx
 refine ⟨.bool true, by rw [okR_one, HVP.out], ?_⟩
 try simp only [Act.put, zA, zB, zC]
 refine qV (.bool false) ?_
 refine zq (.bool false) ?_
 go_upto_region 3 with fail
 refine wp_region_lit ?_
 refine qV (.slice A rs.length cap) ?_
 refine zq (.int .i64 ((rs.length : Nat) : Int)) ?_
 refine zq (.int .i64 0) ?_
 go_wp2_with fail
 go_loopg [33] (rs.length) (fun cq v378 wr => ∃ (i : Nat), cq = rs.length - i ∧ v378 = .int .i64 (i : Int) ∧ (i ≤ rs.length) ∧ (∀ r, r ∈ rs.take i → ∀ a, a ∈ r → a.2 ≠ p.2) ∧ Hp w wr [.blk X343 44 [.int .i64 p.1, .int .i64 p.2], .blk X362 44 [.int .i64 p.1, .int .i64 p.2], .blk X366 45 [.slice (some ⟨X362, 0, none⟩) 1 1]] ∧ Dig w370 wr)
 case atStart => exact ⟨0, rfl, rfl, Nat.zero_le _, (by simp), H371.out, Dig.refl _⟩
 case round =>
  obtain ⟨i, rfl, rfl, q_HKI, q_HP1, hh_, hd_⟩ := hrel
  generalize wr = w379 at *
  have HKI := zH q_HKI
  clear q_HKI
  have HP1 := zH q_HP1
  clear q_HP1
  have H381 := zH hh_
  have D381 := zH hd_
  clear hh_ hd_ H371
  by_cases c382 : i < rs.length
  ·have HLT := zH c382
   clear c382
   have hlt := HLT.out
   have hlt2 : (i : Int) < (rs.length : Int) := by omega
   obtain ⟨r, hri_⟩ : ∃ r, rs[i]? = some r := ⟨_, List.getElem?_eq_getElem hlt⟩
   have HRI := zH hri_
   have hrl := HR.out r (List.mem_of_getElem? hri_)
   obtain ⟨g, off, rfl, hp_⟩ := HA.out (by omega)
   obtain ⟨B, cb, h1_, A2_, cb2_, hv_, h2_⟩ := hp_ i r hri_
   injection hv_ with e1_ e2_ e3_
   subst e1_
   have HRC := zH h1_
   have HPT := zH h2_
   clear hri_ hp_ h1_ h2_ e2_ e3_
   go_upto_region 5 with fail
   refine wp_region_lit ?_
   refine qV (.int .i64 (i : Int)) ?_
   refine zq (.int .i64 (i : Int)) ?_
   go_upto_region 6 with fail
   refine wp_region_lit ?_
   refine qV (.slice (some ⟨g, off, none⟩) rs.length cap) ?_
   refine zq (.int .i64 (i : Int)) ?_
   refine zp (w' := w379) (.pointer (some ⟨g, off + i, none⟩)) (by exact ezi (k := i) Tryz.underlying22 (l := hlt) (f := (show off + i = off + i * 1 by omega))) ?_
   refine ze g (off + i) (.slice B r.length cb) (range_one (H381.out.ext.get HRC.out)) ?_
   refine qV (.int .i64 ((r.length : Nat) : Int)) ?_
   refine zq (.int .i64 0) ?_
   go_wp2_with fail
   go_loopg [41] (r.length) (fun cq v390 wr => ∃ (k : Nat), cq = r.length - k ∧ v390 = .int .i64 (k : Int) ∧ (k ≤ r.length) ∧ (∀ a, a ∈ r.take k → a.2 ≠ p.2) ∧ Hp w wr [.blk X343 44 [.int .i64 p.1, .int .i64 p.2], .blk X362 44 [.int .i64 p.1, .int .i64 p.2], .blk X366 45 [.slice (some ⟨X362, 0, none⟩) 1 1]] ∧ Dig w379 wr)
   case atStart => exact ⟨0, rfl, rfl, Nat.zero_le _, (by simp), H381.out, Dig.refl _⟩
   case round =>
    obtain ⟨k, rfl, rfl, q_HKU, q_HP2, hh_, hd_⟩ := hrel
    generalize wr = w391 at *
    have HKU := zH q_HKU
    clear q_HKU
    have HP2 := zH q_HP2
    clear q_HP2
    have H393 := zH hh_
    have D393 := zH hd_
    clear hh_ hd_ H381
    by_cases c394 : k < r.length
    ·have HLU := zH c394
     clear c394
     have hlu := HLU.out
     have hlu2 : (k : Int) < (r.length : Int) := by omega
     obtain ⟨gr, ofr, rfl, hpa_⟩ := HPT.out (by intro h_; rw [h_] at hlu; simp at hlu)
     have HPA := zH hpa_
     clear hpa_
     obtain ⟨⟨a0, a1⟩, ha_⟩ : ∃ a, r[k]? = some a := ⟨_, List.getElem?_eq_getElem hlu⟩
     have HAK := zH ha_
     have HPK := zH (range_pt HPA.out ha_)
     clear ha_
     dsimp only at HPK
     go_upto_region 8 with fail
     refine wp_region_lit ?_
     refine qV (.int .i64 (k : Int)) ?_
     refine zq (.int .i64 (k : Int)) ?_
     by_cases c397 : a1 = p.2
     ·have C := zH c397
      clear c397
      go_upto_region 9 with fail
      refine zy ?_
      have H398 := zH (H393.out.step (Ext.refl w391).drew)
      refine zx 0 (bs 11 1) (.slice (some ⟨g, off, none⟩) rs.length cap) zb ?_
      refine zx 1 (bs 11 3) (.int .i64 (i : Int)) zb ?_
      refine zu 2 (bs 11 7) (v := .pointer (some ⟨g, off + i, none⟩)) zb ?_ (hv := by intro w hSw; exact ezi (k := i) Tryz.underlying22 (l := hlt) (f := (show off + i = off + i * 1 by omega)))
      refine zf 3 (bs 11 15) g (off + i) (.slice (some ⟨gr, ofr, none⟩) r.length cb) (range_one (H393.out.ext.get HRC.out)) zb ?_
      refine zx 4 (bs 11 31) (.int .i64 (k : Int)) zb ?_
      refine zu 5 (bs 11 63) (v := .pointer (some ⟨gr, ofr + k * 2, none⟩)) zb ?_ (hv := by intro w hSw; exact ezi (k := k) Tryz.underlying45 (l := hlu) (f := rfl))
      refine zx 6 (bs 11 127) (.pointer (some ⟨gr, ofr + k * 2 + 1, none⟩)) zb ?_
      refine zf 7 (bs 11 255) gr (ofr + k * 2 + 1) (.int .i64 a1) (range_part (range_ext HPK.out H393.out.ext) 1 1) zb ?_
      refine zx 8 (bs 11 511) (.pointer (some ⟨X343, 1, none⟩)) zb ?_
      refine zf 9 (bs 11 1023) X343 1 (.int .i64 p.2) (H393.out.range (i := 0) (by rfl) 1 1) zb ?_
      refine zu 10 (bs 11 2047) (v := .bool true) zb ?_ (hv := by intro w hSw; exact ezq (e := (dec_t C.out)))
      refine wpAnyH_done (by kernel_rfl) ?_ _
      go_upto_region 10 with fail
      refine wp_region_lit ?_
      refine zc (example_any _) ?_
      rintro e w408 ⟨rfl, hx⟩
      have H409 := zH (H398.out.step hx)
      clear hx
      refine zn ?_
      refine zq (.bool true) ?_
      go_wp2_with fail
      go_ret
      exact ⟨rfl, H409.out.ext⟩
     have C := zH c397
     clear c397
     go_upto_region 9 with fail
     refine zy ?_
     have H412 := zH (H393.out.step (Ext.refl w391).drew)
     have D412 := zH (Dig.of_ext (w := w391) zb)
     refine zx 0 (bs 11 1) (.slice (some ⟨g, off, none⟩) rs.length cap) zb ?_
     refine zx 1 (bs 11 3) (.int .i64 (i : Int)) zb ?_
     refine zu 2 (bs 11 7) (v := .pointer (some ⟨g, off + i, none⟩)) zb ?_ (hv := by intro w hSw; exact ezi (k := i) Tryz.underlying22 (l := hlt) (f := (show off + i = off + i * 1 by omega)))
     refine zf 3 (bs 11 15) g (off + i) (.slice (some ⟨gr, ofr, none⟩) r.length cb) (range_one (H393.out.ext.get HRC.out)) zb ?_
     refine zx 4 (bs 11 31) (.int .i64 (k : Int)) zb ?_
     refine zu 5 (bs 11 63) (v := .pointer (some ⟨gr, ofr + k * 2, none⟩)) zb ?_ (hv := by intro w hSw; exact ezi (k := k) Tryz.underlying45 (l := hlu) (f := rfl))
     refine zx 6 (bs 11 127) (.pointer (some ⟨gr, ofr + k * 2 + 1, none⟩)) zb ?_
     refine zf 7 (bs 11 255) gr (ofr + k * 2 + 1) (.int .i64 a1) (range_part (range_ext HPK.out H393.out.ext) 1 1) zb ?_
     refine zx 8 (bs 11 511) (.pointer (some ⟨X343, 1, none⟩)) zb ?_
     refine zf 9 (bs 11 1023) X343 1 (.int .i64 p.2) (H393.out.range (i := 0) (by rfl) 1 1) zb ?_
     refine zu 10 (bs 11 2047) (v := .bool false) zb ?_ (hv := by intro w hSw; exact ezq (e := (dec_f C.out)))
     refine wpAnyH_done (by kernel_rfl) ?_ _
     have DD422 := zH ((D393.out.trans D412.out))
     go_wp2_with fail
     go_roundg (r.length - (k + 1))
     case measure => exact (by omega)
     case rel => exact ⟨k + 1, rfl, (by go_num), hlu, (pts_snoc HAK.out HP2.out C.out), H412.out, DD422.out⟩
    have HLU := zH c394
    clear c394
    have hlu := HLU.out
    have hku := HKU.out
    obtain rfl : k = r.length := by omega
    have hge2 : ¬ (r.length : Int) < (r.length : Int) := by omega
    have DD423 := zH ((D381.out.trans D393.out))
    go_wp2_with fail
    go_roundg (rs.length - (i + 1))
    case measure => exact (by omega)
    case rel => exact ⟨i + 1, rfl, (by go_num), hlt, (rings_snoc HRI.out HP1.out (by have h_ := HP2.out; rwa [List.take_length] at h_)), H393.out, DD423.out⟩
  have HLT := zH c382
  clear c382
  have hki := HKI.out
  have hlt := HLT.out
  obtain rfl : i = rs.length := by omega
  have hge : ¬ (rs.length : Int) < (rs.length : Int) := by omega
  have HNV := zH (show ∀ r, r ∈ rs → ∀ v, v ∈ r → v.2 ≠ p.2 by have h_ := HP1.out; rwa [List.take_length] at h_)
  go_upto_region 13 with fail
  refine wp_region_lit ?_
  refine zq (.pointer (some ⟨X343, 0, none⟩)) ?_
  refine ze X343 0 (.int .i64 p.1) (H381.out.range (i := 0) (by rfl) 0 1) ?_
  refine zc (q03From p.1 _ (by have ob0 := OP.out.1.1; have ob1 := OP.out.1.2; have ob2 := OP.out.2.1; have ob3 := OP.out.2.2; omega) (by have ob0 := OP.out.1.1; have ob1 := OP.out.1.2; have ob2 := OP.out.2.1; have ob3 := OP.out.2.2; omega)) ?_
  rintro e w425 ⟨c_, rfl, hc_, hx⟩
  have H427 := zH (H381.out.step hx)
  obtain ⟨r426, rfl, hr_⟩ := hc_
  have R426 := zH hr_
  have B426 := zH (rl_i64 p.1 (by have ob0 := OP.out.1.1; have ob1 := OP.out.1.2; have ob2 := OP.out.2.1; have ob3 := OP.out.2.2; omega) (by have ob0 := OP.out.1.1; have ob1 := OP.out.1.2; have ob2 := OP.out.2.1; have ob3 := OP.out.2.2; omega))
  clear hr_
  clear hx
  refine zn ?_
  refine mv_alloc (T := 27) (zs := [.bool false, .slice none 0 0, .bool false, .slice none 0 0]) (by rfl) (by go_simp) H427.out (by simp [NoUL]) ?_
  intro X429 w430 hh hx hge
  have H431 := zH (show Hp w w430 [.blk X343 44 [.int .i64 p.1, .int .i64 p.2], .blk X362 44 [.int .i64 p.1, .int .i64 p.2], .blk X366 45 [.slice (some ⟨X362, 0, none⟩) 1 1], .blk X429 27 rz] from hh)
  have D431 := zH (Dig.of_ext hx)
  clear hh hx hge
  try simp only [Act.put, zA, zB, zC]
  refine mv_st (by rfl) _ _ _ (by rfl) H431.out (ix := 3) (by rfl) 0 [.bool r426.n, .slice r426.p r426.l r426.c, .bool r426.m, .slice r426.p2 r426.l2 r426.c2] (by rfl) (by rfl) (by simp) (by kernel_rfl) (by simp [Value.oneCell']) (by simp [NoUL]) ?_
  intro w434 hh hd ho
  have H435 := zH (show Hp w w434 [.blk X343 44 [.int .i64 p.1, .int .i64 p.2], .blk X362 44 [.int .i64 p.1, .int .i64 p.2], .blk X366 45 [.slice (some ⟨X362, 0, none⟩) 1 1], .blk X429 27 (rc r426)] from hh)
  have D435 := zH (hd)
  clear hh hd ho
  (try simp only [Act.put])
  go_upto_region 14 with fail
  refine wp_region_lit ?_
  refine qV (.slice A rs.length cap) ?_
  refine zq (.pointer (some ⟨X343, 1, none⟩)) ?_
  refine ze X343 1 (.int .i64 p.2) (H435.out.range (i := 0) (by rfl) 1 1) ?_
  refine zc (q03From p.2 _ (by have ob0 := OP.out.1.1; have ob1 := OP.out.1.2; have ob2 := OP.out.2.1; have ob3 := OP.out.2.2; omega) (by have ob0 := OP.out.1.1; have ob1 := OP.out.1.2; have ob2 := OP.out.2.1; have ob3 := OP.out.2.2; omega)) ?_
  rintro e w439 ⟨c_, rfl, hc_, hx⟩
  have H441 := zH (H435.out.step hx)
  have D441 := zH (Dig.of_ext hx)
  obtain ⟨r440, rfl, hr_⟩ := hc_
  have R440 := zH hr_
  have B440 := zH (rl_i64 p.2 (by have ob0 := OP.out.1.1; have ob1 := OP.out.1.2; have ob2 := OP.out.2.1; have ob3 := OP.out.2.2; omega) (by have ob0 := OP.out.1.1; have ob1 := OP.out.1.2; have ob2 := OP.out.2.1; have ob3 := OP.out.2.2; omega))
  clear hr_
  clear hx
  refine zn ?_
  refine zc (crossings_any 20 (.slice A rs.length cap) rs r440 (((p.2) : Int) : Rat) _ (HU.out.ext H441.out.ext) (RV.Is.isIn (L := 20) R440.out (Nat.le_trans B440.out (by decide))) (by decide) (by decide) HN.out HR.out) ?_
  rintro e w443 ⟨A1444, c1444, A2444, c2444, n_, ms444, rfl, rfl, hr1_, hr2_, hok_, hcv_, hx⟩
  have HVC444 := zH hcv_
  have HOC444 := zH hok_
  obtain ⟨Ax_, cx_, hv_, hA_⟩ := RowN.form hr1_
  obtain rfl : A1444 = Ax_ := by injection hv_
  have HXA444 := zH hA_
  clear hv_ hA_ hcv_ hok_
  obtain ⟨Ay_, cy_, hv_, hA_⟩ := RowN.form hr2_
  obtain rfl : A2444 = Ay_ := by injection hv_
  have HWA444 := zH hA_
  clear hv_ hA_
  have H445 := zH (show Hp w w443 [.blk X343 44 [.int .i64 p.1, .int .i64 p.2], .blk X362 44 [.int .i64 p.1, .int .i64 p.2], .blk X366 45 [.slice (some ⟨X362, 0, none⟩) 1 1], .blk X429 27 (rc r426), ro 27 4 A1444 ms444.length c1444 MkE.cx ms444, ro 3 1 A2444 ms444.length c2444 MkE.cu ms444] from H441.out.addRow2 hx hr1_ hr2_ (by decide))
  have D445 := zH (Dig.of_ext hx)
  clear hr1_ hr2_
  have HML444 := zH (show ms444.length ≤ 4096 by have h_ := marksV_len (((p.2) : Int) : Rat) rs; rw [← HVC444.out, List.length_map] at h_; exact h_)
  clear hx
  refine zn ?_
  refine qV (.tuple #[.slice A1444 ms444.length c1444, .slice A2444 ms444.length c2444]) ?_
  refine zq (.slice A1444 ms444.length c1444) ?_
  refine qV (.slice A2444 ms444.length c2444) ?_
  refine zq (.slice A1444 ms444.length c1444) ?_
  refine zq (.slice A2444 ms444.length c2444) ?_
  go_upto_region 15 with fail
  refine wp_region_lit ?_
  refine qV (.slice A1444 ms444.length c1444) ?_
  refine zq (.int .i64 ((ms444.length : Nat) : Int)) ?_
  refine zq (.int .i64 0) ?_
  go_wp2_with fail
  go_loopg [71] (ms444.length) (fun cq v455 wr => ∃ (j : Nat), cq = ms444.length - j ∧ v455 = .int .i64 (j : Int) ∧ (j ≤ ms444.length) ∧ (∀ a, a ∈ (List.map MkE.vl ms444).take j → a.1 ≠ (((p.1) : Int) : Rat)) ∧ Hp w wr [.blk X343 44 [.int .i64 p.1, .int .i64 p.2], .blk X362 44 [.int .i64 p.1, .int .i64 p.2], .blk X366 45 [.slice (some ⟨X362, 0, none⟩) 1 1], .blk X429 27 [.bool r426.n, .slice r426.p r426.l r426.c, .bool r426.m, .slice r426.p2 r426.l2 r426.c2], .row 27 4 (.slice A1444 ms444.length c1444) (ms444.length) (List.flatMap MkE.cx ms444), .row 3 1 (.slice A2444 ms444.length c2444) (ms444.length) (List.flatMap MkE.cu ms444)] ∧ Dig w443 wr)
  case atStart => exact ⟨0, rfl, rfl, Nat.zero_le _, (by simp), H445.out, Dig.refl _⟩
  case round =>
   obtain ⟨j, rfl, rfl, q_HKJ, q_HX3, hh_, hd_⟩ := hrel
   generalize wr = w456 at *
   have HKJ := zH q_HKJ
   clear q_HKJ
   have HX3 := zH q_HX3
   clear q_HX3
   have H458 := zH hh_
   have D458 := zH hd_
   clear hh_ hd_ H445
   by_cases c459 : j < ms444.length
   ·have HLV3 := zH c459
    clear c459
    have hlv := HLV3.out
    have hml : ms444.length ≤ 4096 := HML444.out
    obtain ⟨gxs, rfl⟩ := HXA444.out (by omega)
    obtain ⟨gws, rfl⟩ := HWA444.out (by omega)
    have hlv2 := hlv
    obtain ⟨e, he_⟩ : ∃ e, ms444[j]? = some e := ⟨_, List.getElem?_eq_getElem hlv⟩
    have HEe := zH he_
    have HOe := zH (HOC444.out e (List.mem_of_getElem? he_))
    have RAe := zH HOe.out.1
    have BAe := zH HOe.out.2.1
    have HSe := zH HOe.out.2.2
    clear he_
    go_upto_region 17 with fail
    refine wp_region_lit ?_
    refine qV (.int .i64 (j : Int)) ?_
    refine zq (.int .i64 (j : Int)) ?_
    have HQK := zH (show (List.map MkE.vl ms444)[j]? = some e.vl from by rw [List.getElem?_map, HEe.out]; rfl)
    by_cases c462 : e.q = (((p.1) : Int) : Rat)
    ·have C := zH c462
     clear c462
     go_upto_region 18 with fail
     refine zy ?_
     have H463 := zH (H458.out.step (Ext.refl w456).drew)
     have D463 := zH (Dig.of_ext (w := w456) zb)
     refine zx 0 (bs 7 1) (.slice (some ⟨gxs, 0, none⟩) ms444.length c1444) zb ?_
     refine zx 1 (bs 7 3) (.int .i64 (j : Int)) zb ?_
     refine zo 2 (bs 7 7) (v := .pointer (some ⟨gxs, j * 4, none⟩)) zb ?_ (hv := by intro w hSw; exact ezi (k := j) Tryz.underlying47 (l := hlv) (f := (Nat.zero_add _).symm))
     refine mR 3 (bs 7 15) gxs (j * 4) [.bool e.a.n, .slice e.a.p e.a.l e.a.c, .bool e.a.m, .slice e.a.p2 e.a.l2 e.a.c2] (fun x hx => range_ext (show World.rangeAt w456 gxs (j * 4) [.bool e.a.n, .slice e.a.p e.a.l e.a.c, .bool e.a.m, .slice e.a.p2 e.a.l2 e.a.c2] from (H458.out.elem (f := MkE.cx) (i := 4) (by rfl) MkE.cx_len HEe.out)) hx) Tryz.underlying27 zb ?_
     refine zg 4 (bs 7 31) X429 (0) (rc r426) (H458.out.range (i := 3) (by rfl) 0 4) Tryz.underlying27 zb ?_
     have DD469 := zH ((D458.out.trans D463.out))
     have DD470 := zH ((((((D431.out.trans D435.out).trans D441.out).trans D445.out).trans D458.out).trans D463.out))
     refine mC 5 (bs 7 63) (q03Cmp (L := 60000) (RV.Is.nin (RAe.out.dig DD469.out) (Nat.le_trans BAe.out (by omega))) (RV.Is.nin (R426.out.dig DD470.out) (Nat.le_trans B426.out (by omega))) (by omega)) ?_
     rintro e w468 ⟨rfl, hx⟩
     have H471 := zH (H463.out.step hx)
     have S473 := zH (show Ext w456 w468 from zb.trans hx)
     clear hx
     refine zm S473.out ?_
     refine zu 6 (bs 7 127) (v := .bool true) S473.out ?_ (hv := by intro w hSw; exact ezq (e := (dec_t (rcmp_eq_i.2 C.out))))
     refine wpAnyH_done (by kernel_rfl) ?_ _
     go_upto_region 19 with fail
     refine wp_region_lit ?_
     refine zc (example_any _) ?_
     rintro e w475 ⟨rfl, hx⟩
     have H476 := zH (H471.out.step hx)
     clear hx
     refine zn ?_
     refine zq (.bool true) ?_
     go_wp2_with fail
     go_ret
     exact ⟨rfl, H476.out.ext⟩
    have C := zH c462
    clear c462
    go_upto_region 18 with fail
    refine zy ?_
    have H479 := zH (H458.out.step (Ext.refl w456).drew)
    have D479 := zH (Dig.of_ext (w := w456) zb)
    refine zx 0 (bs 7 1) (.slice (some ⟨gxs, 0, none⟩) ms444.length c1444) zb ?_
    refine zx 1 (bs 7 3) (.int .i64 (j : Int)) zb ?_
    refine zo 2 (bs 7 7) (v := .pointer (some ⟨gxs, j * 4, none⟩)) zb ?_ (hv := by intro w hSw; exact ezi (k := j) Tryz.underlying47 (l := hlv) (f := (Nat.zero_add _).symm))
    refine mR 3 (bs 7 15) gxs (j * 4) [.bool e.a.n, .slice e.a.p e.a.l e.a.c, .bool e.a.m, .slice e.a.p2 e.a.l2 e.a.c2] (fun x hx => range_ext (show World.rangeAt w456 gxs (j * 4) [.bool e.a.n, .slice e.a.p e.a.l e.a.c, .bool e.a.m, .slice e.a.p2 e.a.l2 e.a.c2] from (H458.out.elem (f := MkE.cx) (i := 4) (by rfl) MkE.cx_len HEe.out)) hx) Tryz.underlying27 zb ?_
    refine zg 4 (bs 7 31) X429 (0) (rc r426) (H458.out.range (i := 3) (by rfl) 0 4) Tryz.underlying27 zb ?_
    have DD485 := zH ((D458.out.trans D479.out))
    have DD486 := zH ((((((D431.out.trans D435.out).trans D441.out).trans D445.out).trans D458.out).trans D479.out))
    refine mC 5 (bs 7 63) (q03Cmp (L := 60000) (RV.Is.nin (RAe.out.dig DD485.out) (Nat.le_trans BAe.out (by omega))) (RV.Is.nin (R426.out.dig DD486.out) (Nat.le_trans B426.out (by omega))) (by omega)) ?_
    rintro e w484 ⟨rfl, hx⟩
    have H487 := zH (H479.out.step hx)
    have D487 := zH (show Dig w456.drew w484 from Dig.of_ext hx)
    have S489 := zH (show Ext w456 w484 from zb.trans hx)
    clear hx
    refine zm S489.out ?_
    refine zu 6 (bs 7 127) (v := .bool false) S489.out ?_ (hv := by intro w hSw; exact ezq (e := (dec_f (fun hh => C.out (rcmp_eq_i.1 hh)))))
    refine wpAnyH_done (by kernel_rfl) ?_ _
    have DD491 := zH (((D458.out.trans D479.out).trans D487.out))
    go_wp2_with fail
    go_roundg (ms444.length - (j + 1))
    case measure => exact (by omega)
    case rel => exact ⟨j + 1, rfl, (by go_num), hlv, (ne_snoc HQK.out HX3.out C.out), H487.out, DD491.out⟩
   have HLV3 := zH c459
   clear c459
   have hlv := HLV3.out
   have hkj := HKJ.out
   obtain rfl : j = ms444.length := by omega
   have hge3 : ¬ (ms444.length : Int) < (ms444.length : Int) := by omega
   have HNX := zH (show ∀ a, a ∈ marksV (((p.2) : Int) : Rat) rs → a.1 ≠ (((p.1) : Int) : Rat) by have h_ := HX3.out; rw [List.take_of_length_le (by rw [List.length_map]; omega), HVC444.out] at h_; exact h_)
   go_upto_region 21 with fail
   refine wp_region_lit ?_
   refine qV (.slice A rs.length cap) ?_
   refine zq (.pointer (some ⟨X343, 1, none⟩)) ?_
   refine ze X343 1 (.int .i64 p.2) (H458.out.range (i := 0) (by rfl) 1 1) ?_
   refine zc (q03From p.2 _ (by have ob0 := OP.out.1.1; have ob1 := OP.out.1.2; have ob2 := OP.out.2.1; have ob3 := OP.out.2.2; omega) (by have ob0 := OP.out.1.1; have ob1 := OP.out.1.2; have ob2 := OP.out.2.1; have ob3 := OP.out.2.2; omega)) ?_
   rintro e w494 ⟨c_, rfl, hc_, hx⟩
   have H496 := zH (H458.out.step hx)
   have D496 := zH (Dig.of_ext hx)
   obtain ⟨r495, rfl, hr_⟩ := hc_
   have R495 := zH hr_
   have B495 := zH (rl_i64 p.2 (by have ob0 := OP.out.1.1; have ob1 := OP.out.1.2; have ob2 := OP.out.2.1; have ob3 := OP.out.2.2; omega) (by have ob0 := OP.out.1.1; have ob1 := OP.out.1.2; have ob2 := OP.out.2.1; have ob3 := OP.out.2.2; omega))
   clear hr_
   clear hx
   refine zn ?_
   refine zc (levels_any 20 (.slice A rs.length cap) rs r495 (((p.2) : Int) : Rat) _ (HU.out.ext H496.out.ext) (RV.Is.isIn (L := 20) R495.out (Nat.le_trans B495.out (by decide))) (by decide) (by decide) HN.out HR.out) ?_
   rintro e w498 ⟨A1499, c1499, A2499, c2499, n_, ls499, rfl, rfl, hr1_, hr2_, hok_, hcv_, hml_, hx⟩
   have HVC499 := zH hcv_
   have HOC499 := zH hok_
   have HML499 := zH hml_
   obtain ⟨Ax_, cx_, hv_, hA_⟩ := RowN.form hr1_
   obtain rfl : A1499 = Ax_ := by injection hv_
   have HXA499 := zH hA_
   clear hv_ hA_ hcv_ hok_ hml_
   obtain ⟨Ay_, cy_, hv_, hA_⟩ := RowN.form hr2_
   obtain rfl : A2499 = Ay_ := by injection hv_
   have HWA499 := zH hA_
   clear hv_ hA_
   have H500 := zH (show Hp w w498 [.blk X343 44 [.int .i64 p.1, .int .i64 p.2], .blk X362 44 [.int .i64 p.1, .int .i64 p.2], .blk X366 45 [.slice (some ⟨X362, 0, none⟩) 1 1], .blk X429 27 (rc r426), ro 27 4 A1444 ms444.length c1444 MkE.cx ms444, ro 3 1 A2444 ms444.length c2444 MkE.cu ms444, ro 39 8 A1499 ls499.length c1499 LvE.cs ls499, ro 3 1 A2499 ls499.length c2499 LvE.cn ls499] from H496.out.addRow2 hx hr1_ hr2_ (by decide))
   have D500 := zH (Dig.of_ext hx)
   clear hr1_ hr2_
   clear hx
   refine zn ?_
   refine qV (.tuple #[.slice A1499 ls499.length c1499, .slice A2499 ls499.length c2499]) ?_
   refine zq (.slice A1499 ls499.length c1499) ?_
   refine qV (.slice A2499 ls499.length c2499) ?_
   refine zq (.slice A1499 ls499.length c1499) ?_
   refine zq (.slice A2499 ls499.length c2499) ?_
   have hml4 : ls499.length ≤ 4096 := HML499.out
   go_upto_region 22 with fail
   refine wp_region_lit ?_
   refine qV (.slice A1499 ls499.length c1499) ?_
   refine zq (.int .i64 ((ls499.length : Nat) : Int)) ?_
   refine qV (.slice A2499 ls499.length c2499) ?_
   refine zq (.int .i64 ((ls499.length : Nat) : Int)) ?_
   refine zp (w' := w498) (.bool false) (by exact ezn (e := (dec_f (fun h_ => h_ rfl)))) ?_
   go_upto_region 24 with fail
   refine wp_region_lit ?_
   refine zq (.int .i64 0) ?_
   go_upto_region 25 with fail
   refine wp_region_lit ?_
   refine qV (.slice A1499 ls499.length c1499) ?_
   refine zq (.int .i64 ((ls499.length : Nat) : Int)) ?_
   refine zq (.int .i64 0) ?_
   go_wp2_with fail
   go_loopg [13, 98] (ls499.length) (fun cq v516 v517 wr => ∃ (i : Nat) (n : Int), cq = ls499.length - i ∧ v516 = .int .i64 n ∧ v517 = .int .i64 (i : Int) ∧ (i ≤ ls499.length) ∧ (n = wantV (((p.1) : Int) : Rat) ((List.map LvE.vl ls499).take i)) ∧ Hp w wr [.blk X343 44 [.int .i64 p.1, .int .i64 p.2], .blk X362 44 [.int .i64 p.1, .int .i64 p.2], .blk X366 45 [.slice (some ⟨X362, 0, none⟩) 1 1], .blk X429 27 [.bool r426.n, .slice r426.p r426.l r426.c, .bool r426.m, .slice r426.p2 r426.l2 r426.c2], .row 27 4 (.slice A1444 ms444.length c1444) (ms444.length) (List.flatMap MkE.cx ms444), .row 3 1 (.slice A2444 ms444.length c2444) (ms444.length) (List.flatMap MkE.cu ms444), .row 39 8 (.slice A1499 ls499.length c1499) (ls499.length) (List.flatMap LvE.cs ls499), .row 3 1 (.slice A2499 ls499.length c2499) (ls499.length) (List.flatMap LvE.cn ls499)] ∧ Dig w498 wr)
   case atStart => exact ⟨0, 0, rfl, rfl, rfl, Nat.zero_le _, rfl, H500.out, Dig.refl _⟩
   case round =>
    obtain ⟨i, n, rfl, rfl, rfl, q_HKW, q_HWN, hh_, hd_⟩ := hrel
    generalize wr = w518 at *
    have HKW := zH q_HKW
    clear q_HKW
    have HWN := zH q_HWN
    clear q_HWN
    have H520 := zH hh_
    have D520 := zH hd_
    clear hh_ hd_ H500
    by_cases c521 : i < ls499.length
    ·have HLW := zH c521
     clear c521
     have hlw := HLW.out
     obtain ⟨gls, rfl⟩ := HXA499.out (by omega)
     obtain ⟨gln, rfl⟩ := HWA499.out (by omega)
     obtain ⟨l, hl_⟩ : ∃ l, ls499[i]? = some l := ⟨_, List.getElem?_eq_getElem hlw⟩
     have HEl := zH hl_
     have HOl := zH (HOC499.out l (List.mem_of_getElem? hl_))
     have RAl := zH HOl.out.1
     have RBl := zH HOl.out.2.1
     have BAl := zH HOl.out.2.2.1
     have BBl := zH HOl.out.2.2.2.1
     clear hl_
     have HQL := zH (show (List.map LvE.vl ls499)[i]? = some l.vl from by rw [List.getElem?_map, HEl.out]; rfl)
     go_upto_region 27 with fail
     refine wp_region_lit ?_
     refine qV (.int .i64 (i : Int)) ?_
     refine zq (.int .i64 (i : Int)) ?_
     by_cases c524 : l.p < (((p.1) : Int) : Rat)
     ·have C1 := zH c524
      clear c524
      by_cases c525 : (((p.1) : Int) : Rat) < l.q
      ·have C2 := zH c525
       clear c525
       go_upto_region 28 with fail
       refine zy ?_
       have H526 := zH (H520.out.step (Ext.refl w518).drew)
       have D526 := zH (Dig.of_ext (w := w518) zb)
       refine zx 0 (bs 18 1) (.slice (some ⟨gls, 0, none⟩) ls499.length c1499) zb ?_
       refine zx 1 (bs 18 3) (.int .i64 (i : Int)) zb ?_
       refine zu 2 (bs 18 7) (v := .pointer (some ⟨gls, i * 8, none⟩)) zb ?_ (hv := by intro w hSw; exact ezi (k := i) Tryz.underlying31 (l := hlw) (f := (Nat.zero_add _).symm))
       refine mX 3 (bs 18 15) (.pointer (some ⟨gls, i * 8, none⟩)) zb ?_
       refine mR 4 (bs 18 31) gls (i * 8) [.bool l.a.n, .slice l.a.p l.a.l l.a.c, .bool l.a.m, .slice l.a.p2 l.a.l2 l.a.c2] (fun x hx => range_ext (show World.rangeAt w518 gls (i * 8) [.bool l.a.n, .slice l.a.p l.a.l l.a.c, .bool l.a.m, .slice l.a.p2 l.a.l2 l.a.c2] from (range_part (H520.out.elem (f := LvE.cs) (i := 6) (by rfl) LvE.cs_len HEl.out) 0 4)) hx) Tryz.underlying27 zb ?_
       refine zg 5 (bs 18 63) X429 (0) (rc r426) (H520.out.range (i := 3) (by rfl) 0 4) Tryz.underlying27 zb ?_
       have DD533 := zH ((D520.out.trans D526.out))
       have DD534 := zH (((((((((D431.out.trans D435.out).trans D441.out).trans D445.out).trans D458.out).trans D496.out).trans D500.out).trans D520.out).trans D526.out))
       refine mC 6 (bs 18 127) (q03Cmp (L := 60000) (RV.Is.nin (RAl.out.dig DD533.out) (Nat.le_trans BAl.out (by omega))) (RV.Is.nin (R426.out.dig DD534.out) (Nat.le_trans B426.out (by omega))) (by omega)) ?_
       rintro e w532 ⟨rfl, hx⟩
       have H535 := zH (H526.out.step hx)
       have D535 := zH (show Dig w518.drew w532 from Dig.of_ext hx)
       have S537 := zH (show Ext w518 w532 from zb.trans hx)
       clear hx
       refine zm S537.out ?_
       refine zu 7 (bs 18 255) (v := .bool true) S537.out ?_ (hv := by intro w hSw; exact ezl (e := (dec_t (rcmp_lt.2 C1.out))))
       refine mX 8 (bs 18 511) (.bool true) S537.out ?_
       refine zg 9 (bs 18 1023) X429 (0) (rc r426) (H520.out.range (i := 3) (by rfl) 0 4) Tryz.underlying27 S537.out ?_
       refine zx 10 (bs 18 2047) (.slice (some ⟨gls, 0, none⟩) ls499.length c1499) S537.out ?_
       refine zx 11 (bs 18 4095) (.int .i64 (i : Int)) S537.out ?_
       refine zu 12 (bs 18 8191) (v := .pointer (some ⟨gls, i * 8, none⟩)) S537.out ?_ (hv := by intro w hSw; exact ezi (k := i) Tryz.underlying31 (l := hlw) (f := (Nat.zero_add _).symm))
       refine mX 13 (bs 18 16383) (.pointer (some ⟨gls, i * 8 + 4, none⟩)) S537.out ?_
       refine zg 14 (bs 18 32767) gls (i * 8 + 4) (rc l.b) (range_part (H520.out.elem (f := LvE.cs) (i := 6) (by rfl) LvE.cs_len HEl.out) 4 4) Tryz.underlying27 S537.out ?_
       have DD545 := zH ((((((((((D431.out.trans D435.out).trans D441.out).trans D445.out).trans D458.out).trans D496.out).trans D500.out).trans D520.out).trans D526.out).trans D535.out))
       have DD546 := zH (((D520.out.trans D526.out).trans D535.out))
       refine mC 15 (bs 18 65535) (q03Cmp (L := 60000) (RV.Is.nin (R426.out.dig DD545.out) (Nat.le_trans B426.out (by omega))) (RV.Is.nin (RBl.out.dig DD546.out) (Nat.le_trans BBl.out (by omega))) (by omega)) ?_
       rintro e w544 ⟨rfl, hx⟩
       have H547 := zH (H535.out.step hx)
       have D547 := zH (Dig.of_ext hx)
       have S549 := zH (S537.out.trans hx)
       clear hx
       refine zm S549.out ?_
       refine zu 16 (bs 18 131071) (v := .bool true) S549.out ?_ (hv := by intro w hSw; exact ezl (e := (dec_t (rcmp_lt.2 C2.out))))
       refine zx 17 (bs 18 262143) (.bool true) S549.out ?_
       refine wpAnyH_done (by kernel_rfl) ?_ _
       go_upto_region 29 with fail
       refine wp_region_lit ?_
       refine qV (.slice (some ⟨gln, 0, none⟩) ls499.length c2499) ?_
       refine zq (.int .i64 (i : Int)) ?_
       refine zp (w' := w544) (.pointer (some ⟨gln, i * 1, none⟩)) (by exact ezi (k := i) Tryz.underlying32 (l := hlw) (f := (Nat.zero_add _).symm)) ?_
       refine ze gln (i * 1) (.int .i64 l.n) (H547.out.elem (f := LvE.cn) (i := 7) (by rfl) LvE.cn_len HEl.out) ?_
       refine zq (.int .i64 l.n) ?_
       have DD556 := zH ((((D520.out.trans D526.out).trans D535.out).trans D547.out))
       go_wp2_with fail
       go_roundg (ls499.length - (i + 1))
       case measure => exact (by omega)
       case rel => exact ⟨i + 1, l.n, rfl, rfl, (by go_num), hlw, (by rw [wantV_take HQL.out]; exact (if_pos ⟨C1.out, C2.out⟩).symm), H547.out, DD556.out⟩
      have C2 := zH c525
      clear c525
      go_upto_region 28 with fail
      refine zy ?_
      have H557 := zH (H520.out.step (Ext.refl w518).drew)
      have D557 := zH (Dig.of_ext (w := w518) zb)
      refine zx 0 (bs 18 1) (.slice (some ⟨gls, 0, none⟩) ls499.length c1499) zb ?_
      refine zx 1 (bs 18 3) (.int .i64 (i : Int)) zb ?_
      refine zu 2 (bs 18 7) (v := .pointer (some ⟨gls, i * 8, none⟩)) zb ?_ (hv := by intro w hSw; exact ezi (k := i) Tryz.underlying31 (l := hlw) (f := (Nat.zero_add _).symm))
      refine mX 3 (bs 18 15) (.pointer (some ⟨gls, i * 8, none⟩)) zb ?_
      refine mR 4 (bs 18 31) gls (i * 8) [.bool l.a.n, .slice l.a.p l.a.l l.a.c, .bool l.a.m, .slice l.a.p2 l.a.l2 l.a.c2] (fun x hx => range_ext (show World.rangeAt w518 gls (i * 8) [.bool l.a.n, .slice l.a.p l.a.l l.a.c, .bool l.a.m, .slice l.a.p2 l.a.l2 l.a.c2] from (range_part (H520.out.elem (f := LvE.cs) (i := 6) (by rfl) LvE.cs_len HEl.out) 0 4)) hx) Tryz.underlying27 zb ?_
      refine zg 5 (bs 18 63) X429 (0) (rc r426) (H520.out.range (i := 3) (by rfl) 0 4) Tryz.underlying27 zb ?_
      have DD564 := zH ((D520.out.trans D557.out))
      have DD565 := zH (((((((((D431.out.trans D435.out).trans D441.out).trans D445.out).trans D458.out).trans D496.out).trans D500.out).trans D520.out).trans D557.out))
      refine mC 6 (bs 18 127) (q03Cmp (L := 60000) (RV.Is.nin (RAl.out.dig DD564.out) (Nat.le_trans BAl.out (by omega))) (RV.Is.nin (R426.out.dig DD565.out) (Nat.le_trans B426.out (by omega))) (by omega)) ?_
      rintro e w563 ⟨rfl, hx⟩
      have H566 := zH (H557.out.step hx)
      have D566 := zH (show Dig w518.drew w563 from Dig.of_ext hx)
      have S568 := zH (show Ext w518 w563 from zb.trans hx)
      clear hx
      refine zm S568.out ?_
      refine zu 7 (bs 18 255) (v := .bool true) S568.out ?_ (hv := by intro w hSw; exact ezl (e := (dec_t (rcmp_lt.2 C1.out))))
      refine mX 8 (bs 18 511) (.bool true) S568.out ?_
      refine zg 9 (bs 18 1023) X429 (0) (rc r426) (H520.out.range (i := 3) (by rfl) 0 4) Tryz.underlying27 S568.out ?_
      refine zx 10 (bs 18 2047) (.slice (some ⟨gls, 0, none⟩) ls499.length c1499) S568.out ?_
      refine zx 11 (bs 18 4095) (.int .i64 (i : Int)) S568.out ?_
      refine zu 12 (bs 18 8191) (v := .pointer (some ⟨gls, i * 8, none⟩)) S568.out ?_ (hv := by intro w hSw; exact ezi (k := i) Tryz.underlying31 (l := hlw) (f := (Nat.zero_add _).symm))
      refine mX 13 (bs 18 16383) (.pointer (some ⟨gls, i * 8 + 4, none⟩)) S568.out ?_
      refine zg 14 (bs 18 32767) gls (i * 8 + 4) (rc l.b) (range_part (H520.out.elem (f := LvE.cs) (i := 6) (by rfl) LvE.cs_len HEl.out) 4 4) Tryz.underlying27 S568.out ?_
      have DD576 := zH ((((((((((D431.out.trans D435.out).trans D441.out).trans D445.out).trans D458.out).trans D496.out).trans D500.out).trans D520.out).trans D557.out).trans D566.out))
      have DD577 := zH (((D520.out.trans D557.out).trans D566.out))
      refine mC 15 (bs 18 65535) (q03Cmp (L := 60000) (RV.Is.nin (R426.out.dig DD576.out) (Nat.le_trans B426.out (by omega))) (RV.Is.nin (RBl.out.dig DD577.out) (Nat.le_trans BBl.out (by omega))) (by omega)) ?_
      rintro e w575 ⟨rfl, hx⟩
      have H578 := zH (H566.out.step hx)
      have D578 := zH (Dig.of_ext hx)
      have S580 := zH (S568.out.trans hx)
      clear hx
      refine zm S580.out ?_
      refine zu 16 (bs 18 131071) (v := .bool false) S580.out ?_ (hv := by intro w hSw; exact ezl (e := (dec_f (fun hh => C2.out (rcmp_lt.1 hh)))))
      refine zx 17 (bs 18 262143) (.bool false) S580.out ?_
      refine wpAnyH_done (by kernel_rfl) ?_ _
      have DD583 := zH ((((D520.out.trans D557.out).trans D566.out).trans D578.out))
      go_wp2_with fail
      go_roundg (ls499.length - (i + 1))
      case measure => exact (by omega)
      case rel => exact ⟨i + 1, n, rfl, rfl, (by go_num), hlw, (by rw [HWN.out, wantV_take HQL.out, if_neg (fun h_ => C2.out h_.2)]), H578.out, DD583.out⟩
     have C1 := zH c524
     clear c524
     go_upto_region 28 with fail
     refine zy ?_
     have H584 := zH (H520.out.step (Ext.refl w518).drew)
     have D584 := zH (Dig.of_ext (w := w518) zb)
     refine zx 0 (bs 18 1) (.slice (some ⟨gls, 0, none⟩) ls499.length c1499) zb ?_
     refine zx 1 (bs 18 3) (.int .i64 (i : Int)) zb ?_
     refine zu 2 (bs 18 7) (v := .pointer (some ⟨gls, i * 8, none⟩)) zb ?_ (hv := by intro w hSw; exact ezi (k := i) Tryz.underlying31 (l := hlw) (f := (Nat.zero_add _).symm))
     refine mX 3 (bs 18 15) (.pointer (some ⟨gls, i * 8, none⟩)) zb ?_
     refine mR 4 (bs 18 31) gls (i * 8) [.bool l.a.n, .slice l.a.p l.a.l l.a.c, .bool l.a.m, .slice l.a.p2 l.a.l2 l.a.c2] (fun x hx => range_ext (show World.rangeAt w518 gls (i * 8) [.bool l.a.n, .slice l.a.p l.a.l l.a.c, .bool l.a.m, .slice l.a.p2 l.a.l2 l.a.c2] from (range_part (H520.out.elem (f := LvE.cs) (i := 6) (by rfl) LvE.cs_len HEl.out) 0 4)) hx) Tryz.underlying27 zb ?_
     refine zg 5 (bs 18 63) X429 (0) (rc r426) (H520.out.range (i := 3) (by rfl) 0 4) Tryz.underlying27 zb ?_
     have DD591 := zH ((D520.out.trans D584.out))
     have DD592 := zH (((((((((D431.out.trans D435.out).trans D441.out).trans D445.out).trans D458.out).trans D496.out).trans D500.out).trans D520.out).trans D584.out))
     refine mC 6 (bs 18 127) (q03Cmp (L := 60000) (RV.Is.nin (RAl.out.dig DD591.out) (Nat.le_trans BAl.out (by omega))) (RV.Is.nin (R426.out.dig DD592.out) (Nat.le_trans B426.out (by omega))) (by omega)) ?_
     rintro e w590 ⟨rfl, hx⟩
     have H593 := zH (H584.out.step hx)
     have D593 := zH (show Dig w518.drew w590 from Dig.of_ext hx)
     have S595 := zH (show Ext w518 w590 from zb.trans hx)
     clear hx
     refine zm S595.out ?_
     refine zu 7 (bs 18 255) (v := .bool false) S595.out ?_ (hv := by intro w hSw; exact ezl (e := (dec_f (fun hh => C1.out (rcmp_lt.1 hh)))))
     refine zx 8 (bs 18 511) (.bool false) S595.out ?_
     refine zs 9 (bs 18 1023) S595.out ?_
     refine zs 10 (bs 18 2047) S595.out ?_
     refine zs 11 (bs 18 4095) S595.out ?_
     refine zs 12 (bs 18 8191) S595.out ?_
     refine zs 13 (bs 18 16383) S595.out ?_
     refine zs 14 (bs 18 32767) S595.out ?_
     refine zs 15 (bs 18 65535) S595.out ?_
     refine zs 16 (bs 18 131071) S595.out ?_
     refine zx 17 (bs 18 262143) (.bool false) S595.out ?_
     refine wpAnyH_done (by kernel_rfl) ?_ _
     have DD599 := zH (((D520.out.trans D584.out).trans D593.out))
     go_wp2_with fail
     go_roundg (ls499.length - (i + 1))
     case measure => exact (by omega)
     case rel => exact ⟨i + 1, n, rfl, rfl, (by go_num), hlw, (by rw [HWN.out, wantV_take HQL.out, if_neg (fun h_ => C1.out h_.1)]), H593.out, DD599.out⟩
    have HLW := zH c521
    clear c521
    have hlw := HLW.out
    have hkw := HKW.out
    obtain rfl : i = ls499.length := by omega
    have hge4 : ¬ (ls499.length : Int) < (ls499.length : Int) := by omega
    have HWF := zH (show windV p rs = n by rw [HWN.out, List.take_of_length_le (by rw [List.length_map]; omega), HVC499.out]; exact (levels_wind HV.out HNV.out HNX.out).symm)
    have hbw := wind_bd p HV.out rs.length
    rw [List.take_length] at hbw
    go_upto_region 31 with fail
    refine wp_region_lit ?_
    refine qV (.slice A rs.length cap) ?_
    refine zd X343 (0) [.int .i64 p.1, .int .i64 p.2] (H520.out.range (i := 0) (by rfl) 0 2) Tryz.underlying44 ?_
    refine zc (wind_any (.slice A rs.length cap) rs p _ (HU.out.ext H520.out.ext) HV.out hvp HN.out HR.out) ?_
    rintro e w601 ⟨rfl, hx⟩
    have H602 := zH (H520.out.step hx)
    clear hx
    refine zn ?_
    refine zq (.int .i64 n) ?_
    refine zp (w' := w601) (.bool true) (by exact ezq (e := (dec_t HWF.out))) ?_
    refine qV (.bool true) ?_
    refine zc (example_any _) ?_
    rintro e w607 ⟨rfl, hx⟩
    have H608 := zH (H602.out.step hx)
    clear hx
    refine zn ?_
    refine qV (.bool true) ?_
    refine zq (.bool true) ?_
    go_wp2_with fail
    go_ret
    exact ⟨rfl, H608.out.ext⟩

theorem walk (A : Option Addr) (rs : List Ring) (cap : Nat) (p : Int × Int) (w : World) (hv : RingsV w (.slice A rs.length cap) rs ∧ ∀ r, r ∈ rs → r.length ≤ maxLen) (hm : rs.length ≤ maxLen) :
  Calls Tryz.prog 5 #[.slice A rs.length cap, .agg #[.int .i64 p.1, .int .i64 p.2]] w fun e w' => e = .returned (.bool true) ∧ Ext w w' := by
 have hs := fun W (x : Ext w W) => smallPolygons_any (.slice A rs.length cap) rs W (hv.1.ext x) hm
 cases h0 : smPoly rs with
 | false => rw [h0] at hs; exact walkF0 A rs cap p w hs
 | true =>
  rw [h0] at hs
  obtain ⟨h2, h3⟩ := smPoly_small h0
  cases h1 : okR rs with
  | false => exact walkF1 A rs cap p w hs hv.1 h2 h3 h1
  | true =>
   cases h4 : okPt p.1 p.2 with
   | false => exact walkF2 A rs cap p w hs hv.1 h2 h3 h1 h4
   | true => exact walkT A rs cap p w hs hv.1 h2 h3 h1 h4
set_option maxRecDepth 100000 in
theorem lifted (os : Os) (started : os.Started) (H : Type) (enc : TypeId × Value → H) :
  ReturnsInHanded {} Tryz.checked os 5 .any (Rows.scanlineLevelsWindingSpec.pre6 enc Tryz.prog Tryz.f5 Rows.scanlineLevelsWindingRow.domain false) (Rows.scanlineLevelsWindingSpec.post enc Tryz.prog Tryz.f5 false true false false) := by
 refine returnsInHanded_of_change (C := Tryz.checked) own started (by kernel_rfl) Tryz.func5
  (ChangeSpec.witness6 (enc := enc) (C := Tryz.checked) false ⟨#[], #[.slice none 0 0, .agg #[.int .i64 0, .int .i64 0]], []⟩ 8 (by kernel_rfl) (by kernel_rfl) (by kernel_rfl) (by kernel_rfl)) ?_
 intro W base args ds gs before hval0 hW hcnd _
 have hval : ∀ (j : Nat) t v, Tryz.f5.params[j]? = some t → args[j]? = some v → Value.okWide Tryz.prog W .any base t v := hval0
 have hW' := hW
 obtain ⟨p, q, hA0, hV, rfl, hfz, hnd⟩ := hW
 have hA : DataW.TrodAll enc Tryz.prog W 0 (fun _ => true) true Tryz.f5.params.toList args.toList ds p := hA0
 rw [Tryz.params5] at hA hval
 obtain ⟨v0, vs0, d0, ds0, p0, q0, hargs, rfl, rfl, h0, r0⟩ := trodAll_cons hA
 obtain ⟨v1, vs1, d1, ds1, p1, q1, rfl, rfl, rfl, h1, r1⟩ := trodAll_cons r0
 obtain ⟨rfl, rfl, rfl⟩ := trodAll_nil r1
 obtain rfl : args = #[v0, v1] := by cases args; simp_all
 obtain ⟨rfl, rfl⟩ := trodVars_none hV
 have k0 := h0
 have lt0 : ∀ x ∈ p0, x.block < W.heap.size := by obtain ⟨m, hm⟩ := k0; exact DataW.trod_lt m _ _ _ hm
 obtain ⟨yA, zl0, yc, rfl⟩ := okWide_slice Tryz.underlying22 (hval 0 22 v0 rfl rfl)
 obtain ⟨zA0, yl, zc0, ze0, g0⟩ := (by obtain ⟨m, hm⟩ := h0; exact rings_openQ hm : ∃ zB zl zc, [Value.slice yA zl0 yc] = [.slice zB (List.length zl) zc] ∧ zl.length ≤ maxLen ∧ RingsV W (.slice zB zl.length zc) zl ∧ ∀ r, r ∈ zl → r.length ≤ maxLen)
 obtain ⟨rfl, rfl, rfl⟩ : yA = zA0 ∧ zl0 = yl.length ∧ yc = zc0 := by simpa using ze0
 have k1 := h1
 have lt1 : ∀ x ∈ p1, x.block < W.heap.size := by obtain ⟨m, hm⟩ := k1; exact DataW.trod_lt m _ _ _ hm
 obtain ⟨⟨l1⟩, rfl, _⟩ := okWide_structQ Tryz.underlying44 (hval 1 44 v1 rfl rfl)
 obtain ⟨a, rfl⟩ : ∃ a : Int × Int, l1 = [.int .i64 a.1, .int .i64 a.2] := by
  obtain ⟨m, hm⟩ := h1
  exact pt_open hm
 clear hA0 hval0
 refine (walk yA yl yc a W g0.2 g0.1).mono fun e W' ⟨he, hx⟩ => ?_
 subst he
 have bel := hx.below
 exact ⟨_, rfl, _, _, _, [], _, [], hW', trodAll_mk1 (shut_bool Tryz.underlying4 _), (trodAll_cons_mk (Below.trod laidOut (by kernel_rfl) (of_decide_eq_true (by kernel_rfl)) k0 bel lt0) (trodAll_cons_mk (Below.trod laidOut (by kernel_rfl) (of_decide_eq_true (by kernel_rfl)) k1 bel lt1) trodAll_mk0)), rfl, bel.frame _, fun h => by cases h⟩

theorem proved : Rows.ScanlineLevelsWindingSaid :=
  OpenClaim.holds_of_wide 5 Tryz.f5 rfl rfl rfl rfl rfl rfl rfl ⟨rfl, rfl, rfl, rfl, rfl⟩ rfl rfl rfl rfl rfl (by kernel_rfl) Tryz.func5 (by kernel_rfl)
    (of_decide_eq_true (by kernel_rfl)) (by unfold Func.isWrapper; first | (rw [if_pos (by decide +kernel)]; kernel_rfl) | (rw [if_neg (by decide +kernel)]; exact ⟨rfl, rfl⟩))
    (fun os started H enc _ => lifted os started H enc)
#print axioms proved
end Go.Proofs.YtaeeeailoiioaacGreat.lwind
