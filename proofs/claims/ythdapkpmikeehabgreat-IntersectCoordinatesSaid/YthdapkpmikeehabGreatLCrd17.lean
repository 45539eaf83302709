/- IntersectCoordinates. -/
import Derived.Test.YthdapkpmikeehabGreatM8
namespace Go.Proofs.YthdapkpmikeehabGreat
open Go.RowKit
attribute [local go_sem ↓] Go.wp_at_zero Go.wp_at_succ run_max_ii run_min_ii
namespace coords
open Go.ChangeShapes Go.WideShapes Go.ChangeAt
theorem pt_openI {H : Type} {enc : TypeId × Value → H} {w : World} {base : Nat} {spare : Nat → Bool} {held : Bool} {fuel : Nat} {cs : List Value} {x : DataW H × List MemPlace} (h : DataW.trod enc Tryz.prog w base spare held fuel 23 cs = some x) : ∃ a : Int × Int, cs = [.int .i64 a.1, .int .i64 a.2] ∧ i64P a := by
 obtain ⟨y0, y1, n, _, hl, h0, h1⟩ := trod_struct2 Tryz.underlying23 h
 rw [cells_pt] at hl
 rw [cells_int] at h0 h1
 obtain ⟨a, e0, _, w0⟩ := DataW.trod_int Tryz.underlying3 h0
 obtain ⟨b, e1, _, w1⟩ := DataW.trod_int Tryz.underlying3 h1
 match cs, hl with
 | [u, v], _ =>
  simp at e0 e1
  exact ⟨(a, b), by rw [e0, e1], bounds_i64 w0, bounds_i64 w1⟩
theorem pts2_openI {H : Type} {enc : TypeId × Value → H} {w : World} {base : Nat} {spare : Nat → Bool} {held : Bool} {fuel : Nat} {cs : List Value} {x : DataW H × List MemPlace} (h : DataW.trod enc Tryz.prog w base spare held fuel 24 cs = some x) :
  ∃ a b : Int × Int, cs = [.int .i64 a.1, .int .i64 a.2, .int .i64 b.1, .int .i64 b.2] ∧ i64P a ∧ i64P b := by
 obtain ⟨xs, m, _, _, hl, hx, hi⟩ := DataW.trod_array Tryz.underlying24 h
 rw [show Tryz.prog.cellsOf 24 = 4 by kernel_rfl] at hl
 rw [cells_pt] at hi
 match xs, hx with
 | [x0, x1], _ =>
  obtain ⟨a, ea, ia⟩ := pt_openI (show DataW.trod enc Tryz.prog w base spare held m 23 _ = some x0 from hi 0 (by omega))
  obtain ⟨b, eb, ib⟩ := pt_openI (show DataW.trod enc Tryz.prog w base spare held m 23 _ = some x1 from hi 1 (by omega))
  match cs, hl with
  | [c0, c1, c2, c3], _ =>
   simp at ea eb
   refine ⟨a, b, ?_, ia, ib⟩
   rw [ea.1, ea.2, eb.1, eb.2]
theorem AtRet.yes {C : Prop} {q : Rat} {w w' : World} {e : Ending} (h : AtRet C q w e w') (hc : C) : ∃ r : RV, e = .returned (.tuple #[.agg #[.bool r.n, .slice r.p r.l r.c, .bool r.m, .slice r.p2 r.l2 r.c2], .bool true]) ∧ r.Is w' q ∧ Ext w w' := by
  obtain ⟨⟨r, _, h1, h2⟩ | ⟨h1, _⟩, hx⟩ := h
  · exact ⟨r, h1, h2, hx⟩
  exact absurd hc h1
theorem AtRet.no {C : Prop} {q : Rat} {w w' : World} {e : Ending} (h : AtRet C q w e w') (hc : ¬ C) : e = .returned (.tuple #[.agg z4, .bool false]) ∧ Ext w w' := by
  obtain ⟨⟨r, h0, h1, h2⟩ | ⟨_, h1⟩, hx⟩ := h
  · exact absurd h0 hc
  exact ⟨h1, hx⟩
theorem rl_in {w : World} {r : RV} {q : Rat} (h : r.In 30 w q) : Nm.rl q ≤ 30 := h.rl
theorem rl_yatC {a b : Int × Int} {x : Int} (h : yatC a b x) : Nm.rl (yatQ a b x) ≤ 20 := by
  have oa := okP_out h.1
  have ob := okP_out h.2.1
  have h1 := h.2.2.2.1
  have h2 := h.2.2.2.2
  exact rl_yat h.1 h.2.1 (by omega)
theorem rl_xatC {a b : Int × Int} {y : Rat} (h : xatC a b y) (hy : Nm.rl y ≤ 30) : Nm.rl (xatQ a b y) ≤ 200 := by
 have oa := okP_out h.1
 have ob := okP_out h.2.1
 have r1 := rl_i64 a.1 (by omega) (by omega)
 have r2 := rl_i64 a.2 (by omega) (by omega)
 have r3 := rl_qq 1 (b.2 - a.2) (by decide) (by omega)
 have r4 := rl_i64 (b.1 - a.1) (by omega) (by omega)
 unfold xatQ
 have k1 := Nm.rl_sub y (a.2 : Rat)
 have k2 := Nm.rl_mul (y - (a.2 : Rat)) (((1 : Int) : Rat) / ((b.2 - a.2 : Int) : Rat))
 have k3 := Nm.rl_mul ((y - (a.2 : Rat)) * (((1 : Int) : Rat) / ((b.2 - a.2 : Int) : Rat))) ((b.1 - a.1 : Int) : Rat)
 have k4 := Nm.rl_add (a.1 : Rat) ((y - (a.2 : Rat)) * (((1 : Int) : Rat) / ((b.2 - a.2 : Int) : Rat)) * ((b.1 - a.1 : Int) : Rat))
 omega
set_option maxRecDepth 20000 in
set_option maxHeartbeats 4000000 in
theorem walk (a b : Int × Int) (x : Int) (ry : RV) (w : World) (hp : i64P a ∧ i64P b) (hr : ry.Raw w) (hx0 : -9223372036854775808 ≤ x ∧ x ≤ 9223372036854775807) :
  Calls Tryz.prog 3 #[.agg #[.int .i64 a.1, .int .i64 a.2, .int .i64 b.1, .int .i64 b.2], .int .i64 x, .agg #[.bool ry.n, .slice ry.p ry.l ry.c, .bool ry.m, .slice ry.p2 ry.l2 ry.c2]] w fun e w' => e = .returned (.bool true) ∧ Ext w w' := by
 have ha := hp.1
 have hb := hp.2
 have HR := zH hr
 clear hr hp
 go_enter Tryz.func3, Tryz.ntmps3
 have H0 := zH (Hp.start w)
 go_upto_region 0 with fail
 refine wp_region_lit ?_
 refine aA' 24 [.int .i64 a.1, .int .i64 a.2, .int .i64 b.1, .int .i64 b.2] H0.out ?_
 intro X1 w2 H3 _
 refine aA' 29 (rc ry) H3.out ?_
 intro X6 w7 H8 _
 refine zq (.bool false) ?_
 by_cases c12 : (30 : Int) < (ry.l : Int)
 ·have C1 := zH c12
  clear c12
  go_upto_region 1 with fail
  refine wp_region_lit ?_
  refine zI4 H8.out _ _ _ (.int .i64 ((ry.l : Nat) : Int)) ?_
  refine zp (w' := w7) (.bool true) (by exact ezg (e := (dec_t C1.out))) ?_
  refine zq (.bool true) ?_
  with_reducible refine mv_skip ?_ ?_
  ·rfl
  try simp only [Act.put, zA, zB, zC]
  with_reducible refine mv_skip ?_ ?_
  ·rfl
  try simp only [Act.put, zA, zB, zC]
  with_reducible refine mv_skip ?_ ?_
  ·rfl
  try simp only [Act.put, zA, zB, zC]
  with_reducible refine mv_skip ?_ ?_
  ·rfl
  try simp only [Act.put, zA, zB, zC]
  with_reducible refine mv_skip ?_ ?_
  ·rfl
  try simp only [Act.put, zA, zB, zC]
  refine zq (.bool true) ?_
  go_upto_region 2 with fail
  refine wp_region_lit ?_
  refine aC H8.out (example17_any _) ?_
  intro w19 H20 _
  refine zq (.bool true) ?_
  go_wp2_with fail
  go_ret
  exact ⟨rfl, H20.out.ext⟩
 have C1 := zH c12
 clear c12
 by_cases c23 : (30 : Int) < (ry.l2 : Int)
 ·have C2 := zH c23
  clear c23
  go_upto_region 1 with fail
  refine wp_region_lit ?_
  refine zI4 H8.out _ _ _ (.int .i64 ((ry.l : Nat) : Int)) ?_
  refine zp (w' := w7) (.bool false) (by exact ezg (e := (dec_f C1.out))) ?_
  refine zI5 H8.out (.bool false) _ _ _ (.int .i64 ((ry.l2 : Nat) : Int)) ?_
  refine zp (w' := w7) (.bool true) (by exact ezg (e := (dec_t C2.out))) ?_
  refine zq (.bool true) ?_
  go_upto_region 2 with fail
  refine wp_region_lit ?_
  refine aC H8.out (example17_any _) ?_
  intro w34 H35 _
  refine zq (.bool true) ?_
  go_wp2_with fail
  go_ret
  exact ⟨rfl, H35.out.ext⟩
 have C2 := zH c23
 clear c23
 go_upto_region 1 with fail
 refine wp_region_lit ?_
 refine zI4 H8.out _ _ _ (.int .i64 ((ry.l : Nat) : Int)) ?_
 refine zp (w' := w7) (.bool false) (by exact ezg (e := (dec_f C1.out))) ?_
 refine zI5 H8.out (.bool false) _ _ _ (.int .i64 ((ry.l2 : Nat) : Int)) ?_
 refine zp (w' := w7) (.bool false) (by exact ezg (e := (dec_f C2.out))) ?_
 refine zq (.bool false) ?_
 obtain ⟨y, hy_⟩ := HR.out.val
 have HY := zH (hy_ 30 (by have h1 := C1.out; omega) (by have h1 := C2.out; omega))
 clear hy_
 by_cases c48 : yatC a b x
 ·have HCY := zH c48
  clear c48
  by_cases c49 : xatC a b y
  ·have HCX := zH c49
   clear c49
   go_upto_region 3 with fail
   refine wp_region_lit ?_
   refine qV (.pointer (some ⟨X1, 0, none⟩)) ?_
   refine zd X1 (0) [.int .i64 a.1, .int .i64 a.2] (H8.out.range (i := 0) (by rfl) 0 2) Tryz.underlying23 ?_
   refine qV (.pointer (some ⟨X1, 2, none⟩)) ?_
   refine zd X1 (2) [.int .i64 b.1, .int .i64 b.2] (H8.out.range (i := 0) (by rfl) 2 2) Tryz.underlying23 ?_
   refine qV (.int .i64 x) ?_
   refine zc (((yat_any a b x _ hx0).mono (fun _ _ h_ => AtRet.yes h_ HCY.out))) ?_
   rintro e w53 ⟨r54, rfl, hr_, hx⟩
   have H55 := zH (H8.out.step hx)
   have R54 := zH hr_
   have B54 := zH (rl_yatC HCY.out)
   clear hr_
   clear hx
   refine zn ?_
   refine zI3 (Hp.start _) _ _ (.bool true) ?_
   refine aA' 29 rz H55.out ?_
   intro X60 w61 H62 D62
   refine aS' 2 (rc r54) H62.out ?_
   intro w65 H66 D66
   refine zq (.bool true) ?_
   go_upto_region 4 with fail
   refine wp_region_lit ?_
   refine qV (.pointer (some ⟨X1, 0, none⟩)) ?_
   refine zd X1 (0) [.int .i64 a.1, .int .i64 a.2] (H66.out.range (i := 0) (by rfl) 0 2) Tryz.underlying23 ?_
   refine qV (.pointer (some ⟨X1, 2, none⟩)) ?_
   refine zd X1 (2) [.int .i64 b.1, .int .i64 b.2] (H66.out.range (i := 0) (by rfl) 2 2) Tryz.underlying23 ?_
   refine qV (.int .i64 x) ?_
   refine zc (((ryat_any a b x _ hx0).mono (fun _ _ h_ => AtRet.yes h_ HCY.out))) ?_
   rintro e w72 ⟨r73, rfl, hr_, hx⟩
   have H74 := zH (H66.out.step hx)
   have D74 := zH (Dig.of_ext hx)
   have R73 := zH hr_
   clear hr_
   clear hx
   refine zn ?_
   refine zI3 (Hp.start _) _ _ (.bool true) ?_
   refine aA' 29 rz H74.out ?_
   intro X79 w80 H81 D81
   refine aS' 3 (rc r73) H81.out ?_
   intro w84 H85 D85
   refine zq (.bool true) ?_
   go_upto_region 5 with fail
   refine wp_region_lit ?_
   refine qV (.pointer (some ⟨X1, 0, none⟩)) ?_
   refine zd X1 (0) [.int .i64 a.1, .int .i64 a.2] (H85.out.range (i := 0) (by rfl) 0 2) Tryz.underlying23 ?_
   refine qV (.pointer (some ⟨X1, 2, none⟩)) ?_
   refine zd X1 (2) [.int .i64 b.1, .int .i64 b.2] (H85.out.range (i := 0) (by rfl) 2 2) Tryz.underlying23 ?_
   refine zd X6 (0) (rc ry) (H85.out.range (i := 1) (by rfl) 0 4) Tryz.underlying29 ?_
   refine zc (((xatf_any 30 a b ry y _ (HY.out.dig H85.out.dig0) (by decide) ha hb).mono (fun _ _ h_ => AtRet.yes h_ HCX.out))) ?_
   rintro e w90 ⟨r91, rfl, hr_, hx⟩
   have H92 := zH (H85.out.step hx)
   have D92 := zH (Dig.of_ext hx)
   have R91 := zH hr_
   have B91 := zH (rl_xatC HCX.out (rl_in HY.out))
   clear hr_
   clear hx
   refine zn ?_
   refine zI3 (Hp.start _) _ _ (.bool true) ?_
   refine aA' 29 rz H92.out ?_
   intro X97 w98 H99 D99
   refine aS' 4 (rc r91) H99.out ?_
   intro w102 H103 D103
   refine zq (.bool true) ?_
   go_upto_region 6 with fail
   refine wp_region_lit ?_
   refine qV (.pointer (some ⟨X1, 0, none⟩)) ?_
   refine zd X1 (0) [.int .i64 a.1, .int .i64 a.2] (H103.out.range (i := 0) (by rfl) 0 2) Tryz.underlying23 ?_
   refine qV (.pointer (some ⟨X1, 2, none⟩)) ?_
   refine zd X1 (2) [.int .i64 b.1, .int .i64 b.2] (H103.out.range (i := 0) (by rfl) 2 2) Tryz.underlying23 ?_
   refine zd X6 (0) (rc ry) (H103.out.range (i := 1) (by rfl) 0 4) Tryz.underlying29 ?_
   refine zc (((rxatf_any 30 a b ry y _ (HY.out.dig H103.out.dig0) (by decide) ha hb).mono (fun _ _ h_ => AtRet.yes h_ HCX.out))) ?_
   rintro e w108 ⟨r109, rfl, hr_, hx⟩
   have H110 := zH (H103.out.step hx)
   have D110 := zH (Dig.of_ext hx)
   have R109 := zH hr_
   clear hr_
   clear hx
   refine zn ?_
   refine zI3 (Hp.start _) _ _ (.bool true) ?_
   refine aA' 29 rz H110.out ?_
   intro X115 w116 H117 D117
   refine aS' 5 (rc r109) H117.out ?_
   intro w120 H121 D121
   refine zq (.bool true) ?_
   go_upto_region 7 with fail
   refine wp_region_lit ?_
   refine zI2 H121.out _ _ ?_
   have DD125 := zH (((((((((((D62.out.trans D66.out).trans D74.out).trans D81.out).trans D85.out).trans D92.out).trans D99.out).trans D103.out).trans D110.out).trans D117.out).trans D121.out))
   have DD126 := zH ((((((((D81.out.trans D85.out).trans D92.out).trans D99.out).trans D103.out).trans D110.out).trans D117.out).trans D121.out))
   refine aC H121.out (same17_any r54 r73 (yatQ a b x) 60000 _ (R54.out.dig DD125.out) (R73.out.dig DD126.out) (Nat.le_trans B54.out (by omega)) (by decide)) ?_
   intro w124 H127 D127
   refine zI8 H127.out (.bool true) (.bool true) (.bool true) (.bool true) (.bool true) (.bool true) _ _ ?_
   have DD136 := zH ((((((D99.out.trans D103.out).trans D110.out).trans D117.out).trans D121.out).trans D127.out))
   have DD137 := zH (((D117.out.trans D121.out).trans D127.out))
   refine aC H127.out (same17_any r91 r109 (xatQ a b y) 60000 _ (R91.out.dig DD136.out) (R109.out.dig DD137.out) (Nat.le_trans B91.out (by omega)) (by decide)) ?_
   intro w135 H138 _
   refine zI7 (Hp.start _) (.bool true) (.bool true) (.bool true) (.bool true) (.bool true) (.bool true) (.bool true) ?_
   refine aC H138.out (example17_any _) ?_
   intro w147 H148 _
   refine zI2 (Hp.start _) (.bool true) (.bool true) ?_
   go_wp2_with fail
   go_ret
   exact ⟨rfl, H148.out.ext⟩
  have HCX := zH c49
  clear c49
  go_upto_region 3 with fail
  refine wp_region_lit ?_
  refine qV (.pointer (some ⟨X1, 0, none⟩)) ?_
  refine zd X1 (0) [.int .i64 a.1, .int .i64 a.2] (H8.out.range (i := 0) (by rfl) 0 2) Tryz.underlying23 ?_
  refine qV (.pointer (some ⟨X1, 2, none⟩)) ?_
  refine zd X1 (2) [.int .i64 b.1, .int .i64 b.2] (H8.out.range (i := 0) (by rfl) 2 2) Tryz.underlying23 ?_
  refine qV (.int .i64 x) ?_
  refine zc (((yat_any a b x _ hx0).mono (fun _ _ h_ => AtRet.yes h_ HCY.out))) ?_
  rintro e w155 ⟨r156, rfl, hr_, hx⟩
  have H157 := zH (H8.out.step hx)
  have R156 := zH hr_
  have B156 := zH (rl_yatC HCY.out)
  clear hr_
  clear hx
  refine zn ?_
  refine zI3 (Hp.start _) _ _ (.bool true) ?_
  refine aA' 29 rz H157.out ?_
  intro X162 w163 H164 D164
  refine aS' 2 (rc r156) H164.out ?_
  intro w167 H168 D168
  refine zq (.bool true) ?_
  go_upto_region 4 with fail
  refine wp_region_lit ?_
  refine qV (.pointer (some ⟨X1, 0, none⟩)) ?_
  refine zd X1 (0) [.int .i64 a.1, .int .i64 a.2] (H168.out.range (i := 0) (by rfl) 0 2) Tryz.underlying23 ?_
  refine qV (.pointer (some ⟨X1, 2, none⟩)) ?_
  refine zd X1 (2) [.int .i64 b.1, .int .i64 b.2] (H168.out.range (i := 0) (by rfl) 2 2) Tryz.underlying23 ?_
  refine qV (.int .i64 x) ?_
  refine zc (((ryat_any a b x _ hx0).mono (fun _ _ h_ => AtRet.yes h_ HCY.out))) ?_
  rintro e w174 ⟨r175, rfl, hr_, hx⟩
  have H176 := zH (H168.out.step hx)
  have D176 := zH (Dig.of_ext hx)
  have R175 := zH hr_
  clear hr_
  clear hx
  refine zn ?_
  refine zI3 (Hp.start _) _ _ (.bool true) ?_
  refine aA' 29 rz H176.out ?_
  intro X181 w182 H183 D183
  refine aS' 3 (rc r175) H183.out ?_
  intro w186 H187 D187
  refine zq (.bool true) ?_
  go_upto_region 5 with fail
  refine wp_region_lit ?_
  refine qV (.pointer (some ⟨X1, 0, none⟩)) ?_
  refine zd X1 (0) [.int .i64 a.1, .int .i64 a.2] (H187.out.range (i := 0) (by rfl) 0 2) Tryz.underlying23 ?_
  refine qV (.pointer (some ⟨X1, 2, none⟩)) ?_
  refine zd X1 (2) [.int .i64 b.1, .int .i64 b.2] (H187.out.range (i := 0) (by rfl) 2 2) Tryz.underlying23 ?_
  refine zd X6 (0) (rc ry) (H187.out.range (i := 1) (by rfl) 0 4) Tryz.underlying29 ?_
  refine aC H187.out (((xatf_any 30 a b ry y _ (HY.out.dig H187.out.dig0) (by decide) ha hb).mono (fun _ _ h_ => AtRet.no h_ HCX.out))) ?_
  intro w192 H193 D193
  refine zI3 (Hp.start _) _ _ (.bool false) ?_
  refine aA' 29 rz H193.out ?_
  intro X198 w199 H200 D200
  refine aS' 4 rz H200.out ?_
  intro w203 H204 D204
  refine zq (.bool false) ?_
  go_upto_region 6 with fail
  refine wp_region_lit ?_
  refine qV (.pointer (some ⟨X1, 0, none⟩)) ?_
  refine zd X1 (0) [.int .i64 a.1, .int .i64 a.2] (H204.out.range (i := 0) (by rfl) 0 2) Tryz.underlying23 ?_
  refine qV (.pointer (some ⟨X1, 2, none⟩)) ?_
  refine zd X1 (2) [.int .i64 b.1, .int .i64 b.2] (H204.out.range (i := 0) (by rfl) 2 2) Tryz.underlying23 ?_
  refine zd X6 (0) (rc ry) (H204.out.range (i := 1) (by rfl) 0 4) Tryz.underlying29 ?_
  refine aC H204.out (((rxatf_any 30 a b ry y _ (HY.out.dig H204.out.dig0) (by decide) ha hb).mono (fun _ _ h_ => AtRet.no h_ HCX.out))) ?_
  intro w209 H210 D210
  refine zI3 (Hp.start _) _ _ (.bool false) ?_
  refine aA' 29 rz H210.out ?_
  intro X215 w216 H217 D217
  refine aS' 5 rz H217.out ?_
  intro w220 H221 D221
  refine zq (.bool false) ?_
  go_upto_region 7 with fail
  refine wp_region_lit ?_
  refine zI2 H221.out _ _ ?_
  have DD225 := zH (((((((((((D164.out.trans D168.out).trans D176.out).trans D183.out).trans D187.out).trans D193.out).trans D200.out).trans D204.out).trans D210.out).trans D217.out).trans D221.out))
  have DD226 := zH ((((((((D183.out.trans D187.out).trans D193.out).trans D200.out).trans D204.out).trans D210.out).trans D217.out).trans D221.out))
  refine aC H221.out (same17_any r156 r175 (yatQ a b x) 60000 _ (R156.out.dig DD225.out) (R175.out.dig DD226.out) (Nat.le_trans B156.out (by omega)) (by decide)) ?_
  intro w224 H227 _
  refine zI8 H227.out (.bool true) (.bool true) (.bool true) (.bool true) (.bool true) (.bool true) _ _ ?_
  refine aC H227.out (same17Z_any _) ?_
  intro w235 H236 _
  refine zI7 (Hp.start _) (.bool true) (.bool true) (.bool false) (.bool false) (.bool true) (.bool true) (.bool true) ?_
  refine aC H236.out (example17_any _) ?_
  intro w245 H246 _
  refine zI2 (Hp.start _) (.bool true) (.bool true) ?_
  go_wp2_with fail
  go_ret
  exact ⟨rfl, H246.out.ext⟩
 have HCY := zH c48
 clear c48
 by_cases c250 : xatC a b y
 ·have HCX := zH c250
  clear c250
  go_upto_region 3 with fail
  refine wp_region_lit ?_
  refine qV (.pointer (some ⟨X1, 0, none⟩)) ?_
  refine zd X1 (0) [.int .i64 a.1, .int .i64 a.2] (H8.out.range (i := 0) (by rfl) 0 2) Tryz.underlying23 ?_
  refine qV (.pointer (some ⟨X1, 2, none⟩)) ?_
  refine zd X1 (2) [.int .i64 b.1, .int .i64 b.2] (H8.out.range (i := 0) (by rfl) 2 2) Tryz.underlying23 ?_
  refine qV (.int .i64 x) ?_
  refine aC H8.out (((yat_any a b x _ hx0).mono (fun _ _ h_ => AtRet.no h_ HCY.out))) ?_
  intro w254 H255 _
  refine zI3 (Hp.start _) _ _ (.bool false) ?_
  refine aA' 29 rz H255.out ?_
  intro X260 w261 H262 _
  refine aS' 2 rz H262.out ?_
  intro w265 H266 _
  refine zq (.bool false) ?_
  go_upto_region 4 with fail
  refine wp_region_lit ?_
  refine qV (.pointer (some ⟨X1, 0, none⟩)) ?_
  refine zd X1 (0) [.int .i64 a.1, .int .i64 a.2] (H266.out.range (i := 0) (by rfl) 0 2) Tryz.underlying23 ?_
  refine qV (.pointer (some ⟨X1, 2, none⟩)) ?_
  refine zd X1 (2) [.int .i64 b.1, .int .i64 b.2] (H266.out.range (i := 0) (by rfl) 2 2) Tryz.underlying23 ?_
  refine qV (.int .i64 x) ?_
  refine aC H266.out (((ryat_any a b x _ hx0).mono (fun _ _ h_ => AtRet.no h_ HCY.out))) ?_
  intro w272 H273 _
  refine zI3 (Hp.start _) _ _ (.bool false) ?_
  refine aA' 29 rz H273.out ?_
  intro X278 w279 H280 _
  refine aS' 3 rz H280.out ?_
  intro w283 H284 _
  refine zq (.bool false) ?_
  go_upto_region 5 with fail
  refine wp_region_lit ?_
  refine qV (.pointer (some ⟨X1, 0, none⟩)) ?_
  refine zd X1 (0) [.int .i64 a.1, .int .i64 a.2] (H284.out.range (i := 0) (by rfl) 0 2) Tryz.underlying23 ?_
  refine qV (.pointer (some ⟨X1, 2, none⟩)) ?_
  refine zd X1 (2) [.int .i64 b.1, .int .i64 b.2] (H284.out.range (i := 0) (by rfl) 2 2) Tryz.underlying23 ?_
  refine zd X6 (0) (rc ry) (H284.out.range (i := 1) (by rfl) 0 4) Tryz.underlying29 ?_
  refine zc (((xatf_any 30 a b ry y _ (HY.out.dig H284.out.dig0) (by decide) ha hb).mono (fun _ _ h_ => AtRet.yes h_ HCX.out))) ?_
  rintro e w289 ⟨r290, rfl, hr_, hx⟩
  have H291 := zH (H284.out.step hx)
  have R290 := zH hr_
  have B290 := zH (rl_xatC HCX.out (rl_in HY.out))
  clear hr_
  clear hx
  refine zn ?_
  refine zI3 (Hp.start _) _ _ (.bool true) ?_
  refine aA' 29 rz H291.out ?_
  intro X296 w297 H298 D298
  refine aS' 4 (rc r290) H298.out ?_
  intro w301 H302 D302
  refine zq (.bool true) ?_
  go_upto_region 6 with fail
  refine wp_region_lit ?_
  refine qV (.pointer (some ⟨X1, 0, none⟩)) ?_
  refine zd X1 (0) [.int .i64 a.1, .int .i64 a.2] (H302.out.range (i := 0) (by rfl) 0 2) Tryz.underlying23 ?_
  refine qV (.pointer (some ⟨X1, 2, none⟩)) ?_
  refine zd X1 (2) [.int .i64 b.1, .int .i64 b.2] (H302.out.range (i := 0) (by rfl) 2 2) Tryz.underlying23 ?_
  refine zd X6 (0) (rc ry) (H302.out.range (i := 1) (by rfl) 0 4) Tryz.underlying29 ?_
  refine zc (((rxatf_any 30 a b ry y _ (HY.out.dig H302.out.dig0) (by decide) ha hb).mono (fun _ _ h_ => AtRet.yes h_ HCX.out))) ?_
  rintro e w307 ⟨r308, rfl, hr_, hx⟩
  have H309 := zH (H302.out.step hx)
  have D309 := zH (Dig.of_ext hx)
  have R308 := zH hr_
  clear hr_
  clear hx
  refine zn ?_
  refine zI3 (Hp.start _) _ _ (.bool true) ?_
  refine aA' 29 rz H309.out ?_
  intro X314 w315 H316 D316
  refine aS' 5 (rc r308) H316.out ?_
  intro w319 H320 D320
  refine zq (.bool true) ?_
  go_upto_region 7 with fail
  refine wp_region_lit ?_
  refine zI2 H320.out _ _ ?_
  refine aC H320.out (same17Z_any _) ?_
  intro w323 H324 D324
  refine zI8 H324.out (.bool true) (.bool false) (.bool false) (.bool true) (.bool true) (.bool true) _ _ ?_
  have DD333 := zH ((((((D298.out.trans D302.out).trans D309.out).trans D316.out).trans D320.out).trans D324.out))
  have DD334 := zH (((D316.out.trans D320.out).trans D324.out))
  refine aC H324.out (same17_any r290 r308 (xatQ a b y) 60000 _ (R290.out.dig DD333.out) (R308.out.dig DD334.out) (Nat.le_trans B290.out (by omega)) (by decide)) ?_
  intro w332 H335 _
  refine zI7 (Hp.start _) (.bool true) (.bool true) (.bool true) (.bool true) (.bool true) (.bool true) (.bool true) ?_
  refine aC H335.out (example17_any _) ?_
  intro w344 H345 _
  refine zI2 (Hp.start _) (.bool true) (.bool true) ?_
  go_wp2_with fail
  go_ret
  exact ⟨rfl, H345.out.ext⟩
 have HCX := zH c250
 clear c250
 go_upto_region 3 with fail
 refine wp_region_lit ?_
 refine qV (.pointer (some ⟨X1, 0, none⟩)) ?_
 refine zd X1 (0) [.int .i64 a.1, .int .i64 a.2] (H8.out.range (i := 0) (by rfl) 0 2) Tryz.underlying23 ?_
 refine qV (.pointer (some ⟨X1, 2, none⟩)) ?_
 refine zd X1 (2) [.int .i64 b.1, .int .i64 b.2] (H8.out.range (i := 0) (by rfl) 2 2) Tryz.underlying23 ?_
 refine qV (.int .i64 x) ?_
 refine aC H8.out (((yat_any a b x _ hx0).mono (fun _ _ h_ => AtRet.no h_ HCY.out))) ?_
 intro w352 H353 _
 refine zI3 (Hp.start _) _ _ (.bool false) ?_
 refine aA' 29 rz H353.out ?_
 intro X358 w359 H360 _
 refine aS' 2 rz H360.out ?_
 intro w363 H364 _
 refine zq (.bool false) ?_
 go_upto_region 4 with fail
 refine wp_region_lit ?_
 refine qV (.pointer (some ⟨X1, 0, none⟩)) ?_
 refine zd X1 (0) [.int .i64 a.1, .int .i64 a.2] (H364.out.range (i := 0) (by rfl) 0 2) Tryz.underlying23 ?_
 refine qV (.pointer (some ⟨X1, 2, none⟩)) ?_
 refine zd X1 (2) [.int .i64 b.1, .int .i64 b.2] (H364.out.range (i := 0) (by rfl) 2 2) Tryz.underlying23 ?_
 refine qV (.int .i64 x) ?_
 refine aC H364.out (((ryat_any a b x _ hx0).mono (fun _ _ h_ => AtRet.no h_ HCY.out))) ?_
 intro w370 H371 _
 refine zI3 (Hp.start _) _ _ (.bool false) ?_
 refine aA' 29 rz H371.out ?_
 intro X376 w377 H378 _
 refine aS' 3 rz H378.out ?_
 intro w381 H382 _
 refine zq (.bool false) ?_
 go_upto_region 5 with fail
 refine wp_region_lit ?_
 refine qV (.pointer (some ⟨X1, 0, none⟩)) ?_
 refine zd X1 (0) [.int .i64 a.1, .int .i64 a.2] (H382.out.range (i := 0) (by rfl) 0 2) Tryz.underlying23 ?_
 refine qV (.pointer (some ⟨X1, 2, none⟩)) ?_
 refine zd X1 (2) [.int .i64 b.1, .int .i64 b.2] (H382.out.range (i := 0) (by rfl) 2 2) Tryz.underlying23 ?_
 refine zd X6 (0) (rc ry) (H382.out.range (i := 1) (by rfl) 0 4) Tryz.underlying29 ?_
 refine aC H382.out (((xatf_any 30 a b ry y _ (HY.out.dig H382.out.dig0) (by decide) ha hb).mono (fun _ _ h_ => AtRet.no h_ HCX.out))) ?_
 intro w387 H388 _
 refine zI3 (Hp.start _) _ _ (.bool false) ?_
 refine aA' 29 rz H388.out ?_
 intro X393 w394 H395 _
 refine aS' 4 rz H395.out ?_
 intro w398 H399 _
 refine zq (.bool false) ?_
 go_upto_region 6 with fail
 refine wp_region_lit ?_
 refine qV (.pointer (some ⟨X1, 0, none⟩)) ?_
 refine zd X1 (0) [.int .i64 a.1, .int .i64 a.2] (H399.out.range (i := 0) (by rfl) 0 2) Tryz.underlying23 ?_
 refine qV (.pointer (some ⟨X1, 2, none⟩)) ?_
 refine zd X1 (2) [.int .i64 b.1, .int .i64 b.2] (H399.out.range (i := 0) (by rfl) 2 2) Tryz.underlying23 ?_
 refine zd X6 (0) (rc ry) (H399.out.range (i := 1) (by rfl) 0 4) Tryz.underlying29 ?_
 refine aC H399.out (((rxatf_any 30 a b ry y _ (HY.out.dig H399.out.dig0) (by decide) ha hb).mono (fun _ _ h_ => AtRet.no h_ HCX.out))) ?_
 intro w404 H405 _
 refine zI3 (Hp.start _) _ _ (.bool false) ?_
 refine aA' 29 rz H405.out ?_
 intro X410 w411 H412 _
 refine aS' 5 rz H412.out ?_
 intro w415 H416 _
 refine zq (.bool false) ?_
 go_upto_region 7 with fail
 refine wp_region_lit ?_
 refine zI2 H416.out _ _ ?_
 refine aC H416.out (same17Z_any _) ?_
 intro w419 H420 _
 refine zI8 H420.out (.bool true) (.bool false) (.bool false) (.bool true) (.bool true) (.bool true) _ _ ?_
 refine aC H420.out (same17Z_any _) ?_
 intro w428 H429 _
 refine zI7 (Hp.start _) (.bool true) (.bool true) (.bool false) (.bool false) (.bool true) (.bool true) (.bool true) ?_
 refine aC H429.out (example17_any _) ?_
 intro w438 H439 _
 refine qV (.bool true) ?_
 refine zq (.bool true) ?_
 go_wp2_with fail
 go_ret
 exact ⟨rfl, H439.out.ext⟩
set_option maxRecDepth 100000 in
theorem lifted (os : Os) (started : os.Started) (H : Type) (enc : TypeId × Value → H) :
  ReturnsInHanded {} Tryz.checked os 3 .any (Rows.intersectCoordinatesSpec.pre6 enc Tryz.prog Tryz.f3 Rows.intersectCoordinatesRow.domain false) (Rows.intersectCoordinatesSpec.post enc Tryz.prog Tryz.f3 false true false false) := by
 refine returnsInHanded_of_change (C := Tryz.checked) own started (by kernel_rfl) Tryz.func3
  (ChangeSpec.witness6 (enc := enc) (C := Tryz.checked) false ⟨#[], #[.agg #[.int .i64 0, .int .i64 0, .int .i64 0, .int .i64 0], .int .i64 0, .agg z4], []⟩ 8 (by kernel_rfl) (by kernel_rfl) (by kernel_rfl) (by kernel_rfl)) ?_
 intro W base args ds gs before hval0 hW hcnd _
 have hval : ∀ (j : Nat) t v, Tryz.f3.params[j]? = some t → args[j]? = some v → Value.okWide Tryz.prog W .any base t v := hval0
 have hW' := hW
 obtain ⟨p, q, hA0, hV, rfl, hfz, hnd⟩ := hW
 have hA : DataW.TrodAll enc Tryz.prog W 0 (fun _ => true) true Tryz.f3.params.toList args.toList ds p := hA0
 rw [Tryz.params3] at hA hval
 obtain ⟨v0, vs0, d0, ds0, p0, q0, hargs, rfl, rfl, h0, r0⟩ := trodAll_cons hA
 obtain ⟨v1, vs1, d1, ds1, p1, q1, rfl, rfl, rfl, h1, r1⟩ := trodAll_cons r0
 obtain ⟨v2, vs2, d2, ds2, p2, q2, rfl, rfl, rfl, h2, r2⟩ := trodAll_cons r1
 obtain ⟨rfl, rfl, rfl⟩ := trodAll_nil r2
 obtain rfl : args = #[v0, v1, v2] := by cases args; simp_all
 obtain ⟨rfl, rfl⟩ := trodVars_none hV
 have k0 := h0
 have lt0 : ∀ x ∈ p0, x.block < W.heap.size := by obtain ⟨m, hm⟩ := k0; exact DataW.trod_lt m _ _ _ hm
 obtain ⟨⟨l0⟩, rfl, _⟩ := okWide_array Tryz.underlying24 (hval 0 24 v0 rfl rfl)
 obtain ⟨a, b, rfl, g0⟩ : ∃ a b : Int × Int, l0 = [.int .i64 a.1, .int .i64 a.2, .int .i64 b.1, .int .i64 b.2] ∧ i64P a ∧ i64P b := by
  obtain ⟨m, hm⟩ := h0
  exact pts2_openI hm
 obtain ⟨x, rfl, rfl, rfl, w1⟩ := open_int Tryz.underlying3 (hval 1 3 v1 rfl rfl) h1
 have k2 := h2
 have lt2 : ∀ x ∈ p2, x.block < W.heap.size := by obtain ⟨m, hm⟩ := k2; exact DataW.trod_lt m _ _ _ hm
 obtain ⟨⟨l2⟩, rfl, _⟩ := okWide_structQ Tryz.underlying29 (hval 2 29 v2 rfl rfl)
 obtain ⟨ry, rfl, g2⟩ : ∃ a : RV, l2 = [.bool a.n, .slice a.p a.l a.c, .bool a.m, .slice a.p2 a.l2 a.c2] ∧ a.Raw W := by
  obtain ⟨m, hm⟩ := h2
  exact rat_open hm
 clear hA0 hval0
 refine (walk a b x ry W g0 g2 (bounds_i64 w1)).mono fun e W' ⟨he, hx⟩ => ?_
 subst he
 have bel := hx.below
 exact ⟨_, rfl, _, _, _, [], _, [], hW', trodAll_mk1 (shut_bool Tryz.underlying4 _), (trodAll_cons_mk (Below.trod laidOut (by kernel_rfl) (of_decide_eq_true (by kernel_rfl)) k0 bel lt0) (trodAll_cons_mk (shut_int Tryz.underlying3 w1) (trodAll_cons_mk (Below.trod laidOut (by kernel_rfl) (of_decide_eq_true (by kernel_rfl)) k2 bel lt2) trodAll_mk0))), rfl, bel.frame _, fun h => by cases h⟩

theorem proved : Rows.IntersectCoordinatesSaid :=
  OpenClaim.holds_of_wide 3 Tryz.f3 rfl rfl rfl rfl rfl rfl rfl ⟨rfl, rfl, rfl, rfl, rfl⟩ rfl rfl rfl rfl rfl (by kernel_rfl) Tryz.func3 (by kernel_rfl)
    (of_decide_eq_true (by kernel_rfl)) (by unfold Func.isWrapper; first | (rw [if_pos (by decide +kernel)]; kernel_rfl) | (rw [if_neg (by decide +kernel)]; exact ⟨rfl, rfl⟩))
    (fun os started H enc _ => lifted os started H enc)
#print axioms proved
end coords
end Go.Proofs.YthdapkpmikeehabGreat
