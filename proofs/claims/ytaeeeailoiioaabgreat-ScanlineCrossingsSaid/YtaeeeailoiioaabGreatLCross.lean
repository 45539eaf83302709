/- ScanlineCrossings. -/
import Derived.Test.YtaeeeailoiioaabGreatM7
namespace Go.Proofs.YtaeeeailoiioaabGreat.crossings
open Go.RowKit Go.ChangeShapes Go.WideShapes Go.ChangeAt
attribute [local go_sem ↓] Go.wp_at_zero Go.wp_at_succ run_max_ii run_min_ii
theorem le_sumQ {a : Nat} : ∀ {l : List Nat}, a ∈ l → a ≤ l.sum
  | x :: l, h => by
    rw [List.sum_cons]
    rcases List.mem_cons.1 h with rfl | h
    · omega
    have := le_sumQ h; omega
theorem smPoly_ring {rs : List Ring} (h : smPoly rs = true) : ∀ r, r ∈ rs → r.length ≤ 60 := by
  intro r hr
  have h2 := (smPoly_out h).2
  have h3 : min r.length 1000 ≤ mtot rs := by
    unfold mtot
    exact le_sumQ (List.mem_map.2 ⟨r, hr, rfl⟩)
  omega
theorem smPoly_small {rs : List Ring} (h : smPoly rs = true) : rs.length ≤ 100000 ∧ ∀ r, r ∈ rs → r.length ≤ 100000 := ⟨by have := (smPoly_out h).1; omega, fun r hr => by have := smPoly_ring h r hr; omega⟩
theorem ints_of_row {w : World} {b n : Nat} {t : TypeId} {v : Value} {es : List MkE} (h : RowN w b t 1 v n (es.flatMap MkE.cu)) (hn : n = es.length) : IntsV w v (es.map MkE.up) := by
  obtain ⟨A, c, rfl, hA⟩ := h.form
  refine ⟨A, c, by rw [List.length_map, hn], fun k x hx => ?_⟩
  rw [List.getElem?_map] at hx
  obtain ⟨e, he, rfl⟩ := Option.map_eq_some_iff.1 hx
  have hk := (List.getElem?_eq_some_iff.1 he).1
  obtain ⟨g, rfl⟩ := hA (by omega)
  have h1 := h.rangeAt _ _ (fun j v hj => flat_get (c := 1) MkE.cu_len es k e he j v hj) 0 _ rfl
  exact ⟨g, 0, rfl, by simpa using h1⟩
set_option maxRecDepth 20000 in
set_option maxHeartbeats 4000000 in
theorem walkF0 (A : Option Addr) (rs : List Ring) (cap : Nat)  (ry : RV)  (w : World) (hs : ∀ W, Ext w W → Calls Tryz.prog 17 #[.slice A rs.length cap] W fun e w' => e = .returned (.bool false) ∧ Ext W w')  :
  Calls Tryz.prog 4 #[.slice A rs.length cap, .agg #[.bool ry.n, .slice ry.p ry.l ry.c, .bool ry.m, .slice ry.p2 ry.l2 ry.c2]] w fun e w' => e = .returned (.bool true) ∧ Ext w w' := by
 have HS := zH hs
 clear hs
 go_enter Tryz.func4, Tryz.ntmps4
 have H0 := zH (Hp.start w)
 go_upto_region 0 with fail
 refine wp_region_lit ?_
 refine mv_alloc (T := 27) (zs := [.bool ry.n, .slice ry.p ry.l ry.c, .bool ry.m, .slice ry.p2 ry.l2 ry.c2]) (by rfl) (by go_simp) H0.out (by simp [NoUL]) ?_
 intro X1 w2 hh hx hge
 have H3 := zH (show Hp w w2 [.blk X1 27 (rc ry)] from hh)
 clear hh hx hge
 try simp only [Act.put, zA, zB, zC]
 refine zq (.bool false) ?_
 go_upto_region 1 with fail
 refine wp_region_lit ?_
 refine qV (.slice A rs.length cap) ?_
 refine zc (HS.out _ H3.out.ext) ?_
 rintro e w8 ⟨rfl, hx⟩
 have H9 := zH (H3.out.step hx)
 clear hx
 refine zn ?_
 refine qV (.bool true) ?_
 refine zq (.bool true) ?_
 refine zk ?_
 refine zk ?_
 refine zk ?_
 refine zq (.bool true) ?_
 go_upto_region 2 with fail
 refine wp_region_lit ?_
 refine zc (example_any _) ?_
 rintro e w14 ⟨rfl, hx⟩
 have H15 := zH (H9.out.step hx)
 clear hx
 refine zn ?_
 refine zq (.bool true) ?_
 go_wp2_with fail
 go_ret
 exact ⟨rfl, H15.out.ext⟩
set_option maxRecDepth 20000 in
set_option maxHeartbeats 4000000 in
theorem walkF1 (A : Option Addr) (rs : List Ring) (cap : Nat)  (ry : RV)  (w : World) (hs : ∀ W, Ext w W → Calls Tryz.prog 17 #[.slice A rs.length cap] W fun e w' => e = .returned (.bool true) ∧ Ext W w') (ha : ∀ W, Ext w W → Calls Tryz.prog 7 #[.agg #[.bool ry.n, .slice ry.p ry.l ry.c, .bool ry.m, .slice ry.p2 ry.l2 ry.c2]] W fun e w' => e = .returned (.bool false) ∧ Ext W w')  :
  Calls Tryz.prog 4 #[.slice A rs.length cap, .agg #[.bool ry.n, .slice ry.p ry.l ry.c, .bool ry.m, .slice ry.p2 ry.l2 ry.c2]] w fun e w' => e = .returned (.bool true) ∧ Ext w w' := by
 have HS := zH hs
 clear hs
 have HSA := zH ha
 clear ha
 go_enter Tryz.func4, Tryz.ntmps4
 have H0 := zH (Hp.start w)
 go_upto_region 0 with fail
 refine wp_region_lit ?_
 refine mv_alloc (T := 27) (zs := [.bool ry.n, .slice ry.p ry.l ry.c, .bool ry.m, .slice ry.p2 ry.l2 ry.c2]) (by rfl) (by go_simp) H0.out (by simp [NoUL]) ?_
 intro X18 w19 hh hx hge
 have H20 := zH (show Hp w w19 [.blk X18 27 (rc ry)] from hh)
 clear hh hx hge
 try simp only [Act.put, zA, zB, zC]
 refine zq (.bool false) ?_
 go_upto_region 1 with fail
 refine wp_region_lit ?_
 refine qV (.slice A rs.length cap) ?_
 refine zc (HS.out _ H20.out.ext) ?_
 rintro e w25 ⟨rfl, hx⟩
 have H26 := zH (H20.out.step hx)
 clear hx
 refine zn ?_
 refine qV (.bool false) ?_
 refine zq (.bool false) ?_
 refine zd X18 (0) (rc ry) (H26.out.range (i := 0) (by rfl) 0 4) Tryz.underlying27 ?_
 refine zc (HSA.out _ H26.out.ext) ?_
 rintro e w30 ⟨rfl, hx⟩
 have H31 := zH (H26.out.step hx)
 clear hx
 refine zn ?_
 refine qV (.bool true) ?_
 refine zq (.bool true) ?_
 go_upto_region 2 with fail
 refine wp_region_lit ?_
 refine zc (example_any _) ?_
 rintro e w35 ⟨rfl, hx⟩
 have H36 := zH (H31.out.step hx)
 clear hx
 refine zn ?_
 refine zq (.bool true) ?_
 go_wp2_with fail
 go_ret
 exact ⟨rfl, H36.out.ext⟩
set_option maxRecDepth 20000 in
set_option maxHeartbeats 4000000 in
theorem walkT (A : Option Addr) (rs : List Ring) (cap : Nat)  (ry : RV) (y : Rat) (w : World) (hs : ∀ W, Ext w W → Calls Tryz.prog 17 #[.slice A rs.length cap] W fun e w' => e = .returned (.bool true) ∧ Ext W w') (ha : ∀ W, Ext w W → Calls Tryz.prog 7 #[.agg #[.bool ry.n, .slice ry.p ry.l ry.c, .bool ry.m, .slice ry.p2 ry.l2 ry.c2]] W fun e w' => e = .returned (.bool true) ∧ Ext W w') (hu : RingsV w (.slice A rs.length cap) rs) (hy : ry.In 20 w y) (hn : rs.length ≤ 100000) (hr : ∀ r, r ∈ rs → r.length ≤ 100000) :
  Calls Tryz.prog 4 #[.slice A rs.length cap, .agg #[.bool ry.n, .slice ry.p ry.l ry.c, .bool ry.m, .slice ry.p2 ry.l2 ry.c2]] w fun e w' => e = .returned (.bool true) ∧ Ext w w' := by
 have HS := zH hs
 clear hs
 have HSA := zH ha
 clear ha
 have HU := zH hu
 have RY := zH hy
 have HN := zH hn
 have HR := zH hr
 have h1L : 1 ≤ 20 := by decide
 clear hu hy hn hr
 go_enter Tryz.func4, Tryz.ntmps4
 have H0 := zH (Hp.start w)
 go_upto_region 0 with fail
 refine wp_region_lit ?_
 refine mv_alloc (T := 27) (zs := [.bool ry.n, .slice ry.p ry.l ry.c, .bool ry.m, .slice ry.p2 ry.l2 ry.c2]) (by rfl) (by go_simp) H0.out (by simp [NoUL]) ?_
 intro X39 w40 hh hx hge
 have H41 := zH (show Hp w w40 [.blk X39 27 (rc ry)] from hh)
 clear hh hx hge
 try simp only [Act.put, zA, zB, zC]
 refine zq (.bool false) ?_
 go_upto_region 1 with fail
 refine wp_region_lit ?_
 refine qV (.slice A rs.length cap) ?_
 refine zc (HS.out _ H41.out.ext) ?_
 rintro e w46 ⟨rfl, hx⟩
 have H47 := zH (H41.out.step hx)
 clear hx
 refine zn ?_
 refine qV (.bool false) ?_
 refine zq (.bool false) ?_
 refine zd X39 (0) (rc ry) (H47.out.range (i := 0) (by rfl) 0 4) Tryz.underlying27 ?_
 refine zc (HSA.out _ H47.out.ext) ?_
 rintro e w51 ⟨rfl, hx⟩
 have H52 := zH (H47.out.step hx)
 clear hx
 refine zn ?_
 refine qV (.bool false) ?_
 refine zq (.bool false) ?_
 go_upto_region 3 with fail
 refine wp_region_lit ?_
 refine qV (.slice A rs.length cap) ?_
 refine zd X39 (0) (rc ry) (H52.out.range (i := 0) (by rfl) 0 4) Tryz.underlying27 ?_
 refine zc (crossings_any 20 (.slice A rs.length cap) rs ry y _ (HU.out.ext H52.out.ext) (RY.out.dig H52.out.dig0) h1L (by omega) HN.out HR.out) ?_
 rintro e w57 ⟨A158, c158, A258, c258, n_, ms58, rfl, rfl, hr1_, hr2_, hok_, hcv_, hx⟩
 have HVC58 := zH hcv_
 have HOC58 := zH hok_
 obtain ⟨Ax_, cx_, hv_, hA_⟩ := RowN.form hr1_
 obtain rfl : A158 = Ax_ := by injection hv_
 have HXA58 := zH hA_
 clear hv_ hA_ hcv_ hok_
 obtain ⟨Ay_, cy_, hv_, hA_⟩ := RowN.form hr2_
 obtain rfl : A258 = Ay_ := by injection hv_
 have HWA58 := zH hA_
 clear hv_ hA_
 have H59 := zH (show Hp w w57 [.blk X39 27 (rc ry), ro 27 4 A158 ms58.length c158 MkE.cx ms58, ro 3 1 A258 ms58.length c258 MkE.cu ms58] from H52.out.addRow2 hx hr1_ hr2_ (by decide))
 clear hr1_ hr2_
 clear hx
 refine zn ?_
 refine qV (.tuple #[.slice A158 ms58.length c158, .slice A258 ms58.length c258]) ?_
 refine zq (.slice A158 ms58.length c158) ?_
 refine qV (.slice A258 ms58.length c258) ?_
 refine zq (.slice A158 ms58.length c158) ?_
 refine zq (.slice A258 ms58.length c258) ?_
 go_upto_region 4 with fail
 refine wp_region_lit ?_
 refine qV (.slice A rs.length cap) ?_
 refine zd X39 (0) (rc ry) (H59.out.range (i := 0) (by rfl) 0 4) Tryz.underlying27 ?_
 refine zc (rcrossings_any 20 (.slice A rs.length cap) rs ry y _ (HU.out.ext H59.out.ext) (RY.out.dig H59.out.dig0) h1L (by omega) HN.out HR.out) ?_
 rintro e w67 ⟨A168, c168, A268, c268, n_, ms68, rfl, rfl, hr1_, hr2_, hok_, hcv_, hx⟩
 have HVC68 := zH hcv_
 have HOC68 := zH hok_
 obtain ⟨Ax_, cx_, hv_, hA_⟩ := RowN.form hr1_
 obtain rfl : A168 = Ax_ := by injection hv_
 have HXA68 := zH hA_
 clear hv_ hA_ hcv_ hok_
 obtain ⟨Ay_, cy_, hv_, hA_⟩ := RowN.form hr2_
 obtain rfl : A268 = Ay_ := by injection hv_
 have HWA68 := zH hA_
 clear hv_ hA_
 have H69 := zH (show Hp w w67 [.blk X39 27 (rc ry), ro 27 4 A158 ms58.length c158 MkE.cx ms58, ro 3 1 A258 ms58.length c258 MkE.cu ms58, ro 27 4 A168 ms68.length c168 MkE.cx ms68, ro 3 1 A268 ms68.length c268 MkE.cu ms68] from H59.out.addRow2 hx hr1_ hr2_ (by decide))
 have D69 := zH (Dig.of_ext hx)
 clear hr1_ hr2_
 clear hx
 refine zn ?_
 refine qV (.tuple #[.slice A168 ms68.length c168, .slice A268 ms68.length c268]) ?_
 refine zq (.slice A168 ms68.length c168) ?_
 refine qV (.slice A268 ms68.length c268) ?_
 refine zq (.slice A168 ms68.length c168) ?_
 refine zq (.slice A268 ms68.length c268) ?_
 go_upto_region 5 with fail
 refine wp_region_lit ?_
 refine qV (.slice A158 ms58.length c158) ?_
 refine zq (.slice A168 ms68.length c168) ?_
 refine zc (sameAll_any 60000 (.slice A158 ms58.length c158) (.slice A168 ms68.length c168) ((marksV y rs).map Prod.fst) _ (by have h_ := RsV.of_row (L := 60000) MkE.a MkE.q (t := 27) (H69.out.row (i := 1) (by rfl)) rfl (fun e_ he_ => by have h1_ := ((HOC58.out e_ he_).dig D69.out); exact ⟨h1_.1, Nat.le_trans h1_.2.1 (by decide)⟩); rwa [show List.map MkE.q ms58 = (marksV y rs).map Prod.fst from by rw [← HVC58.out, List.map_map]; rfl] at h_) (by have h_ := RsV.of_row (L := 60000) MkE.a MkE.q (t := 27) (H69.out.row (i := 3) (by rfl)) rfl (fun e_ he_ => by have h1_ := (HOC68.out e_ he_); exact ⟨h1_.1, Nat.le_trans h1_.2.1 (by decide)⟩); rwa [show List.map MkE.q ms68 = (marksV y rs).map Prod.fst from by rw [← HVC68.out, List.map_map]; rfl] at h_) (by decide) (by rw [List.length_map]; exact Nat.le_trans (marksV_len y rs) (by decide))) ?_
 rintro e w78 ⟨rfl, hx⟩
 have H79 := zH (H69.out.step hx)
 clear hx
 refine zn ?_
 refine qV (.bool true) ?_
 refine zq (.slice A258 ms58.length c258) ?_
 refine qV (.slice A268 ms68.length c268) ?_
 refine zc (equalInts_any (.slice A258 ms58.length c258) (.slice A268 ms68.length c268) ((marksV y rs).map Prod.snd) _ (by have h_ := ints_of_row (H79.out.row (i := 2) (by rfl)) rfl; rwa [show List.map MkE.up ms58 = (marksV y rs).map Prod.snd from by rw [← HVC58.out, List.map_map]; rfl] at h_) (by have h_ := ints_of_row (H79.out.row (i := 4) (by rfl)) rfl; rwa [show List.map MkE.up ms68 = (marksV y rs).map Prod.snd from by rw [← HVC68.out, List.map_map]; rfl] at h_) (by rw [List.length_map]; exact Nat.le_trans (marksV_len y rs) (by decide))) ?_
 rintro e w84 ⟨rfl, hx⟩
 have H85 := zH (H79.out.step hx)
 clear hx
 refine zn ?_
 refine qV (.bool true) ?_
 refine zq (.bool true) ?_
 refine zc (example_any _) ?_
 rintro e w89 ⟨rfl, hx⟩
 have H90 := zH (H85.out.step hx)
 clear hx
 refine zn ?_
 refine qV (.bool true) ?_
 refine zq (.bool true) ?_
 go_wp2_with fail
 go_ret
 exact ⟨rfl, H90.out.ext⟩

theorem walk (A : Option Addr) (rs : List Ring) (cap : Nat)  (ry : RV) (w : World) (hv : RingsV w (.slice A rs.length cap) rs ∧ ∀ r, r ∈ rs → r.length ≤ maxLen) (hm : rs.length ≤ maxLen) (hy : ry.Raw w) :
  Calls Tryz.prog 4 #[.slice A rs.length cap, .agg #[.bool ry.n, .slice ry.p ry.l ry.c, .bool ry.m, .slice ry.p2 ry.l2 ry.c2]] w fun e w' => e = .returned (.bool true) ∧ Ext w w' := by
 have hs := fun W (x : Ext w W) => smallPolygons_any (.slice A rs.length cap) rs W (hv.1.ext x) hm
 have sa := fun W (_ : Ext w W) => small_any ry W
 cases h0 : smPoly rs with
 | false => rw [h0] at hs; exact walkF0 A rs cap  ry w hs
 | true =>
  rw [h0] at hs
  cases h1 : ry.sm with
  | false => rw [h1] at sa; exact walkF1 A rs cap  ry w hs sa
  | true =>
   rw [h1] at sa
   obtain ⟨y, hq⟩ := RV.sm_in hy h1
   obtain ⟨h2, h3⟩ := smPoly_small h0
   exact walkT A rs cap  ry y w hs sa hv.1 hq h2 h3
set_option maxRecDepth 100000 in
theorem lifted (os : Os) (started : os.Started) (H : Type) (enc : TypeId × Value → H) :
  ReturnsInHanded {} Tryz.checked os 4 .any (Rows.scanlineCrossingsSpec.pre6 enc Tryz.prog Tryz.f4 Rows.scanlineCrossingsRow.domain false) (Rows.scanlineCrossingsSpec.post enc Tryz.prog Tryz.f4 false true false false) := by
 refine returnsInHanded_of_change (C := Tryz.checked) own started (by kernel_rfl) Tryz.func4
  (ChangeSpec.witness6 (enc := enc) (C := Tryz.checked) false ⟨#[], #[.slice none 0 0, .agg z4], []⟩ 8 (by kernel_rfl) (by kernel_rfl) (by kernel_rfl) (by kernel_rfl)) ?_
 intro W base args ds gs before hval0 hW hcnd _
 have hval : ∀ (j : Nat) t v, Tryz.f4.params[j]? = some t → args[j]? = some v → Value.okWide Tryz.prog W .any base t v := hval0
 have hW' := hW
 obtain ⟨p, q, hA0, hV, rfl, hfz, hnd⟩ := hW
 have hA : DataW.TrodAll enc Tryz.prog W 0 (fun _ => true) true Tryz.f4.params.toList args.toList ds p := hA0
 rw [Tryz.params4] at hA hval
 obtain ⟨v0, vs0, d0, ds0, p0, q0, hargs, rfl, rfl, h0, r0⟩ := trodAll_cons hA
 obtain ⟨v1, vs1, d1, ds1, p1, q1, rfl, rfl, rfl, h1, r1⟩ := trodAll_cons r0
 obtain ⟨rfl, rfl, rfl⟩ := trodAll_nil r1
 obtain rfl : args = #[v0, v1] := by cases args; simp_all
 obtain ⟨rfl, rfl⟩ := trodVars_none hV
 have k0 := h0
 have lt0 : ∀ x ∈ p0, x.block < W.heap.size := by obtain ⟨m, hm⟩ := k0; exact DataW.trod_lt m _ _ _ hm
 obtain ⟨yA, zl0, yc, rfl⟩ := okWide_slice Tryz.underlying39 (hval 0 39 v0 rfl rfl)
 obtain ⟨zA0, yl, zc0, ze0, g0⟩ := (by obtain ⟨m, hm⟩ := h0; exact rings_openQ hm : ∃ zB zl zc, [Value.slice yA zl0 yc] = [.slice zB (List.length zl) zc] ∧ zl.length ≤ maxLen ∧ RingsV W (.slice zB zl.length zc) zl ∧ ∀ r, r ∈ zl → r.length ≤ maxLen)
 obtain ⟨rfl, rfl, rfl⟩ : yA = zA0 ∧ zl0 = yl.length ∧ yc = zc0 := by simpa using ze0
 have k1 := h1
 have lt1 : ∀ x ∈ p1, x.block < W.heap.size := by obtain ⟨m, hm⟩ := k1; exact DataW.trod_lt m _ _ _ hm
 obtain ⟨⟨l1⟩, rfl, _⟩ := okWide_structQ Tryz.underlying27 (hval 1 27 v1 rfl rfl)
 obtain ⟨a, rfl, g1⟩ : ∃ a : RV, l1 = [.bool a.n, .slice a.p a.l a.c, .bool a.m, .slice a.p2 a.l2 a.c2] ∧ a.Raw W := by
  obtain ⟨m, hm⟩ := h1
  exact rat_open hm
 clear hA0 hval0
 refine (walk yA yl yc a W g0.2 g0.1 g1).mono fun e W' ⟨he, hx⟩ => ?_
 subst he
 have bel := hx.below
 exact ⟨_, rfl, _, _, _, [], _, [], hW', trodAll_mk1 (shut_bool Tryz.underlying4 _), (trodAll_cons_mk (Below.trod laidOut (by kernel_rfl) (of_decide_eq_true (by kernel_rfl)) k0 bel lt0) (trodAll_cons_mk (Below.trod laidOut (by kernel_rfl) (of_decide_eq_true (by kernel_rfl)) k1 bel lt1) trodAll_mk0)), rfl, bel.frame _, fun h => by cases h⟩

theorem proved : Rows.ScanlineCrossingsSaid :=
  OpenClaim.holds_of_wide 4 Tryz.f4 rfl rfl rfl rfl rfl rfl rfl ⟨rfl, rfl, rfl, rfl, rfl⟩ rfl rfl rfl rfl rfl (by kernel_rfl) Tryz.func4 (by kernel_rfl)
    (of_decide_eq_true (by kernel_rfl)) (by unfold Func.isWrapper; first | (rw [if_pos (by decide +kernel)]; kernel_rfl) | (rw [if_neg (by decide +kernel)]; exact ⟨rfl, rfl⟩))
    (fun os started H enc _ => lifted os started H enc)
#print axioms proved
end Go.Proofs.YtaeeeailoiioaabGreat.crossings
