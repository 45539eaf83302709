/- Contracts that the claim stands on: XKeep to XPSub. -/
import Derived.Test.YtaeeeailoiioaadGreatM7
namespace Go.Proofs.YtaeeeailoiioaadGreat
open Go.RowKit
attribute [local go_sem ↓] Go.wp_at_zero Go.wp_at_succ run_max_ii run_min_ii
def KeepRet (L : Nat) (p q : Rat) (Bo : Nat) (A : Option Addr) (n c : Nat) (es : List SpE) (w0 w w' : World) : Prop :=
  ∃ A' c' n' es', Hp w0 w' [.blk Bo 22 [.slice A' n' c'], .row 34 8 (.slice A' n' c') n' (List.flatMap SpE.cells es')] ∧ Dig w w' ∧ Fr (fun kz => kz = Bo ∨ Value.ownBlock (.slice A n c) = some kz) w w' ∧
    (∀ k, Value.ownBlock (.slice A' n' c') = some k → Value.ownBlock (.slice A n c) = some k ∨ w.heap.size ≤ k) ∧ List.map SpE.vl es' = List.map SpE.vl es ++ some2 [(p, q)] ∧ n' = es'.length ∧ n' ≤ n + 1 ∧ ∀ e, e ∈ es' → e.Ok L w'
theorem some2_one {p q : Rat} : some2 [(p, q)] = if p < q then [(p, q)] else [] := by rw [some2_cons]; rfl
set_option maxRecDepth 20000 in
set_option maxHeartbeats 4000000 in
theorem keep_any (L : Nat) (hL : L ≤ 60000) (a b : RV) (p q : Rat) (Bo : Nat) (A : Option Addr) (n c : Nat) (es : List SpE) (w0 w : World) (hh : Hp w0 w [.blk Bo 22 [.slice A n c], .row 34 8 (.slice A n c) n (List.flatMap SpE.cells es)])
  (ha : a.Is w p) (hb : b.Is w q) (h1 : Nm.rl p ≤ L) (h2 : Nm.rl q ≤ L) (hn : n = es.length) (hn2 : n ≤ 20000) (hok : ∀ e, e ∈ es → e.Ok L w) :
  Calls Tryz.prog 26 #[.agg #[.bool a.n, .slice a.p a.l a.c, .bool a.m, .slice a.p2 a.l2 a.c2], .agg #[.bool b.n, .slice b.p b.l b.c, .bool b.m, .slice b.p2 b.l2 b.c2], .pointer (some ⟨Bo, 0, none⟩)] w fun e w' => e = .returned (.tuple #[]) ∧ KeepRet L p q Bo A n c es w0 w w' := by
 have RA := zH ha
 have RB := zH hb
 have BA := zH h1
 have BB := zH h2
 have HN := zH hn
 have HOK := zH hok
 have H0 := zH hh
 have HN2 := zH hn2
 clear ha hb h1 h2 hn hn2 hok hh
 go_enter Tryz.func26, Tryz.ntmps26
 go_upto_region 0 with fail
 refine wp_region_lit ?_
 refine mv_alloc (T := 32) (zs := [.bool a.n, .slice a.p a.l a.c, .bool a.m, .slice a.p2 a.l2 a.c2]) (by rfl) (by go_simp) H0.out (by simp [NoUL]) ?_
 intro X1 w2 hh hx hge
 have H4 := zH (show Hp w0 w2 [.blk Bo 22 [.slice A n c], ro 34 8 A n c SpE.cells es, .blk X1 32 (rc a)] from hh)
 have D4 := zH (Dig.of_ext hx)
 have K6 := zH (show Fr (fun kz => kz = Bo ∨ Value.ownBlock (.slice A n c) = some kz) w w2 from (Fr.of_ext (G := fun kz => kz = Bo ∨ Value.ownBlock (.slice A n c) = some kz) (Ext.refl w)).trans (Fr.of_ext hx))
 clear hh hx hge
 try simp only [Act.put, zA, zB, zC]
 refine mv_alloc (T := 32) (zs := [.bool b.n, .slice b.p b.l b.c, .bool b.m, .slice b.p2 b.l2 b.c2]) (by rfl) (by go_simp) H4.out (by simp [NoUL]) ?_
 intro X8 w9 hh hx hge
 have H11 := zH (show Hp w0 w9 [.blk Bo 22 [.slice A n c], ro 34 8 A n c SpE.cells es, .blk X1 32 (rc a), .blk X8 32 (rc b)] from hh)
 have D11 := zH (Dig.of_ext hx)
 have K13 := zH (show Fr (fun kz => kz = Bo ∨ Value.ownBlock (.slice A n c) = some kz) w w9 from K6.out.trans (Fr.of_ext hx))
 clear hh hx hge
 try simp only [Act.put, zA, zB, zC]
 by_cases c15 : p < q
 ·have CL := zH c15
  clear c15
  go_upto_region 1 with fail
  refine wp_region_lit ?_
  refine zd X1 (0) (rc a) (H11.out.range (i := 2) (by rfl) 0 4) Tryz.underlying32 ?_
  refine zd X8 (0) (rc b) (H11.out.range (i := 3) (by rfl) 0 4) Tryz.underlying32 ?_
  have DD17 := zH ((D4.out.trans D11.out))
  refine zc (pCmp (L := 60000) (RV.Is.nin (RA.out.dig DD17.out) (Nat.le_trans BA.out (by omega))) (RV.Is.nin (RB.out.dig DD17.out) (Nat.le_trans BB.out (by omega))) (by omega)) ?_
  rintro e w16 ⟨rfl, hx⟩
  have H18 := zH (H11.out.step hx)
  have D18 := zH (Dig.of_ext hx)
  have K20 := zH (show Fr (fun kz => kz = Bo ∨ Value.ownBlock (.slice A n c) = some kz) w w16 from K13.out.trans (Fr.of_ext hx))
  clear hx
  refine zn ?_
  refine zp (w' := w16) (.bool true) (by exact ezl (e := (dec_t (rcmp_lt.2 CL.out)))) ?_
  go_upto_region 2 with fail
  refine wp_region_lit ?_
  refine ze Bo 0 (.slice A n c) (H18.out.range (i := 0) (by rfl) 0 1) ?_
  refine zd X1 (0) (rc a) (H18.out.range (i := 2) (by rfl) 0 4) Tryz.underlying32 ?_
  refine zd X8 (0) (rc b) (H18.out.range (i := 3) (by rfl) 0 4) Tryz.underlying32 ?_
  refine zq (.agg #[.bool a.n, .slice a.p a.l a.c, .bool a.m, .slice a.p2 a.l2 a.c2, .bool b.n, .slice b.p b.l b.c, .bool b.m, .slice b.p2 b.l2 b.c2]) ?_
  refine zp (w' := (w16.alloc (.cells ([.bool a.n, .slice a.p a.l a.c, .bool a.m, .slice a.p2 a.l2 a.c2, .bool b.n, .slice b.p b.l b.c, .bool b.m, .slice b.p2 b.l2 b.c2] : List Value).toArray 34))) (.slice (some ⟨w16.heap.size, 0, none⟩) 1 1) (by go_simp) ?_
  refine mv_app (by rfl) _ _ _ (by rfl) elSpan (by rfl) H18.out (ix := 1) (by rfl) 1 1 [.bool a.n, .slice a.p a.l a.c, .bool a.m, .slice a.p2 a.l2 a.c2, .bool b.n, .slice b.p b.l b.c, .bool b.m, .slice b.p2 b.l2 b.c2] (by rfl) rfl (by simp [Value.oneCell']) (by simp [NoUL]) (by decide) (by unfold maxLen; exact (by have ob0 := HN2.out; omega)) (by have ob0 := HN2.out; omega) ?_
  intro g24 cp25 w23 hf hh hd hg
  have Fg24 := zH hf
  clear hf
  rw [show List.flatMap SpE.cells es ++ [.bool a.n, .slice a.p a.l a.c, .bool a.m, .slice a.p2 a.l2 a.c2, .bool b.n, .slice b.p b.l b.c, .bool b.m, .slice b.p2 b.l2 b.c2] = List.flatMap SpE.cells (es ++ [(⟨a, b, p, q⟩ : SpE)]) from flat_snoc SpE.cells _ (⟨a, b, p, q⟩ : SpE)] at hh
  have H26 := zH (show Hp w0 w23 [.blk Bo 22 [.slice A n c], ro 34 8 (some ⟨g24, 0, none⟩) (n + 1) cp25 SpE.cells (es ++ [(⟨a, b, p, q⟩ : SpE)]), .blk X1 32 (rc a), .blk X8 32 (rc b)] from hh)
  have D26 := zH (hd)
  have K28 := zH (show Fr (fun kz => kz = Bo ∨ Value.ownBlock (.slice A n c) = some kz) w w23 from (K20.out.trans (Fr.of_ext ((Ext.refl _).alloc _))).trans_new hg (fun j hj => .inl (.inr hj)))
  clear hh hd hg
  try simp only [Act.put, zA, zB, zC]
  refine mv_st1 (by rfl) _ _ _ (by rfl) H26.out (ix := 0) (by rfl) 0 (.slice (some ⟨g24, 0, none⟩) (n + 1) cp25) (by rfl) (by rfl) (by simp) (by kernel_rfl) (by simp [Value.cells]) (by simp [Value.oneCell']) (by simp [NoUL]) ?_
  intro w29 hh hd ho
  have H30 := zH (show Hp w0 w29 [.blk Bo 22 [.slice (some ⟨g24, 0, none⟩) (n + 1) cp25], ro 34 8 (some ⟨g24, 0, none⟩) (n + 1) cp25 SpE.cells (es ++ [(⟨a, b, p, q⟩ : SpE)]), .blk X1 32 (rc a), .blk X8 32 (rc b)] from hh)
  have D30 := zH (hd)
  have K32 := zH (show Fr (fun kz => kz = Bo ∨ Value.ownBlock (.slice A n c) = some kz) w w29 from K28.out.trans_new ho (fun j hj => .inl (.inl (by injection hj with hj; exact hj.symm))))
  clear hh hd ho
  (try simp only [Act.put])
  have DD33 := zH (((((D4.out.trans D11.out).trans D18.out).trans D26.out).trans D30.out))
  go_wp2_with fail
  first | refine bodyPost_end (v := .tuple #[]) (results_none rfl _ _ _) rfl ?_ | refine bodyPost_ret (v := .tuple #[]) (results_none rfl _ _ _) rfl ?_
  exact ⟨rfl, some ⟨g24, 0, none⟩, cp25, n + 1, es ++ [(⟨a, b, p, q⟩ : SpE)], H30.out.take 2, DD33.out, K32.out, (fun k_ hk_ => by have e_ : g24 = k_ := (by simpa [Value.ownBlock] using hk_); subst e_; exact Fg24.out.imp id (fun h_ => Nat.le_trans K20.out.size h_)), (by rw [List.map_append, some2_one, if_pos CL.out]; rfl), (by rw [List.length_append, ← HN.out]; rfl), Nat.le_refl _, (fun g_ hg_ => (List.mem_append.1 hg_).elim (fun hg_ => (HOK.out g_ hg_).dig DD33.out) (fun hg_ => by rw [List.mem_singleton.1 hg_]; exact ⟨(RA.out.dig DD33.out), (RB.out.dig DD33.out), BA.out, BB.out⟩))⟩
 have CL := zH c15
 clear c15
 go_upto_region 1 with fail
 refine wp_region_lit ?_
 refine zd X1 (0) (rc a) (H11.out.range (i := 2) (by rfl) 0 4) Tryz.underlying32 ?_
 refine zd X8 (0) (rc b) (H11.out.range (i := 3) (by rfl) 0 4) Tryz.underlying32 ?_
 have DD35 := zH ((D4.out.trans D11.out))
 refine zc (pCmp (L := 60000) (RV.Is.nin (RA.out.dig DD35.out) (Nat.le_trans BA.out (by omega))) (RV.Is.nin (RB.out.dig DD35.out) (Nat.le_trans BB.out (by omega))) (by omega)) ?_
 rintro e w34 ⟨rfl, hx⟩
 have H36 := zH (H11.out.step hx)
 have D36 := zH (Dig.of_ext hx)
 have K38 := zH (show Fr (fun kz => kz = Bo ∨ Value.ownBlock (.slice A n c) = some kz) w w34 from K13.out.trans (Fr.of_ext hx))
 clear hx
 refine zn ?_
 refine zp (w' := w34) (.bool false) (by exact ezl (e := (dec_f (fun hh => CL.out (rcmp_lt.1 hh))))) ?_
 have DD40 := zH (((D4.out.trans D11.out).trans D36.out))
 go_wp2_with fail
 first | refine bodyPost_end (v := .tuple #[]) (results_none rfl _ _ _) rfl ?_ | refine bodyPost_ret (v := .tuple #[]) (results_none rfl _ _ _) rfl ?_
 exact ⟨rfl, A, c, n, es, H36.out.take 2, DD40.out, K38.out, (fun k_ hk_ => .inl hk_), (by rw [some2_one, if_neg CL.out, List.append_nil]), HN.out, Nat.le_succ _, (fun g_ hg_ => (HOK.out g_ hg_).dig DD40.out)⟩

set_option maxRecDepth 20000 in
set_option maxHeartbeats 4000000 in
theorem subt_any (L : Nat) (u v : Value) (ps qs : List QQ) (w : World) (hu : SpansV L w u ps) (hv : SpansV L w v qs) (h1L : 1 ≤ L) (hL : L ≤ 60000) (hn : ps.length ≤ 60 ∧ qs.length ≤ 60) :
  Calls Tryz.prog 11 #[u, v] w fun e w' => ∃ v es, e = .returned v ∧ SpR L w' w.heap.size v es ∧ es.map SpE.vl = subV (mergeV ps) (mergeV qs) ∧ es.length ≤ ps.length + qs.length ∧ Ext w w' := by
 obtain ⟨Aa, ca, ea, rfl, he_, hc_, ho_⟩ := SpansV.list hu
 have HEa := zH he_
 have HCa := zH hc_
 have HOa := zH ho_
 have HUa := zH hu
 clear he_ hc_ ho_
 obtain ⟨Ab, cb, eb, rfl, he_, hc_, ho_⟩ := SpansV.list hv
 have HEb := zH he_
 have HCb := zH hc_
 have HOb := zH ho_
 have HUb := zH hv
 clear he_ hc_ ho_
 clear hu hv
 go_enter Tryz.func11, Tryz.ntmps11
 have H0 := zH (Hp.start w)
 go_upto_region 0 with fail
 refine wp_region_lit ?_
 refine zq (.slice none 0 0) ?_
 go_upto_region 1 with fail
 refine wp_region_lit ?_
 refine qV (.slice Ab eb.length cb) ?_
 refine zc (merge_any L (.slice Ab eb.length cb) qs _ (HUb.out.ext H0.out.ext) h1L (by omega) (by omega)) ?_
 rintro e w3 ⟨v_, es4, rfl, hv1_, hv2_, hv3_, hx⟩
 have VL4 := zH hv2_
 have LN4 := zH hv3_
 have OK4 := zH hv1_.2
 obtain ⟨A4, c4, rfl, hA_⟩ := RowN.form hv1_.1
 have HA4 := zH hA_
 clear hv2_ hv3_ hA_
 have H5 := zH (show Hp w w3 [ro 34 8 A4 es4.length c4 SpE.cells es4] from H0.out.addRow hx hv1_.1)
 clear hv1_
 clear hx
 refine zn ?_
 refine zq (.slice A4 es4.length c4) ?_
 go_upto_region 2 with fail
 refine wp_region_lit ?_
 refine mv_alloc (T := 22) (zs := [.slice none 0 0]) (by rfl) (by go_simp) H5.out (by simp [NoUL]) ?_
 intro X8 w9 hh hx hge
 have H10 := zH (show Hp w w9 [ro 34 8 A4 es4.length c4 SpE.cells es4, .blk X8 22 [.slice none 0 0]] from hh)
 have D10 := zH (Dig.of_ext hx)
 clear hh hx hge
 try simp only [Act.put, zA, zB, zC]
 have H13 := zH (show Hp w w9 [ro 34 8 A4 es4.length c4 SpE.cells es4, .blk X8 22 [.slice none 0 0], ro 34 8 none 0 0 SpE.cells ([])] from H10.out.addNil 34 8)
 go_upto_region 3 with fail
 refine wp_region_lit ?_
 refine qV (.func (.func 26) #[] #[.pointer (some ⟨X8, 0, none⟩)]) ?_
 refine zq (.func (.func 26) #[] #[.pointer (some ⟨X8, 0, none⟩)]) ?_
 go_upto_region 4 with fail
 refine wp_region_lit ?_
 refine qV (.slice Aa ea.length ca) ?_
 refine zc (merge_any L (.slice Aa ea.length ca) ps _ (HUa.out.ext H13.out.ext) h1L (by omega) (by omega)) ?_
 rintro e w17 ⟨v_, es18, rfl, hv1_, hv2_, hv3_, hx⟩
 have VL18 := zH hv2_
 have LN18 := zH hv3_
 have OK18 := zH hv1_.2
 obtain ⟨A18, c18, rfl, hA_⟩ := RowN.form hv1_.1
 have HA18 := zH hA_
 clear hv2_ hv3_ hA_
 have H19 := zH (show Hp w w17 [ro 34 8 A4 es4.length c4 SpE.cells es4, .blk X8 22 [.slice none 0 0], ro 34 8 none 0 0 SpE.cells ([]), ro 34 8 A18 es18.length c18 SpE.cells es18] from H13.out.addRow hx hv1_.1)
 have D19 := zH (Dig.of_ext hx)
 clear hv1_
 clear hx
 refine zn ?_
 refine qV (.int .i64 ((es18.length : Nat) : Int)) ?_
 refine zq (.int .i64 0) ?_
 have hpl : es18.length ≤ 60 := by have := LN18.out; omega
 have hql : es4.length ≤ 60 := by have := LN4.out; omega
 go_wp2_with fail
 go_loopg [19] (es18.length) (fun cq v23 wr => ∃ (i : Nat) (m : Nat) (es : List SpE) (A1 : Option Addr) (c1 : Nat), cq = es18.length - i ∧ v23 = .int .i64 (i : Int) ∧ (i ≤ es18.length) ∧ (m = es.length ∧ m ≤ i * 61) ∧ (es.map SpE.vl = some2 (subRow es18 es4 i)) ∧ (∀ e, e ∈ es → e.Ok L wr) ∧ Hp w wr [.row 34 8 (.slice A4 es4.length c4) (es4.length) (List.flatMap SpE.cells es4), .blk X8 22 [.slice A1 m c1], .row 34 8 (.slice A1 m c1) (m) (List.flatMap SpE.cells es), .row 34 8 (.slice A18 es18.length c18) (es18.length) (List.flatMap SpE.cells es18)] ∧ Dig w17 wr)
 case atStart => exact ⟨0, 0, [], none, 0, rfl, rfl, Nat.zero_le _, ⟨rfl, Nat.le_refl _⟩, rfl, (by simp), H19.out, Dig.refl _⟩
 case round =>
  obtain ⟨i, m, es, A1, c1, rfl, rfl, q_HKI, q_HM, q_HV, q_HOE, hh_, hd_⟩ := hrel
  generalize wr = w24 at *
  have HKI := zH q_HKI
  clear q_HKI
  have HM := zH q_HM
  clear q_HM
  have HV := zH q_HV
  clear q_HV
  have HOE := zH q_HOE
  clear q_HOE
  have H26 := zH hh_
  have D26 := zH hd_
  clear hh_ hd_ H19
  by_cases c27 : i < es18.length
  ·have HLT := zH c27
   clear c27
   have hlt := HLT.out
   have hlt2 : (i : Int) < (es18.length : Int) := by omega
   obtain ⟨gp, rfl⟩ := HA18.out (by omega)
   obtain ⟨ex, he_⟩ : ∃ ex, es18[i]? = some ex := ⟨_, List.getElem?_eq_getElem hlt⟩
   have HEex := zH he_
   have HOex := zH (OK18.out ex (List.mem_of_getElem? he_))
   have RAex := zH HOex.out.1
   have RBex := zH HOex.out.2.1
   have BAex := zH HOex.out.2.2.1
   have BBex := zH HOex.out.2.2.2
   clear he_
   go_upto_region 6 with fail
   refine wp_region_lit ?_
   refine zp (w' := w24) (.pointer (some ⟨gp, i * 8, none⟩)) (by exact ezi (k := i) Tryz.underlying22 (l := hlt) (f := (Nat.zero_add _).symm)) ?_
   refine zd gp (i * 8) [.bool ex.a.n, .slice ex.a.p ex.a.l ex.a.c, .bool ex.a.m, .slice ex.a.p2 ex.a.l2 ex.a.c2, .bool ex.b.n, .slice ex.b.p ex.b.l ex.b.c, .bool ex.b.m, .slice ex.b.p2 ex.b.l2 ex.b.c2] (H26.out.elem (f := SpE.cells) (i := 3) (by rfl) SpE.len HEex.out) Tryz.underlying34 ?_
   refine mv_alloc (T := 34) (zs := [.bool false, .slice none 0 0, .bool false, .slice none 0 0, .bool false, .slice none 0 0, .bool false, .slice none 0 0]) (by rfl) (by go_simp) H26.out (by simp [NoUL]) ?_
   intro X29 w30 hh hx hge
   have H31 := zH (show Hp w w30 [ro 34 8 A4 es4.length c4 SpE.cells es4, .blk X8 22 [.slice A1 m c1], ro 34 8 A1 m c1 SpE.cells es, ro 34 8 (some ⟨gp, 0, none⟩) es18.length c18 SpE.cells es18, .blk X29 34 [.bool false, .slice none 0 0, .bool false, .slice none 0 0, .bool false, .slice none 0 0, .bool false, .slice none 0 0]] from hh)
   have D31 := zH (Dig.of_ext hx)
   clear hh hx hge
   try simp only [Act.put, zA, zB, zC]
   refine mv_st (by rfl) _ _ _ (by rfl) H31.out (ix := 4) (by rfl) 0 [.bool ex.a.n, .slice ex.a.p ex.a.l ex.a.c, .bool ex.a.m, .slice ex.a.p2 ex.a.l2 ex.a.c2, .bool ex.b.n, .slice ex.b.p ex.b.l ex.b.c, .bool ex.b.m, .slice ex.b.p2 ex.b.l2 ex.b.c2] (by rfl) (by rfl) (by simp) (by kernel_rfl) (by simp [Value.oneCell']) (by simp [NoUL]) ?_
   intro w34 hh hd ho
   have H35 := zH (show Hp w w34 [ro 34 8 A4 es4.length c4 SpE.cells es4, .blk X8 22 [.slice A1 m c1], ro 34 8 A1 m c1 SpE.cells es, ro 34 8 (some ⟨gp, 0, none⟩) es18.length c18 SpE.cells es18, .blk X29 34 [.bool ex.a.n, .slice ex.a.p ex.a.l ex.a.c, .bool ex.a.m, .slice ex.a.p2 ex.a.l2 ex.a.c2, .bool ex.b.n, .slice ex.b.p ex.b.l ex.b.c, .bool ex.b.m, .slice ex.b.p2 ex.b.l2 ex.b.c2]] from hh)
   have D35 := zH (hd)
   clear hh hd ho
   (try simp only [Act.put])
   go_upto_region 7 with fail
   refine wp_region_lit ?_
   refine qV (.pointer (some ⟨X29, 0, none⟩)) ?_
   refine zd X29 (0) (rc ex.a) (H35.out.range (i := 4) (by rfl) 0 4) Tryz.underlying32 ?_
   refine mv_alloc (T := 32) (zs := [.bool false, .slice none 0 0, .bool false, .slice none 0 0]) (by rfl) (by go_simp) H35.out (by simp [NoUL]) ?_
   intro X38 w39 hh hx hge
   have H40 := zH (show Hp w w39 [ro 34 8 A4 es4.length c4 SpE.cells es4, .blk X8 22 [.slice A1 m c1], ro 34 8 A1 m c1 SpE.cells es, ro 34 8 (some ⟨gp, 0, none⟩) es18.length c18 SpE.cells es18, .blk X29 34 [.bool ex.a.n, .slice ex.a.p ex.a.l ex.a.c, .bool ex.a.m, .slice ex.a.p2 ex.a.l2 ex.a.c2, .bool ex.b.n, .slice ex.b.p ex.b.l ex.b.c, .bool ex.b.m, .slice ex.b.p2 ex.b.l2 ex.b.c2], .blk X38 32 rz] from hh)
   have D40 := zH (Dig.of_ext hx)
   clear hh hx hge
   try simp only [Act.put, zA, zB, zC]
   refine mv_st (by rfl) _ _ _ (by rfl) H40.out (ix := 5) (by rfl) 0 [.bool ex.a.n, .slice ex.a.p ex.a.l ex.a.c, .bool ex.a.m, .slice ex.a.p2 ex.a.l2 ex.a.c2] (by rfl) (by rfl) (by simp) (by kernel_rfl) (by simp [Value.oneCell']) (by simp [NoUL]) ?_
   intro w43 hh hd ho
   have H44 := zH (show Hp w w43 [ro 34 8 A4 es4.length c4 SpE.cells es4, .blk X8 22 [.slice A1 m c1], ro 34 8 A1 m c1 SpE.cells es, ro 34 8 (some ⟨gp, 0, none⟩) es18.length c18 SpE.cells es18, .blk X29 34 [.bool ex.a.n, .slice ex.a.p ex.a.l ex.a.c, .bool ex.a.m, .slice ex.a.p2 ex.a.l2 ex.a.c2, .bool ex.b.n, .slice ex.b.p ex.b.l ex.b.c, .bool ex.b.m, .slice ex.b.p2 ex.b.l2 ex.b.c2], .blk X38 32 (rc ex.a)] from hh)
   have D44 := zH (hd)
   clear hh hd ho
   (try simp only [Act.put])
   go_upto_region 8 with fail
   refine wp_region_lit ?_
   refine qV (.slice A4 es4.length c4) ?_
   refine zq (.int .i64 ((es4.length : Nat) : Int)) ?_
   refine zq (.int .i64 0) ?_
   have DD49 := zH ((((D31.out.trans D35.out).trans D40.out).trans D44.out))
   have DD50 := zH (((((D26.out.trans D31.out).trans D35.out).trans D40.out).trans D44.out))
   go_wp2_with fail
   go_loopg [27] (es4.length) (fun cq v51 wr => ∃ (k : Nat) (m2 : Nat) (es2 : List SpE) (A2 : Option Addr) (c2 : Nat) (rf : RV) (f : Rat), cq = es4.length - k ∧ v51 = .int .i64 (k : Int) ∧ (k ≤ es4.length) ∧ (m2 = es2.length ∧ m2 ≤ i * 61 + k) ∧ (es2.map SpE.vl = some2 (subRow es18 es4 i ++ (subF ex es4 k).1)) ∧ (∀ e, e ∈ es2 → e.Ok L wr) ∧ (rf.Is wr f) ∧ (Nm.rl f ≤ L) ∧ (f = (subF ex es4 k).2) ∧ Hp w wr [.row 34 8 (.slice A4 es4.length c4) (es4.length) (List.flatMap SpE.cells es4), .blk X8 22 [.slice A2 m2 c2], .row 34 8 (.slice A2 m2 c2) (m2) (List.flatMap SpE.cells es2), .row 34 8 (.slice (some ⟨gp, 0, none⟩) es18.length c18) (es18.length) (List.flatMap SpE.cells es18), .blk X29 34 [.bool ex.a.n, .slice ex.a.p ex.a.l ex.a.c, .bool ex.a.m, .slice ex.a.p2 ex.a.l2 ex.a.c2, .bool ex.b.n, .slice ex.b.p ex.b.l ex.b.c, .bool ex.b.m, .slice ex.b.p2 ex.b.l2 ex.b.c2], .blk X38 32 [.bool rf.n, .slice rf.p rf.l rf.c, .bool rf.m, .slice rf.p2 rf.l2 rf.c2]] ∧ Dig w43 wr)
   case atStart => exact ⟨0, m, es, A1, c1, ex.a, ex.p, rfl, rfl, Nat.zero_le _, HM.out, (by rw [HV.out, subF_zero, List.append_nil]), (fun e_ he_ => (HOE.out e_ he_).dig DD49.out), (RAex.out.dig DD50.out), BAex.out, rfl, H44.out, Dig.refl _⟩
   case round =>
    obtain ⟨k, m2, es2, A2, c2, rf, f, rfl, rfl, q_HKU, q_HM2, q_HV2, q_HOE2, q_RF, q_BF, q_HFV, hh_, hd_⟩ := hrel
    generalize wr = w52 at *
    have HKU := zH q_HKU
    clear q_HKU
    have HM2 := zH q_HM2
    clear q_HM2
    have HV2 := zH q_HV2
    clear q_HV2
    have HOE2 := zH q_HOE2
    clear q_HOE2
    have RF := zH q_RF
    clear q_RF
    have BF := zH q_BF
    clear q_BF
    have HFV := zH q_HFV
    clear q_HFV
    have H54 := zH hh_
    have D54 := zH hd_
    clear hh_ hd_ H44
    by_cases c55 : k < es4.length
    ·have HLU := zH c55
     clear c55
     have hlu := HLU.out
     have hlu2 : (k : Int) < (es4.length : Int) := by omega
     obtain ⟨gq, rfl⟩ := HA4.out (by omega)
     obtain ⟨ey, he_⟩ : ∃ ey, es4[k]? = some ey := ⟨_, List.getElem?_eq_getElem hlu⟩
     have HEey := zH he_
     have HOey := zH (OK4.out ey (List.mem_of_getElem? he_))
     have RAey := zH HOey.out.1
     have RBey := zH HOey.out.2.1
     have BAey := zH HOey.out.2.2.1
     have BBey := zH HOey.out.2.2.2
     clear he_
     go_upto_region 10 with fail
     refine wp_region_lit ?_
     refine zp (w' := w52) (.pointer (some ⟨gq, k * 8, none⟩)) (by exact ezi (k := k) Tryz.underlying22 (l := hlu) (f := (Nat.zero_add _).symm)) ?_
     refine zd gq (k * 8) [.bool ey.a.n, .slice ey.a.p ey.a.l ey.a.c, .bool ey.a.m, .slice ey.a.p2 ey.a.l2 ey.a.c2, .bool ey.b.n, .slice ey.b.p ey.b.l ey.b.c, .bool ey.b.m, .slice ey.b.p2 ey.b.l2 ey.b.c2] (H54.out.elem (f := SpE.cells) (i := 0) (by rfl) SpE.len HEey.out) Tryz.underlying34 ?_
     refine mv_alloc (T := 34) (zs := [.bool false, .slice none 0 0, .bool false, .slice none 0 0, .bool false, .slice none 0 0, .bool false, .slice none 0 0]) (by rfl) (by go_simp) H54.out (by simp [NoUL]) ?_
     intro X57 w58 hh hx hge
     have H59 := zH (show Hp w w58 [ro 34 8 (some ⟨gq, 0, none⟩) es4.length c4 SpE.cells es4, .blk X8 22 [.slice A2 m2 c2], ro 34 8 A2 m2 c2 SpE.cells es2, ro 34 8 (some ⟨gp, 0, none⟩) es18.length c18 SpE.cells es18, .blk X29 34 [.bool ex.a.n, .slice ex.a.p ex.a.l ex.a.c, .bool ex.a.m, .slice ex.a.p2 ex.a.l2 ex.a.c2, .bool ex.b.n, .slice ex.b.p ex.b.l ex.b.c, .bool ex.b.m, .slice ex.b.p2 ex.b.l2 ex.b.c2], .blk X38 32 (rc rf), .blk X57 34 [.bool false, .slice none 0 0, .bool false, .slice none 0 0, .bool false, .slice none 0 0, .bool false, .slice none 0 0]] from hh)
     have D59 := zH (Dig.of_ext hx)
     clear hh hx hge
     try simp only [Act.put, zA, zB, zC]
     refine mv_st (by rfl) _ _ _ (by rfl) H59.out (ix := 6) (by rfl) 0 [.bool ey.a.n, .slice ey.a.p ey.a.l ey.a.c, .bool ey.a.m, .slice ey.a.p2 ey.a.l2 ey.a.c2, .bool ey.b.n, .slice ey.b.p ey.b.l ey.b.c, .bool ey.b.m, .slice ey.b.p2 ey.b.l2 ey.b.c2] (by rfl) (by rfl) (by simp) (by kernel_rfl) (by simp [Value.oneCell']) (by simp [NoUL]) ?_
     intro w62 hh hd ho
     have H63 := zH (show Hp w w62 [ro 34 8 (some ⟨gq, 0, none⟩) es4.length c4 SpE.cells es4, .blk X8 22 [.slice A2 m2 c2], ro 34 8 A2 m2 c2 SpE.cells es2, ro 34 8 (some ⟨gp, 0, none⟩) es18.length c18 SpE.cells es18, .blk X29 34 [.bool ex.a.n, .slice ex.a.p ex.a.l ex.a.c, .bool ex.a.m, .slice ex.a.p2 ex.a.l2 ex.a.c2, .bool ex.b.n, .slice ex.b.p ex.b.l ex.b.c, .bool ex.b.m, .slice ex.b.p2 ex.b.l2 ex.b.c2], .blk X38 32 (rc rf), .blk X57 34 [.bool ey.a.n, .slice ey.a.p ey.a.l ey.a.c, .bool ey.a.m, .slice ey.a.p2 ey.a.l2 ey.a.c2, .bool ey.b.n, .slice ey.b.p ey.b.l ey.b.c, .bool ey.b.m, .slice ey.b.p2 ey.b.l2 ey.b.c2]] from hh)
     have D63 := zH (hd)
     clear hh hd ho
     (try simp only [Act.put])
     by_cases c65 : ey.q ≤ f
     ·have C1 := zH c65
      clear c65
      go_upto_region 11 with fail
      refine wp_region_lit ?_
      refine qV (.pointer (some ⟨X57, 4, none⟩)) ?_
      refine zd X57 (4) (rc ey.b) (H63.out.range (i := 6) (by rfl) 4 4) Tryz.underlying32 ?_
      refine zd X38 (0) (rc rf) (H63.out.range (i := 5) (by rfl) 0 4) Tryz.underlying32 ?_
      have DD68 := zH ((((((((((D10.out.trans D19.out).trans D26.out).trans D31.out).trans D35.out).trans D40.out).trans D44.out).trans D54.out).trans D59.out).trans D63.out))
      have DD69 := zH ((D59.out.trans D63.out))
      refine zc (pCmp (L := 60000) (RV.Is.nin (RBey.out.dig DD68.out) (Nat.le_trans BBey.out (by omega))) (RV.Is.nin (RF.out.dig DD69.out) (Nat.le_trans BF.out (by omega))) (by omega)) ?_
      rintro e w67 ⟨rfl, hx⟩
      have H70 := zH (H63.out.step hx)
      have D70 := zH (Dig.of_ext hx)
      clear hx
      refine zn ?_
      refine zp (w' := w67) (.bool true) (by exact eze (e := (dec_t (rcmp_le_i.2 C1.out)))) ?_
      refine zq (.bool true) ?_
      refine zk ?_
      refine zk ?_
      refine zk ?_
      refine zk ?_
      refine zk ?_
      refine zk ?_
      refine zq (.bool true) ?_
      have DD75 := zH (((D59.out.trans D63.out).trans D70.out))
      have DD76 := zH ((((D54.out.trans D59.out).trans D63.out).trans D70.out))
      go_wp2_with fail
      go_roundg (es4.length - (k + 1))
      case measure => exact (by have ob4 := HM2.out.2; omega)
      case rel => exact ⟨k + 1, m2, es2, A2, c2, rf, f, rfl, (by go_num), hlu, ⟨HM2.out.1, by have := HM2.out.2; omega⟩, (by rw [HV2.out, subF_no HEey.out (fun h_ => absurd h_.1 (by rw [← HFV.out]; exact Rat.not_lt.2 C1.out))]), (fun e_ he_ => (HOE2.out e_ he_).dig DD75.out), (RF.out.dig DD75.out), BF.out, (by rw [HFV.out, subF_no HEey.out (fun h_ => absurd h_.1 (by rw [← HFV.out]; exact Rat.not_lt.2 C1.out))]), H70.out.take 6, DD76.out⟩
     have C1 := zH c65
     clear c65
     by_cases c77 : ex.q ≤ ey.p
     ·have C2 := zH c77
      clear c77
      go_upto_region 11 with fail
      refine wp_region_lit ?_
      refine qV (.pointer (some ⟨X57, 4, none⟩)) ?_
      refine zd X57 (4) (rc ey.b) (H63.out.range (i := 6) (by rfl) 4 4) Tryz.underlying32 ?_
      refine zd X38 (0) (rc rf) (H63.out.range (i := 5) (by rfl) 0 4) Tryz.underlying32 ?_
      have DD80 := zH ((((((((((D10.out.trans D19.out).trans D26.out).trans D31.out).trans D35.out).trans D40.out).trans D44.out).trans D54.out).trans D59.out).trans D63.out))
      have DD81 := zH ((D59.out.trans D63.out))
      refine zc (pCmp (L := 60000) (RV.Is.nin (RBey.out.dig DD80.out) (Nat.le_trans BBey.out (by omega))) (RV.Is.nin (RF.out.dig DD81.out) (Nat.le_trans BF.out (by omega))) (by omega)) ?_
      rintro e w79 ⟨rfl, hx⟩
      have H82 := zH (H63.out.step hx)
      have D82 := zH (Dig.of_ext hx)
      clear hx
      refine zn ?_
      refine zp (w' := w79) (.bool false) (by exact eze (e := (dec_f (fun hh => C1.out (rcmp_le_i.1 hh))))) ?_
      refine qV (.bool false) ?_
      refine zq (.pointer (some ⟨X57, 0, none⟩)) ?_
      refine zd X57 (0) (rc ey.a) (H82.out.range (i := 6) (by rfl) 0 4) Tryz.underlying32 ?_
      refine qV (.pointer (some ⟨X29, 4, none⟩)) ?_
      refine zd X29 (4) (rc ex.b) (H82.out.range (i := 4) (by rfl) 4 4) Tryz.underlying32 ?_
      have DD89 := zH (((((((((((D10.out.trans D19.out).trans D26.out).trans D31.out).trans D35.out).trans D40.out).trans D44.out).trans D54.out).trans D59.out).trans D63.out).trans D82.out))
      have DD90 := zH (((((((((D26.out.trans D31.out).trans D35.out).trans D40.out).trans D44.out).trans D54.out).trans D59.out).trans D63.out).trans D82.out))
      refine zc (pCmp (L := 60000) (RV.Is.nin (RAey.out.dig DD89.out) (Nat.le_trans BAey.out (by omega))) (RV.Is.nin (RBex.out.dig DD90.out) (Nat.le_trans BBex.out (by omega))) (by omega)) ?_
      rintro e w88 ⟨rfl, hx⟩
      have H91 := zH (H82.out.step hx)
      have D91 := zH (Dig.of_ext hx)
      clear hx
      refine zn ?_
      refine zp (w' := w88) (.bool true) (by exact ezo (e := (dec_t (rcmp_ge_i.2 C2.out)))) ?_
      refine zq (.bool true) ?_
      have DD95 := zH ((((D59.out.trans D63.out).trans D82.out).trans D91.out))
      have DD96 := zH (((((D54.out.trans D59.out).trans D63.out).trans D82.out).trans D91.out))
      go_wp2_with fail
      go_roundg (es4.length - (k + 1))
      case measure => exact (by have ob4 := HM2.out.2; omega)
      case rel => exact ⟨k + 1, m2, es2, A2, c2, rf, f, rfl, (by go_num), hlu, ⟨HM2.out.1, by have := HM2.out.2; omega⟩, (by rw [HV2.out, subF_no HEey.out (fun h_ => absurd h_.2 (Rat.not_lt.2 C2.out))]), (fun e_ he_ => (HOE2.out e_ he_).dig DD95.out), (RF.out.dig DD95.out), BF.out, (by rw [HFV.out, subF_no HEey.out (fun h_ => absurd h_.2 (Rat.not_lt.2 C2.out))]), H91.out.take 6, DD96.out⟩
     have C2 := zH c77
     clear c77
     go_upto_region 11 with fail
     refine wp_region_lit ?_
     refine qV (.pointer (some ⟨X57, 4, none⟩)) ?_
     refine zd X57 (4) (rc ey.b) (H63.out.range (i := 6) (by rfl) 4 4) Tryz.underlying32 ?_
     refine zd X38 (0) (rc rf) (H63.out.range (i := 5) (by rfl) 0 4) Tryz.underlying32 ?_
     have DD99 := zH ((((((((((D10.out.trans D19.out).trans D26.out).trans D31.out).trans D35.out).trans D40.out).trans D44.out).trans D54.out).trans D59.out).trans D63.out))
     have DD100 := zH ((D59.out.trans D63.out))
     refine zc (pCmp (L := 60000) (RV.Is.nin (RBey.out.dig DD99.out) (Nat.le_trans BBey.out (by omega))) (RV.Is.nin (RF.out.dig DD100.out) (Nat.le_trans BF.out (by omega))) (by omega)) ?_
     rintro e w98 ⟨rfl, hx⟩
     have H101 := zH (H63.out.step hx)
     have D101 := zH (Dig.of_ext hx)
     clear hx
     refine zn ?_
     refine zp (w' := w98) (.bool false) (by exact eze (e := (dec_f (fun hh => C1.out (rcmp_le_i.1 hh))))) ?_
     refine qV (.bool false) ?_
     refine zq (.pointer (some ⟨X57, 0, none⟩)) ?_
     refine zd X57 (0) (rc ey.a) (H101.out.range (i := 6) (by rfl) 0 4) Tryz.underlying32 ?_
     refine qV (.pointer (some ⟨X29, 4, none⟩)) ?_
     refine zd X29 (4) (rc ex.b) (H101.out.range (i := 4) (by rfl) 4 4) Tryz.underlying32 ?_
     have DD108 := zH (((((((((((D10.out.trans D19.out).trans D26.out).trans D31.out).trans D35.out).trans D40.out).trans D44.out).trans D54.out).trans D59.out).trans D63.out).trans D101.out))
     have DD109 := zH (((((((((D26.out.trans D31.out).trans D35.out).trans D40.out).trans D44.out).trans D54.out).trans D59.out).trans D63.out).trans D101.out))
     refine zc (pCmp (L := 60000) (RV.Is.nin (RAey.out.dig DD108.out) (Nat.le_trans BAey.out (by omega))) (RV.Is.nin (RBex.out.dig DD109.out) (Nat.le_trans BBex.out (by omega))) (by omega)) ?_
     rintro e w107 ⟨rfl, hx⟩
     have H110 := zH (H101.out.step hx)
     have D110 := zH (Dig.of_ext hx)
     clear hx
     refine zn ?_
     refine zp (w' := w107) (.bool false) (by exact ezo (e := (dec_f (fun hh => C2.out (rcmp_ge_i.1 hh))))) ?_
     refine zq (.bool false) ?_
     go_upto_region 12 with fail
     refine wp_region_lit ?_
     refine qV (.func (.func 26) #[] #[.pointer (some ⟨X8, 0, none⟩)]) ?_
     refine zd X38 (0) (rc rf) (H110.out.range (i := 5) (by rfl) 0 4) Tryz.underlying32 ?_
     refine qV (.pointer (some ⟨X57, 0, none⟩)) ?_
     refine zd X57 (0) (rc ey.a) (H110.out.range (i := 6) (by rfl) 0 4) Tryz.underlying32 ?_
     have DD118 := zH ((((D59.out.trans D63.out).trans D101.out).trans D110.out))
     have DD119 := zH ((((((((((((D10.out.trans D19.out).trans D26.out).trans D31.out).trans D35.out).trans D40.out).trans D44.out).trans D54.out).trans D59.out).trans D63.out).trans D101.out).trans D110.out))
     refine zc (keep_any L (by omega) rf ey.a f ey.p X8 A2 m2 c2 es2 w _ (H110.out.pick2 (ib := 1) (ir := 2) (by rfl) (by rfl) (by decide)) (RF.out.dig DD118.out) (RAey.out.dig DD119.out) BF.out BAey.out HM2.out.1 (by have q1_ := HM2.out.2; omega) (fun e_ he_ => (HOE2.out e_ he_).dig DD118.out)) ?_
     rintro e w116 ⟨rfl, hkr_⟩
     unfold KeepRet at hkr_
     obtain ⟨A117, c117, n117, es117, h1_, h2_, h3_, h4_, h5_, h6_, h7_, h8_⟩ := hkr_
     have HVK117 := zH h5_
     have HNK117 := zH (And.intro h6_ h7_)
     have HOK117 := zH h8_
     have H120 := zH (show Hp w w116 [ro 34 8 (some ⟨gq, 0, none⟩) es4.length c4 SpE.cells es4, .blk X8 22 [.slice A117 n117 c117], ro 34 8 A117 n117 c117 SpE.cells es117, ro 34 8 (some ⟨gp, 0, none⟩) es18.length c18 SpE.cells es18, .blk X29 34 [.bool ex.a.n, .slice ex.a.p ex.a.l ex.a.c, .bool ex.a.m, .slice ex.a.p2 ex.a.l2 ex.a.c2, .bool ex.b.n, .slice ex.b.p ex.b.l ex.b.c, .bool ex.b.m, .slice ex.b.p2 ex.b.l2 ex.b.c2], .blk X38 32 (rc rf), .blk X57 34 [.bool ey.a.n, .slice ey.a.p ey.a.l ey.a.c, .bool ey.a.m, .slice ey.a.p2 ey.a.l2 ey.a.c2, .bool ey.b.n, .slice ey.b.p ey.b.l ey.b.c, .bool ey.b.m, .slice ey.b.p2 ey.b.l2 ey.b.c2]] from H110.out.call2 (ib := 1) (ir := 2) (e := .blk X8 22 [.slice A2 m2 c2]) (f := .row 34 8 (.slice A2 m2 c2) (m2) (List.flatMap SpE.cells es2)) (e' := .blk X8 22 [.slice A117 n117 c117]) (f' := .row 34 8 (.slice A117 n117 c117) (n117) (List.flatMap SpE.cells es117)) (by rfl) (by rfl) (by decide) h3_ (fun k_ hk_ => hk_.elim (fun h_ => .inl (by rw [h_]; rfl)) .inr) h1_ (fun k_ hk_ => .inl hk_) h4_)
     have D120 := zH (show Dig w107 w116 from h2_)
     clear h1_ h2_ h3_ h4_ h5_ h6_ h7_ h8_
     have hx := True.intro
     clear hx
     refine zn ?_
     go_upto_region 13 with fail
     refine wp_region_lit ?_
     refine zd X38 (0) (rc rf) (H120.out.range (i := 5) (by rfl) 0 4) Tryz.underlying32 ?_
     refine qV (.pointer (some ⟨X57, 4, none⟩)) ?_
     refine zd X57 (4) (rc ey.b) (H120.out.range (i := 6) (by rfl) 4 4) Tryz.underlying32 ?_
     have DD125 := zH (((((D59.out.trans D63.out).trans D101.out).trans D110.out).trans D120.out))
     have DD126 := zH (((((((((((((D10.out.trans D19.out).trans D26.out).trans D31.out).trans D35.out).trans D40.out).trans D44.out).trans D54.out).trans D59.out).trans D63.out).trans D101.out).trans D110.out).trans D120.out))
     refine zc (upper_any L _ _ f ey.q _ (RV.Is.nis (RF.out.dig DD125.out)) (RV.Is.nis (RBey.out.dig DD126.out)) BF.out BBey.out (by omega)) ?_
     rintro e w123 ⟨c_, rfl, hc_, hx⟩
     have H127 := zH (H120.out.step hx)
     have D127 := zH (Dig.of_ext hx)
     obtain ⟨q124, hq_⟩ : ∃ q_ : Rat, q_ = (if f < ey.q then ey.q else f) := ⟨_, rfl⟩
     rw [← hq_] at hc_
     obtain ⟨r124, rfl, hr_⟩ := hc_
     have R124 := zH hr_
     have B124 := zH (show Nm.rl q124 ≤ L from by rw [hq_]; have h1 := BF.out; have h2 := BBey.out; split <;> assumption)
     have Q124 := zH hq_
     clear hr_ hq_
     clear hx
     refine zn ?_
     refine mv_st (by rfl) _ _ _ (by rfl) H127.out (ix := 5) (by rfl) 0 [.bool r124.n, .slice r124.p r124.l r124.c, .bool r124.m, .slice r124.p2 r124.l2 r124.c2] (by rfl) (by rfl) (by simp) (by kernel_rfl) (by simp [Value.oneCell']) (by simp [NoUL]) ?_
     intro w129 hh hd ho
     have H130 := zH (show Hp w w129 [ro 34 8 (some ⟨gq, 0, none⟩) es4.length c4 SpE.cells es4, .blk X8 22 [.slice A117 n117 c117], ro 34 8 A117 n117 c117 SpE.cells es117, ro 34 8 (some ⟨gp, 0, none⟩) es18.length c18 SpE.cells es18, .blk X29 34 [.bool ex.a.n, .slice ex.a.p ex.a.l ex.a.c, .bool ex.a.m, .slice ex.a.p2 ex.a.l2 ex.a.c2, .bool ex.b.n, .slice ex.b.p ex.b.l ex.b.c, .bool ex.b.m, .slice ex.b.p2 ex.b.l2 ex.b.c2], .blk X38 32 (rc r124), .blk X57 34 [.bool ey.a.n, .slice ey.a.p ey.a.l ey.a.c, .bool ey.a.m, .slice ey.a.p2 ey.a.l2 ey.a.c2, .bool ey.b.n, .slice ey.b.p ey.b.l ey.b.c, .bool ey.b.m, .slice ey.b.p2 ey.b.l2 ey.b.c2]] from hh)
     have D130 := zH (hd)
     clear hh hd ho
     (try simp only [Act.put])
     have DD132 := zH ((D127.out.trans D130.out))
     have DD133 := zH ((((((((D54.out.trans D59.out).trans D63.out).trans D101.out).trans D110.out).trans D120.out).trans D127.out).trans D130.out))
     go_wp2_with fail
     go_roundg (es4.length - (k + 1))
     case measure => exact (by have ob4 := HM2.out.2; omega)
     case rel => exact ⟨k + 1, n117, es117, A117, c117, r124, q124, rfl, (by go_num), hlu, ⟨HNK117.out.1, by have q1_ := HM2.out.2; have q2_ := HNK117.out.2; omega⟩, (by rw [HVK117.out, HV2.out, (subF_yes HEey.out ⟨by rw [← HFV.out]; exact Rat.not_le.1 C1.out, Rat.not_le.1 C2.out⟩), ← some2_app, List.append_assoc, ← HFV.out]), (fun g_ hg_ => (HOK117.out g_ hg_).dig DD132.out), (R124.out.dig D130.out), B124.out, (by rw [(subF_yes HEey.out ⟨by rw [← HFV.out]; exact Rat.not_le.1 C1.out, Rat.not_le.1 C2.out⟩), Q124.out, if_pos (Rat.not_le.1 C1.out)]), H130.out.take 6, DD133.out⟩
    have HLU := zH c55
    clear c55
    have hlu := HLU.out
    have hku := HKU.out
    obtain rfl : k = es4.length := by omega
    have hge : ¬ (es4.length : Int) < (es4.length : Int) := by omega
    go_upto_region 15 with fail
    refine wp_region_lit ?_
    refine qV (.func (.func 26) #[] #[.pointer (some ⟨X8, 0, none⟩)]) ?_
    refine zd X38 (0) (rc rf) (H54.out.range (i := 5) (by rfl) 0 4) Tryz.underlying32 ?_
    refine qV (.pointer (some ⟨X29, 4, none⟩)) ?_
    refine zd X29 (4) (rc ex.b) (H54.out.range (i := 4) (by rfl) 4 4) Tryz.underlying32 ?_
    have DD138 := zH ((((((D26.out.trans D31.out).trans D35.out).trans D40.out).trans D44.out).trans D54.out))
    refine zc (keep_any L (by omega) rf ex.b f ex.q X8 A2 m2 c2 es2 w _ (H54.out.pick2 (ib := 1) (ir := 2) (by rfl) (by rfl) (by decide)) RF.out (RBex.out.dig DD138.out) BF.out BBex.out HM2.out.1 (by have q1_ := HM2.out.2; omega) (fun e_ he_ => (HOE2.out e_ he_))) ?_
    rintro e w136 ⟨rfl, hkr_⟩
    unfold KeepRet at hkr_
    obtain ⟨A137, c137, n137, es137, h1_, h2_, h3_, h4_, h5_, h6_, h7_, h8_⟩ := hkr_
    have HVK137 := zH h5_
    have HNK137 := zH (And.intro h6_ h7_)
    have HOK137 := zH h8_
    have H139 := zH (show Hp w w136 [ro 34 8 A4 es4.length c4 SpE.cells es4, .blk X8 22 [.slice A137 n137 c137], ro 34 8 A137 n137 c137 SpE.cells es137, ro 34 8 (some ⟨gp, 0, none⟩) es18.length c18 SpE.cells es18, .blk X29 34 [.bool ex.a.n, .slice ex.a.p ex.a.l ex.a.c, .bool ex.a.m, .slice ex.a.p2 ex.a.l2 ex.a.c2, .bool ex.b.n, .slice ex.b.p ex.b.l ex.b.c, .bool ex.b.m, .slice ex.b.p2 ex.b.l2 ex.b.c2], .blk X38 32 (rc rf)] from H54.out.call2 (ib := 1) (ir := 2) (e := .blk X8 22 [.slice A2 m2 c2]) (f := .row 34 8 (.slice A2 m2 c2) (m2) (List.flatMap SpE.cells es2)) (e' := .blk X8 22 [.slice A137 n137 c137]) (f' := .row 34 8 (.slice A137 n137 c137) (n137) (List.flatMap SpE.cells es137)) (by rfl) (by rfl) (by decide) h3_ (fun k_ hk_ => hk_.elim (fun h_ => .inl (by rw [h_]; rfl)) .inr) h1_ (fun k_ hk_ => .inl hk_) h4_)
    have D139 := zH (show Dig w52 w136 from h2_)
    clear h1_ h2_ h3_ h4_ h5_ h6_ h7_ h8_
    have hx := True.intro
    clear hx
    refine zn ?_
    have DD141 := zH (((((((D26.out.trans D31.out).trans D35.out).trans D40.out).trans D44.out).trans D54.out).trans D139.out))
    go_wp2_with fail
    go_roundg (es18.length - (i + 1))
    case measure => exact (by have ob3 := HM2.out.2; omega)
    case rel => exact ⟨i + 1, n137, es137, A137, c137, rfl, (by go_num), hlt, ⟨HNK137.out.1, by have q1_ := HM2.out.2; have q2_ := HNK137.out.2; omega⟩, (by rw [HVK137.out, HV2.out, subRow_succ HEex.out, ← some2_app, List.append_assoc, ← HFV.out]), HOK137.out, H139.out.take 4, DD141.out⟩
  have HLT := zH c27
  clear c27
  have hlt := HLT.out
  have hki := HKI.out
  obtain rfl : i = es18.length := by omega
  have hge : ¬ (es18.length : Int) < (es18.length : Int) := by omega
  have hme := HM.out.1
  subst hme
  go_upto_region 17 with fail
  refine wp_region_lit ?_
  refine ze X8 0 (.slice A1 es.length c1) (H26.out.range (i := 1) (by rfl) 0 1) ?_
  refine zq (.slice A1 es.length c1) ?_
  go_wp2_with fail
  go_ret
  first | exact ⟨_, es, rfl, ⟨H26.out.row (i := 2) (by rfl), (fun e_ he_ => (HOE.out e_ he_))⟩, (by rw [HV.out, subRow_all, VL18.out, VL4.out]; rfl), (by have h := congrArg List.length (HV.out.trans (congrArg some2 (subRow_all es18 es4))); rw [List.length_map] at h; have h2 := subV_len (x := List.map SpE.vl es18) (y := List.map SpE.vl es4) (by rw [VL18.out]; exact (mergeV_law ps).1) (by rw [VL4.out]; exact (mergeV_law qs).1); rw [List.length_map, List.length_map] at h2; rw [h]; have q1_ := LN18.out; have q2_ := LN4.out; exact Nat.le_trans h2 (by omega)), H26.out.ext⟩ | exact ⟨_, rfl, es, ⟨H26.out.row (i := 2) (by rfl), (fun e_ he_ => (HOE.out e_ he_))⟩, (by rw [HV.out, subRow_all, VL18.out, VL4.out]; rfl), (by have h := congrArg List.length (HV.out.trans (congrArg some2 (subRow_all es18 es4))); rw [List.length_map] at h; have h2 := subV_len (x := List.map SpE.vl es18) (y := List.map SpE.vl es4) (by rw [VL18.out]; exact (mergeV_law ps).1) (by rw [VL4.out]; exact (mergeV_law qs).1); rw [List.length_map, List.length_map] at h2; rw [h]; have q1_ := LN18.out; have q2_ := LN4.out; exact Nat.le_trans h2 (by omega)), H26.out.ext⟩
end Go.Proofs.YtaeeeailoiioaadGreat
