/- ScanlineMerge. -/
import Derived.Test.YtaeeeailoiioaaaGreatM6
namespace Go.Proofs.YtaeeeailoiioaaaGreat.merge
open Go.RowKit Go.ChangeShapes Go.WideShapes Go.ChangeAt
attribute [local go_sem ↓] Go.wp_at_zero Go.wp_at_succ run_max_ii run_min_ii
def rawc (x : RV × RV) : List Value := SpE.cells ⟨x.1, x.2, 0, 0⟩
theorem rawc_len (x : RV × RV) : (rawc x).length = 8 := rfl
theorem snocQ {α : Type} {l : List α} {k : Nat} {e : α} (h : l[k]? = some e) : l.take (k + 1) = l.take k ++ [e] := by rw [List.take_add_one, h]; rfl
theorem spans_of_raw {L : Nat} {w : World} {b n : Nat} {t : TypeId} {v : Value} {l : List (RV × RV)} {ps : List QQ} (h : RowN w b t 8 v n (l.flatMap rawc)) (hn : n = l.length) (hl : ps.length = l.length)
  (hin : ∀ (i : Nat) (x : RV × RV) (p : QQ), l[i]? = some x → ps[i]? = some p → x.1.In L w p.1 ∧ x.2.In L w p.2) : SpansV L w v ps := by
 obtain ⟨A, c, rfl, hA⟩ := RowN.form h
 refine ⟨A, c, by rw [hn, hl], fun h0 => ?_⟩
 obtain ⟨g, rfl⟩ := hA (by omega)
 refine ⟨g, 0, rfl, fun i p hp => ?_⟩
 have hi : i < l.length := by rw [← hl]; exact (List.getElem?_eq_some_iff.1 hp).1
 have hx := List.getElem?_eq_getElem hi
 have h1 := hin i _ p hx hp
 refine ⟨rawc l[i], ?_, l[i].1, l[i].2, rfl, h1.1, h1.2⟩
 rw [Nat.zero_add]
 exact h.rangeAt _ _ (fun j v hj => flat_get rawc_len l i _ hx j v hj)
theorem rev_at {α : Type} {l : List α} {k j : Nat} (h : j + 1 + k = l.length) : l.reverse[k]? = l[j]? := by
  rw [List.getElem?_reverse (by omega)]
  congr 1
  omega
set_option maxRecDepth 20000 in
set_option maxHeartbeats 4000000 in
theorem walkF (A : Option Addr) (es : List (RV × RV)) (cap : Nat)  (w : World) (hs : ∀ W, Ext w W → Calls Tryz.prog 6 #[.slice A es.length cap] W fun e w' => e = .returned (.bool false) ∧ Ext W w')  :
  Calls Tryz.prog 3 #[.slice A es.length cap] w fun e w' => e = .returned (.bool true) ∧ Ext w w' := by
 have HS := zH hs
 clear hs
 go_enter Tryz.func3, Tryz.ntmps3
 have H0 := zH (Hp.start w)
 go_upto_region 0 with fail
 refine wp_region_lit ?_
 refine zq (.bool false) ?_
 go_upto_region 1 with fail
 refine wp_region_lit ?_
 refine qV (.slice A es.length cap) ?_
 refine zc (HS.out _ H0.out.ext) ?_
 rintro e w3 ⟨rfl, hx⟩
 have H4 := zH (H0.out.step hx)
 clear hx
 refine zn ?_
 refine zq (.bool true) ?_
 go_upto_region 2 with fail
 refine wp_region_lit ?_
 refine zc (example_any _) ?_
 rintro e w7 ⟨rfl, hx⟩
 have H8 := zH (H4.out.step hx)
 clear hx
 refine zn ?_
 refine zq (.bool true) ?_
 go_wp2_with fail
 go_ret
 exact ⟨rfl, H8.out.ext⟩
set_option maxRecDepth 20000 in
set_option maxHeartbeats 4000000 in
theorem walkT (A : Option Addr) (es : List (RV × RV)) (cap : Nat) (ps : List QQ) (w : World) (hs : ∀ W, Ext w W → Calls Tryz.prog 6 #[.slice A es.length cap] W fun e w' => e = .returned (.bool true) ∧ Ext W w') (hu : SpansV 20 w (.slice A es.length cap) ps) (hv : RawV w (.slice A es.length cap) es) (hl : ps.length = es.length) (hn : es.length ≤ 60) (hin : ∀ (i : Nat) (x : RV × RV) (p : QQ), es[i]? = some x → ps[i]? = some p → x.1.In 20 w p.1 ∧ x.2.In 20 w p.2) :
  Calls Tryz.prog 3 #[.slice A es.length cap] w fun e w' => e = .returned (.bool true) ∧ Ext w w' := by
 have HS := zH hs
 clear hs
 have HU := zH hu
 have HN := zH hn
 have HNP := zH (show ps.length ≤ 60 by omega)
 have HIN := zH hin
 have HPL := zH hl
 obtain ⟨A_, cap_, hvq, hv2⟩ := hv
 injection hvq with e1_ e2_ e3_
 subst e1_ e3_
 have HV := zH hv2
 clear hu hl hin hv2 e2_
 go_enter Tryz.func3, Tryz.ntmps3
 have H0 := zH (Hp.start w)
 go_upto_region 0 with fail
 refine wp_region_lit ?_
 refine zq (.bool false) ?_
 go_upto_region 1 with fail
 refine wp_region_lit ?_
 refine qV (.slice A es.length cap) ?_
 refine zc (HS.out _ H0.out.ext) ?_
 rintro e w13 ⟨rfl, hx⟩
 have H14 := zH (H0.out.step hx)
 clear hx
 refine zn ?_
 refine zq (.bool false) ?_
 go_upto_region 3 with fail
 refine wp_region_lit ?_
 refine zq (.slice none 0 0) ?_
 have H18 := zH (show Hp w w13 [ro 31 8 none 0 0 rawc ([])] from H14.out.addNil 31 8)
 go_upto_region 4 with fail
 refine wp_region_lit ?_
 refine qV (.slice A es.length cap) ?_
 refine zq (.int .i64 ((es.length : Nat) : Int)) ?_
 refine zp (w' := w13) (.int .i64 (((es.length : Nat) : Int) - 1)) (by exact ez2 (by omega)) ?_
 refine zq (.int .i64 (((es.length : Nat) : Int) - 1)) ?_
 go_wp2_with fail
 go_loopg [3, 4] (es.length + 1) (fun cq v23 v24 wr => ∃ (k : Nat) (bs : List (RV × RV)) (A1 : Option Addr) (c1 : Nat) (z : Int), cq = (es.length + 1) - k ∧ v23 = .slice A1 k c1 ∧ v24 = .int .i64 z ∧ (k ≤ es.length) ∧ (bs = es.reverse.take k) ∧ (z = (es.length : Int) - 1 - k) ∧ Hp w wr [.row 31 8 (.slice A1 k c1) (k) (List.flatMap rawc bs)] ∧ Dig w13 wr)
 case atStart => exact ⟨0, [], none, 0, ((es.length : Nat) : Int) - 1, rfl, rfl, rfl, Nat.zero_le _, rfl, (by omega), H18.out, Dig.refl _⟩
 case round =>
  obtain ⟨k, bs, A1, c1, z, rfl, rfl, rfl, q_HK, q_HBS, q_HZ, hh_, hd_⟩ := hrel
  generalize wr = w25 at *
  have HK := zH q_HK
  clear q_HK
  have HBS := zH q_HBS
  clear q_HBS
  have HZ := zH q_HZ
  clear q_HZ
  have H27 := zH hh_
  have D27 := zH hd_
  clear hh_ hd_ H18
  by_cases c28 : 0 ≤ z
  ·have HLT := zH c28
   clear c28
   have hlt := HLT.out
   have hzz := HZ.out
   obtain ⟨j, rfl⟩ : ∃ j : Nat, z = (j : Int) := ⟨z.toNat, by omega⟩
   have hj : j + 1 + k = es.length := by omega
   have hjl : j < es.length := by omega
   obtain ⟨g, off, rfl, hp⟩ := HV.out (by omega)
   obtain ⟨x, hx_⟩ : ∃ x, es[j]? = some x := ⟨_, List.getElem?_eq_getElem hjl⟩
   have HR := zH (hp j x hx_)
   have HX := zH hx_
   clear hp hx_
   have HJ := zH hj
   have hk60 : k ≤ 60 := by omega
   go_upto_region 5 with fail
   refine wp_region_lit ?_
   refine zq (.int .i64 (j : Int)) ?_
   refine zp (w' := w25) (.bool true) (by exact ezo (e := (dec_t (by omega)))) ?_
   go_upto_region 7 with fail
   refine wp_region_lit ?_
   refine qV (.slice A1 k c1) ?_
   refine zq (.slice (some ⟨g, off, none⟩) es.length cap) ?_
   refine zq (.int .i64 (j : Int)) ?_
   refine zp (w' := w25) (.pointer (some ⟨g, off + j * 8, none⟩)) (by exact ezi (k := j) Tryz.underlying22 (l := (by omega)) (f := rfl)) ?_
   refine zd g (off + j * 8) [.bool x.1.n, .slice x.1.p x.1.l x.1.c, .bool x.1.m, .slice x.1.p2 x.1.l2 x.1.c2, .bool x.2.n, .slice x.2.p x.2.l x.2.c, .bool x.2.m, .slice x.2.p2 x.2.l2 x.2.c2] (range_ext HR.out H27.out.ext) Tryz.underlying31 ?_
   refine zp (w' := (w25.alloc (.cells ([.bool x.1.n, .slice x.1.p x.1.l x.1.c, .bool x.1.m, .slice x.1.p2 x.1.l2 x.1.c2, .bool x.2.n, .slice x.2.p x.2.l x.2.c, .bool x.2.m, .slice x.2.p2 x.2.l2 x.2.c2] : List Value).toArray 31))) (.slice (some ⟨w25.heap.size, 0, none⟩) 1 1) (by go_simp) ?_
   refine mv_app (by rfl) _ _ _ (by rfl) elSpan (by rfl) H27.out (ix := 0) (by rfl) 1 1 [.bool x.1.n, .slice x.1.p x.1.l x.1.c, .bool x.1.m, .slice x.1.p2 x.1.l2 x.1.c2, .bool x.2.n, .slice x.2.p x.2.l x.2.c, .bool x.2.m, .slice x.2.p2 x.2.l2 x.2.c2] (by rfl) rfl (by simp [Value.oneCell']) (by simp [NoUL]) (by decide) (by unfold maxLen; exact (by omega)) (by omega) ?_
   intro g36 cp37 w35 hf hh hd hg
   have Fg36 := zH hf
   clear hf
   rw [show List.flatMap rawc bs ++ [.bool x.1.n, .slice x.1.p x.1.l x.1.c, .bool x.1.m, .slice x.1.p2 x.1.l2 x.1.c2, .bool x.2.n, .slice x.2.p x.2.l x.2.c, .bool x.2.m, .slice x.2.p2 x.2.l2 x.2.c2] = List.flatMap rawc (bs ++ [x]) from flat_snoc rawc _ x] at hh
   have H38 := zH (show Hp w w35 [ro 31 8 (some ⟨g36, 0, none⟩) (k + 1) cp37 rawc (bs ++ [x])] from hh)
   have D38 := zH (hd)
   clear hh hd hg
   try simp only [Act.put, zA, zB, zC]
   refine zq (.slice (some ⟨g36, 0, none⟩) (k + 1) cp37) ?_
   go_upto_region 6 with fail
   refine wp_region_lit ?_
   refine zq (.int .i64 (j : Int)) ?_
   refine zp (w' := w35) (.int .i64 ((j : Int) - 1)) (by exact ez2 (by omega)) ?_
   refine zq (.int .i64 ((j : Int) - 1)) ?_
   have DD44 := zH ((D27.out.trans D38.out))
   go_wp2_with fail
   go_roundg (es.length + 1 - (k + 1))
   case measure => exact (by have ob3 := (show k < es.length + 1 by omega); omega)
   case rel => exact ⟨k + 1, bs ++ [x], some ⟨g36, 0, none⟩, cp37, (j : Int) - 1, rfl, rfl, rfl, (by omega), (by rw [HBS.out]; exact (snocQ ((rev_at HJ.out).trans HX.out)).symm), (by omega), H38.out, DD44.out⟩
  have HLT := zH c28
  clear c28
  have hlt := HLT.out
  have hzz := HZ.out
  have hkk := HK.out
  obtain rfl : k = es.length := by omega
  have hbs : bs = es.reverse := by rw [HBS.out, List.take_of_length_le (by simp)]
  subst hbs
  go_upto_region 5 with fail
  refine wp_region_lit ?_
  refine zq (.int .i64 z) ?_
  refine zp (w' := w25) (.bool false) (by exact ezo (e := (dec_f (by omega)))) ?_
  have hnp := HNP.out
  go_upto_region 8 with fail
  refine wp_region_lit ?_
  refine qV (.slice A es.length cap) ?_
  refine zc (merge_any 20 _ ps _ (HU.out.ext H27.out.ext) (by decide) (by decide) (by have := HNP.out; omega)) ?_
  rintro e w48 ⟨v_, es49, rfl, hv1_, hv2_, hv3_, hx⟩
  have VL49 := zH hv2_
  have LN49 := zH hv3_
  have OK49 := zH hv1_.2
  obtain ⟨A49, c49, rfl, hA_⟩ := RowN.form hv1_.1
  have HA49 := zH hA_
  clear hv2_ hv3_ hA_
  have H50 := zH (show Hp w w48 [ro 31 8 A1 es.length c1 rawc es.reverse, ro 31 8 A49 es49.length c49 SpE.cells es49] from H27.out.addRow hx hv1_.1)
  clear hv1_
  have VM49 := zH (show List.map SpE.vl es49 = mergeV ps from VL49.out.trans rfl)
  clear hx
  refine zn ?_
  refine zq (.slice A49 es49.length c49) ?_
  go_upto_region 9 with fail
  refine wp_region_lit ?_
  refine qV (.slice A49 es49.length c49) ?_
  refine zq (.slice A es.length cap) ?_
  refine zc (rmerge_any 20 _ ps _ (HU.out.ext H50.out.ext) (by decide) (by decide) (by have := HNP.out; omega)) ?_
  rintro e w55 ⟨v_, es56, rfl, hv1_, hv2_, hv3_, hx⟩
  have VL56 := zH hv2_
  have LN56 := zH hv3_
  have OK56 := zH hv1_.2
  obtain ⟨A56, c56, rfl, hA_⟩ := RowN.form hv1_.1
  have HA56 := zH hA_
  clear hv2_ hv3_ hA_
  have H57 := zH (show Hp w w55 [ro 31 8 A1 es.length c1 rawc es.reverse, ro 31 8 A49 es49.length c49 SpE.cells es49, ro 31 8 A56 es56.length c56 SpE.cells es56] from H50.out.addRow hx hv1_.1)
  have D57 := zH (Dig.of_ext hx)
  clear hv1_
  have VM56 := zH (show List.map SpE.vl es56 = mergeV ps from VL56.out.trans rfl)
  clear hx
  refine zn ?_
  refine zc (r18same_any 60000 (.slice A49 es49.length c49) (.slice A56 es56.length c56) _ _ es49 es56 _ (SpR.up (L := 20) ⟨H57.out.row (i := 1) (by rfl), (fun e_ he_ => (OK49.out e_ he_).dig D57.out)⟩ (by omega)) (SpR.up (L := 20) ⟨H57.out.row (i := 2) (by rfl), OK56.out⟩ (by omega)) (VM49.out.trans VM56.out.symm) (by omega) (Nat.le_trans LN49.out (by have q1_ := HNP.out; have q2_ := LN49.out; first | omega | (simp only [List.length_reverse, List.length_map]; omega)))) ?_
  rintro e w59 ⟨rfl, hx⟩
  have H60 := zH (H57.out.step hx)
  have D60 := zH (Dig.of_ext hx)
  clear hx
  refine zn ?_
  refine qV (.bool true) ?_
  refine zq (.slice A1 es.length c1) ?_
  refine zc (merge_any 20 (.slice A1 es.length c1) ps.reverse _ (show SpansV 20 w59 (.slice A1 es.length c1) ps.reverse from spans_of_raw (H60.out.row (i := 0) (by rfl)) (by simp) (by simp [HPL.out]) (fun i_ x_ p_ h1_ h2_ => by have hi_ := (List.getElem?_eq_some_iff.1 h1_).1; rw [List.length_reverse] at hi_; rw [rev_at (j := es.length - 1 - i_) (by omega)] at h1_; rw [rev_at (j := es.length - 1 - i_) (by have := HPL.out; omega)] at h2_; obtain ⟨q1_, q2_⟩ := HIN.out _ _ _ h1_ h2_; exact ⟨q1_.ext H60.out.ext, q2_.ext H60.out.ext⟩)) (by decide) (by decide) (by rw [List.length_reverse]; have := HNP.out; omega)) ?_
  rintro e w64 ⟨v_, es65, rfl, hv1_, hv2_, hv3_, hx⟩
  have VL65 := zH hv2_
  have LN65 := zH hv3_
  have OK65 := zH hv1_.2
  obtain ⟨A65, c65, rfl, hA_⟩ := RowN.form hv1_.1
  have HA65 := zH hA_
  clear hv2_ hv3_ hA_
  have H66 := zH (show Hp w w64 [ro 31 8 A1 es.length c1 rawc es.reverse, ro 31 8 A49 es49.length c49 SpE.cells es49, ro 31 8 A56 es56.length c56 SpE.cells es56, ro 31 8 A65 es65.length c65 SpE.cells es65] from H60.out.addRow hx hv1_.1)
  have D66 := zH (Dig.of_ext hx)
  clear hv1_
  have VM65 := zH (show List.map SpE.vl es65 = mergeV ps from VL65.out.trans (mergeV_rev ps))
  clear hx
  refine zn ?_
  refine zq (.slice A49 es49.length c49) ?_
  have DD70 := zH (((D57.out.trans D60.out).trans D66.out))
  refine zc (r18same_any 60000 (.slice A65 es65.length c65) (.slice A49 es49.length c49) _ _ es65 es49 _ (SpR.up (L := 20) ⟨H66.out.row (i := 3) (by rfl), OK65.out⟩ (by omega)) (SpR.up (L := 20) ⟨H66.out.row (i := 1) (by rfl), (fun e_ he_ => (OK49.out e_ he_).dig DD70.out)⟩ (by omega)) (VM65.out.trans VM49.out.symm) (by omega) (Nat.le_trans LN65.out (by have q1_ := HNP.out; have q2_ := LN49.out; first | omega | (simp only [List.length_reverse, List.length_map]; omega)))) ?_
  rintro e w69 ⟨rfl, hx⟩
  have H71 := zH (H66.out.step hx)
  have D71 := zH (Dig.of_ext hx)
  clear hx
  refine zn ?_
  refine qV (.bool true) ?_
  refine zq (.bool true) ?_
  refine zq (.slice A49 es49.length c49) ?_
  have DD78 := zH ((((D57.out.trans D60.out).trans D66.out).trans D71.out))
  refine zc (merge_any 20 (.slice A49 es49.length c49) (List.map SpE.vl es49) _ (SpR.reads ⟨H71.out.row (i := 1) (by rfl), (fun e_ he_ => (OK49.out e_ he_).dig DD78.out)⟩) (by decide) (by decide) (by rw [List.length_map]; exact Nat.le_trans LN49.out (by have := HNP.out; omega))) ?_
  rintro e w76 ⟨v_, es77, rfl, hv1_, hv2_, hv3_, hx⟩
  have VL77 := zH hv2_
  have LN77 := zH hv3_
  have OK77 := zH hv1_.2
  obtain ⟨A77, c77, rfl, hA_⟩ := RowN.form hv1_.1
  have HA77 := zH hA_
  clear hv2_ hv3_ hA_
  have H79 := zH (show Hp w w76 [ro 31 8 A1 es.length c1 rawc es.reverse, ro 31 8 A49 es49.length c49 SpE.cells es49, ro 31 8 A56 es56.length c56 SpE.cells es56, ro 31 8 A65 es65.length c65 SpE.cells es65, ro 31 8 A77 es77.length c77 SpE.cells es77] from H71.out.addRow hx hv1_.1)
  have D79 := zH (Dig.of_ext hx)
  clear hv1_
  have VM77 := zH (show List.map SpE.vl es77 = mergeV ps from VL77.out.trans (by rw [VM49.out, mergeV_idem]))
  clear hx
  refine zn ?_
  refine zq (.slice A49 es49.length c49) ?_
  have DD83 := zH (((((D57.out.trans D60.out).trans D66.out).trans D71.out).trans D79.out))
  refine zc (r18same_any 60000 (.slice A77 es77.length c77) (.slice A49 es49.length c49) _ _ es77 es49 _ (SpR.up (L := 20) ⟨H79.out.row (i := 4) (by rfl), OK77.out⟩ (by omega)) (SpR.up (L := 20) ⟨H79.out.row (i := 1) (by rfl), (fun e_ he_ => (OK49.out e_ he_).dig DD83.out)⟩ (by omega)) (VM77.out.trans VM49.out.symm) (by omega) (Nat.le_trans LN77.out (by have q1_ := HNP.out; have q2_ := LN49.out; first | omega | (simp only [List.length_reverse, List.length_map]; omega)))) ?_
  rintro e w82 ⟨rfl, hx⟩
  have H84 := zH (H79.out.step hx)
  clear hx
  refine zn ?_
  refine qV (.bool true) ?_
  refine zq (.bool true) ?_
  refine zc (example_any _) ?_
  rintro e w88 ⟨rfl, hx⟩
  have H89 := zH (H84.out.step hx)
  clear hx
  refine zn ?_
  refine qV (.bool true) ?_
  refine zq (.bool true) ?_
  go_wp2_with fail
  go_ret
  exact ⟨rfl, H89.out.ext⟩

theorem walk (A : Option Addr) (es : List (RV × RV)) (cap : Nat) (w : World) (hv : RawV w (.slice A es.length cap) es ∧ RawL w es) (hm : es.length ≤ maxLen) :
  Calls Tryz.prog 3 #[.slice A es.length cap] w fun e w' => e = .returned (.bool true) ∧ Ext w w' := by
 have hs := fun W (x : Ext w W) => smallSpans_any (.slice A es.length cap) es W (hv.1.ext x) hm
 cases h0 : (smAll es && decide (es.length ≤ 60)) with
 | false => rw [h0] at hs; exact walkF A es cap w hs
 | true =>
  rw [h0] at hs
  simp only [Bool.and_eq_true, decide_eq_true_eq] at h0
  obtain ⟨ps, hl, hp, hin⟩ := hv.1.spans2 hv.2 h0.1
  exact walkT A es cap ps w hs hp hv.1 hl h0.2 hin
set_option maxRecDepth 100000 in
theorem lifted (os : Os) (started : os.Started) (H : Type) (enc : TypeId × Value → H) :
  ReturnsInHanded {} Tryz.checked os 3 .any (Rows.scanlineMergeSpec.pre6 enc Tryz.prog Tryz.f3 Rows.scanlineMergeRow.domain false) (Rows.scanlineMergeSpec.post enc Tryz.prog Tryz.f3 false true false false) := by
 refine returnsInHanded_of_change (C := Tryz.checked) own started (by kernel_rfl) Tryz.func3
  (ChangeSpec.witness6 (enc := enc) (C := Tryz.checked) false ⟨#[], #[.slice none 0 0], []⟩ 8 (by kernel_rfl) (by kernel_rfl) (by kernel_rfl) (by kernel_rfl)) ?_
 intro W base args ds gs before hval0 hW hcnd _
 have hval : ∀ (j : Nat) t v, Tryz.f3.params[j]? = some t → args[j]? = some v → Value.okWide Tryz.prog W .any base t v := hval0
 have hW' := hW
 obtain ⟨p, q, hA0, hV, rfl, hfz, hnd⟩ := hW
 have hA : DataW.TrodAll enc Tryz.prog W 0 (fun _ => true) true Tryz.f3.params.toList args.toList ds p := hA0
 rw [Tryz.params3] at hA hval
 obtain ⟨v0, vs0, d0, ds0, p0, q0, hargs, rfl, rfl, h0, r0⟩ := trodAll_cons hA
 obtain ⟨rfl, rfl, rfl⟩ := trodAll_nil r0
 obtain rfl : args = #[v0] := by cases args; simp_all
 obtain ⟨rfl, rfl⟩ := trodVars_none hV
 have k0 := h0
 have lt0 : ∀ x ∈ p0, x.block < W.heap.size := by obtain ⟨m, hm⟩ := k0; exact DataW.trod_lt m _ _ _ hm
 obtain ⟨yA, zl0, yc, rfl⟩ := okWide_slice Tryz.underlying22 (hval 0 22 v0 rfl rfl)
 obtain ⟨zA0, yl, zc0, ze0, g0⟩ := (by obtain ⟨m, hm⟩ := h0; exact spans_openQ hm : ∃ zB zl zc, [Value.slice yA zl0 yc] = [.slice zB (List.length zl) zc] ∧ zl.length ≤ maxLen ∧ RawV W (.slice zB zl.length zc) zl ∧ RawL W zl)
 obtain ⟨rfl, rfl, rfl⟩ : yA = zA0 ∧ zl0 = yl.length ∧ yc = zc0 := by simpa using ze0
 clear hA0 hval0
 refine (walk yA yl yc W g0.2 g0.1).mono fun e W' ⟨he, hx⟩ => ?_
 subst he
 have bel := hx.below
 exact ⟨_, rfl, _, _, _, [], _, [], hW', trodAll_mk1 (shut_bool Tryz.underlying4 _), (trodAll_cons_mk (Below.trod laidOut (by kernel_rfl) (of_decide_eq_true (by kernel_rfl)) k0 bel lt0) trodAll_mk0), rfl, bel.frame _, fun h => by cases h⟩

theorem proved : Rows.ScanlineMergeSaid :=
  OpenClaim.holds_of_wide 3 Tryz.f3 rfl rfl rfl rfl rfl rfl rfl ⟨rfl, rfl, rfl, rfl, rfl⟩ rfl rfl rfl rfl rfl (by kernel_rfl) Tryz.func3 (by kernel_rfl)
    (of_decide_eq_true (by kernel_rfl)) (by unfold Func.isWrapper; first | (rw [if_pos (by decide +kernel)]; kernel_rfl) | (rw [if_neg (by decide +kernel)]; exact ⟨rfl, rfl⟩))
    (fun os started H enc _ => lifted os started H enc)
#print axioms proved
end Go.Proofs.YtaeeeailoiioaaaGreat.merge
