/- Contracts that the claim stands on: XRSame to XRLen. -/
import Derived.Test.YtaeeeailoiioaaaGreatM6
namespace Go.Proofs.YtaeeeailoiioaaaGreat
open Go.RowKit
attribute [local go_sem ↓] Go.wp_at_zero Go.wp_at_succ run_max_ii run_min_ii
set_option maxRecDepth 20000 in
set_option maxHeartbeats 4000000 in
theorem r18same_any (L : Nat) (u v : Value) (b1 b2 : Nat) (es fs : List SpE) (w : World) (hu : SpR L w b1 u es) (hv : SpR L w b2 v fs) (he : es.map SpE.vl = fs.map SpE.vl) (hL : L ≤ 60000) (hn : es.length ≤ 100000) :
    Calls Tryz.prog 9 #[u, v] w fun e w' => e = .returned (.bool true) ∧ Ext w w' := by
  have hlen : es.length = fs.length := by have h := congrArg List.length he; simpa using h
  obtain ⟨Au, cu, rfl⟩ := row_slice hu.1
  obtain ⟨Av, cv, rfl⟩ := row_slice hv.1
  rw [← hlen] at hv ⊢
  have HU := zH hu
  have HV := zH hv
  have HE := zH he
  have HLN := zH hlen
  have hne : ((es.length : Int) != (es.length : Int)) = false := by simp
  clear hu hv he hlen
  go_enter Tryz.func9, Tryz.ntmps9
  go_wp2_with fail
  go_loopg [5] es.length (fun c i wr => ∃ k : Nat, k ≤ es.length ∧ c = es.length - k ∧ i = .int .i64 k ∧ Ext w wr)
  case atStart => exact ⟨0, Nat.zero_le _, rfl, rfl, Ext.refl _⟩
  case round =>
    obtain ⟨k, hk, rfl, rfl, hx⟩ := hrel
    have HX := zH hx
    clear hx
    by_cases hlt : k < es.length
    · have hlt2 : (k : Int) < (es.length : Int) := by omega
      obtain ⟨e, hee⟩ : ∃ e, es[k]? = some e := ⟨_, List.getElem?_eq_getElem hlt⟩
      obtain ⟨f, hff⟩ : ∃ f, fs[k]? = some f := ⟨_, List.getElem?_eq_getElem (by have := HLN.out; omega)⟩
      have hvl : e.vl = f.vl := by
        have h1 : (es.map SpE.vl)[k]? = some e.vl := by rw [List.getElem?_map, hee]; rfl
        rw [HE.out, List.getElem?_map, hff] at h1
        injection h1 with h1
        exact h1.symm
      have hpq : e.p = f.p ∧ e.q = f.q := by have h1 := congrArg Prod.fst hvl; have h2 := congrArg Prod.snd hvl; exact ⟨h1, h2⟩
      have HOE := zH ((HU.out.2 e (List.mem_of_getElem? hee)).ext HX.out)
      have HOF := zH ((HV.out.2 f (List.mem_of_getElem? hff)).ext HX.out)
      obtain ⟨gu, rfl⟩ : ∃ g, Au = some ⟨g, 0, none⟩ := by
        rcases HU.out.form with ⟨_, hn⟩ | ⟨g, cap, rest, hv, _⟩
        · rw [hn] at hlt; simp at hlt
        · injection hv with e1 _ _; exact ⟨g, e1⟩
      obtain ⟨gv, rfl⟩ : ∃ g, Av = some ⟨g, 0, none⟩ := by
        rcases HV.out.form with ⟨_, hn⟩ | ⟨g, cap, rest, hv, _⟩
        · rw [hn] at hff; simp at hff
        · injection hv with e1 _ _; exact ⟨g, e1⟩
      have HRU := zH (range_ext (HU.out.read hee) HX.out)
      have HRV := zH (range_ext (HV.out.read hff) HX.out)
      have HPQ := zH hpq
      have HLT := zH hlt
      clear hee hff hvl hpq hlt
      go_upto_region 6 with fail
      refine wp_region_held_drew (S := fun x => Ext wr x) (by kernel_rfl) (Ext.refl _).drew (fun _ => ?_)
      refine mV 0 (bs 26 1) (Ext.refl wr).drew ?_
      try simp only [Act.put, zA, zB, zC]
      refine mV 1 (bs 26 3) (Ext.refl wr).drew ?_
      try simp only [Act.put, zA, zB, zC]
      refine mV 2 (bs 26 7) (Ext.refl wr).drew ?_
      try simp only [Act.put, zA, zB, zC]
      refine mV 3 (bs 26 15) (Ext.refl wr).drew ?_
      refine mR 4 (bs 26 31) gu (k * 8) [.bool e.a.n, .slice e.a.p e.a.l e.a.c, .bool e.a.m, .slice e.a.p2 e.a.l2 e.a.c2] (fun wX hwX => range_ext (range_left (a := [.bool e.a.n, .slice e.a.p e.a.l e.a.c, .bool e.a.m, .slice e.a.p2 e.a.l2 e.a.c2]) (b := [.bool e.b.n, .slice e.b.p e.b.l e.b.c, .bool e.b.m, .slice e.b.p2 e.b.l2 e.b.c2]) HRU.out) hwX) Tryz.underlying29 (Ext.refl wr).drew ?_
      try simp only [Act.put, zA, zB, zC]
      refine mV 5 (bs 26 63) (Ext.refl wr).drew ?_
      try simp only [Act.put, zA, zB, zC]
      refine mV 6 (bs 26 127) (Ext.refl wr).drew ?_
      try simp only [Act.put, zA, zB, zC]
      refine mV 7 (bs 26 255) (Ext.refl wr).drew ?_
      try simp only [Act.put, zA, zB, zC]
      refine mV 8 (bs 26 511) (Ext.refl wr).drew ?_
      refine mR 9 (bs 26 1023) gv (k * 8) [.bool f.a.n, .slice f.a.p f.a.l f.a.c, .bool f.a.m, .slice f.a.p2 f.a.l2 f.a.c2] (fun wX hwX => range_ext (range_left (a := [.bool f.a.n, .slice f.a.p f.a.l f.a.c, .bool f.a.m, .slice f.a.p2 f.a.l2 f.a.c2]) (b := [.bool f.b.n, .slice f.b.p f.b.l f.b.c, .bool f.b.m, .slice f.b.p2 f.b.l2 f.b.c2]) HRV.out) hwX) Tryz.underlying29 (Ext.refl wr).drew ?_
      try simp only [Act.put, zA, zB, zC]
      refine mC 10 (bs 26 2047) (same_any e.a f.a e.p L _ (HOE.out.ext (Ext.refl _).drew).1 (by rw [HPQ.out.1]; exact (HOF.out.ext (Ext.refl _).drew).1) HOE.out.2.2.1 (by omega)) ?_
      rintro e w5 ⟨rfl, hx⟩
      have HEw5 := zH (show Ext wr w5 from ((Ext.refl wr).drew).trans hx)
      clear hx
      refine ⟨_, rfl, HEw5.out, ?_⟩
      try simp only [Act.put, zA, zB, zC]
      refine mV 11 (bs 26 4095) HEw5.out ?_
      try simp only [Act.put, zA, zB, zC]
      refine mV 12 (bs 26 8191) HEw5.out ?_
      try simp only [Act.put, zA, zB, zC]
      refine mV 13 (bs 26 16383) HEw5.out ?_
      try simp only [Act.put, zA, zB, zC]
      refine mV 14 (bs 26 32767) HEw5.out ?_
      try simp only [Act.put, zA, zB, zC]
      refine mV 15 (bs 26 65535) HEw5.out ?_
      try simp only [Act.put, zA, zB, zC]
      refine mV 16 (bs 26 131071) HEw5.out ?_
      refine mR 17 (bs 26 262143) gu (k * 8 + 4) [.bool e.b.n, .slice e.b.p e.b.l e.b.c, .bool e.b.m, .slice e.b.p2 e.b.l2 e.b.c2] (fun wX hwX => range_ext (range_right (a := [.bool e.a.n, .slice e.a.p e.a.l e.a.c, .bool e.a.m, .slice e.a.p2 e.a.l2 e.a.c2]) (b := [.bool e.b.n, .slice e.b.p e.b.l e.b.c, .bool e.b.m, .slice e.b.p2 e.b.l2 e.b.c2]) (n := 4) HRU.out rfl) hwX) Tryz.underlying29 HEw5.out ?_
      try simp only [Act.put, zA, zB, zC]
      refine mV 18 (bs 26 524287) HEw5.out ?_
      try simp only [Act.put, zA, zB, zC]
      refine mV 19 (bs 26 1048575) HEw5.out ?_
      try simp only [Act.put, zA, zB, zC]
      refine mV 20 (bs 26 2097151) HEw5.out ?_
      try simp only [Act.put, zA, zB, zC]
      refine mV 21 (bs 26 4194303) HEw5.out ?_
      refine mR 22 (bs 26 8388607) gv (k * 8 + 4) [.bool f.b.n, .slice f.b.p f.b.l f.b.c, .bool f.b.m, .slice f.b.p2 f.b.l2 f.b.c2] (fun wX hwX => range_ext (range_right (a := [.bool f.a.n, .slice f.a.p f.a.l f.a.c, .bool f.a.m, .slice f.a.p2 f.a.l2 f.a.c2]) (b := [.bool f.b.n, .slice f.b.p f.b.l f.b.c, .bool f.b.m, .slice f.b.p2 f.b.l2 f.b.c2]) (n := 4) HRV.out rfl) hwX) Tryz.underlying29 HEw5.out ?_
      try simp only [Act.put, zA, zB, zC]
      refine mC 23 (bs 26 16777215) (same_any e.b f.b e.q L _ (HOE.out.ext HEw5.out).2.1 (by rw [HPQ.out.2]; exact (HOF.out.ext HEw5.out).2.1) HOE.out.2.2.2 (by omega)) ?_
      rintro e w6 ⟨rfl, hx⟩
      have HEw6 := zH (show Ext wr w6 from (HEw5.out).trans hx)
      clear hx
      refine ⟨_, rfl, HEw6.out, ?_⟩
      try simp only [Act.put, zA, zB, zC]
      refine mV 24 (bs 26 33554431) HEw6.out ?_
      try simp only [Act.put, zA, zB, zC]
      refine mV 25 (bs 26 67108863) HEw6.out ?_
      try simp only [Act.put, zA, zB, zC]
      refine wpAnyH_done (by kernel_rfl) ?_ _
      go_wp2_with fail
      go_roundg (es.length - (k + 1))
      case measure => have := HLT.out; omega
      case rel => exact ⟨k + 1, HLT.out, rfl, by go_num, HX.out.trans HEw6.out⟩
    · obtain rfl : k = es.length := by omega
      have hge : ¬ (es.length : Int) < (es.length : Int) := by omega
      go_wp2_with fail
      go_ret
      exact ⟨rfl, HX.out⟩
end Go.Proofs.YtaeeeailoiioaaaGreat

namespace Go.Proofs.YtaeeeailoiioaaaGreat
open Go.RowKit

theorem Hp.addRow2 {w0 w w' : World} {m : List Ent} {t t2 : TypeId} {size size2 : Nat} {v v2 : Value} {n n2 : Nat} {xs xs2 : List Value} (h : Hp w0 w m) (x : Ext w w') (r : RowN w' w.heap.size t size v n xs) (r2 : RowN w' w.heap.size t2 size2 v2 n2 xs2) (hne : t ≠ t2) :
    Hp w0 w' (m ++ [.row t size v n xs] ++ [.row t2 size2 v2 n2 xs2]) := by
  have h1 := h.addRow x r
  have r2' : RowN w' w0.heap.size t2 size2 v2 n2 xs2 := by
    obtain ⟨q1, q2 | ⟨g, cap, rest, a, b, c⟩⟩ := r2
    · exact ⟨q1, .inl q2⟩
    · exact ⟨q1, .inr ⟨g, cap, rest, a, Nat.le_trans h.ext.size b, c⟩⟩
  refine h1.add r2' (fun i f hf k hk e => ?_)
  rcases List.mem_append.1 (List.mem_of_getElem? hf) with hm | hm
  · obtain ⟨j, hj⟩ := List.mem_iff_getElem?.1 hm
    have q1 := h.lt hj hk
    have q2 := RowN.block r2 k e
    omega
  · simp at hm
    subst hm
    obtain ⟨_, ⟨rfl, _⟩ | ⟨g2, c2, rest2, rfl, _, hb2, _⟩⟩ := r2
    · simp [Ent.own, Value.ownBlock] at e
    · have hk2 : g2 = k := by simpa [Ent.own, Value.ownBlock] using e
      subst hk2
      exact hne (h1.typ hf hb2 hk)
theorem SpR.up {L M : Nat} {w : World} {b : Nat} {v : Value} {es : List SpE} (h : SpR L w b v es) (hl : L ≤ M) : SpR M w b v es := ⟨h.1, fun e he => ⟨(h.2 e he).1, (h.2 e he).2.1, Nat.le_trans (h.2 e he).2.2.1 hl, Nat.le_trans (h.2 e he).2.2.2 hl⟩⟩
def exR : List Ring := [[(0, 0), (4, 0), (4, 4), (0, 4)]]
theorem ex_marks : marksV (((1 : Int)) : Rat) exR = [((0 : Rat), -1), ((4 : Rat), 1)] := by decide +kernel
theorem ex_spans : spansV 1 [((0 : Rat), -1), ((4 : Rat), 1)] = [((0 : Rat), (4 : Rat))] := by decide +kernel
theorem exRings {w0 w : World} {m : List Ent} {X1 X2 : Nat} (h : Hp w0 w m) (h1 : m[0]? = some (.blk X1 46 [.int .i64 0, .int .i64 0, .int .i64 4, .int .i64 0, .int .i64 4, .int .i64 4, .int .i64 0, .int .i64 4]))
    (h2 : m[1]? = some (.blk X2 47 [.slice (some ⟨X1, 0, none⟩) 4 4])) : RingsV w (.slice (some ⟨X2, 0, none⟩) 1 1) exR := by
  refine ⟨_, 1, rfl, fun _ => ⟨X2, 0, rfl, fun i r hr => ?_⟩⟩
  have hi : i = 0 := by have := (List.getElem?_eq_some_iff.1 hr).1; simp [exR] at this; omega
  subst hi
  have hr2 : r = [(0, 0), (4, 0), (4, 4), (0, 4)] := by simpa [exR] using hr.symm
  subst hr2
  refine ⟨_, 4, h.cell h2 0 rfl, ⟨_, 4, rfl, fun _ => ⟨X1, 0, rfl, fun i hi => ?_⟩⟩⟩
  have hi : i < 4 := hi
  have : i = 0 ∨ i = 1 ∨ i = 2 ∨ i = 3 := by omega
  rcases this with rfl | rfl | rfl | rfl
  · exact ⟨h.cell h1 0 rfl, h.cell h1 1 rfl⟩
  · exact ⟨h.cell h1 2 rfl, h.cell h1 3 rfl⟩
  · exact ⟨h.cell h1 4 rfl, h.cell h1 5 rfl⟩
  · exact ⟨h.cell h1 6 rfl, h.cell h1 7 rfl⟩
theorem Hp.litRow {w0 w : World} {m : List Ent} {i X n size : Nat} {t : TypeId} {cs : List Value} (h : Hp w0 w m) (hi : m[i]? = some (.blk X t cs)) (hl : cs.length = n * size) (hn : n ≤ maxLen) : RowN w w0.heap.size t size (.slice (some ⟨X, 0, none⟩) n n) n cs :=
  ⟨hl, .inr ⟨X, n, [], rfl, h.ge hi rfl, by rw [List.append_nil]; exact h.blk hi, Nat.le_refl _, hn, by simp [hl], by rw [List.append_nil]; exact h.noU hi⟩⟩
theorem RsV.of_row {α : Type} {L : Nat} {w : World} {b n : Nat} {t : TypeId} {v : Value} {es : List α} (f : α → RV) (q : α → Rat) (h : RowN w b t 4 v n (es.flatMap fun e => [.bool (f e).n, .slice (f e).p (f e).l (f e).c, .bool (f e).m, .slice (f e).p2 (f e).l2 (f e).c2])) (hn : n = es.length)
    (hok : ∀ e, e ∈ es → (f e).Is w (q e) ∧ Nm.rl (q e) ≤ L) : RsV L w v (es.map q) := by
  obtain ⟨A, c, rfl, hA⟩ := h.form
  refine ⟨A, c, by rw [List.length_map, hn], fun k x hx => ?_⟩
  rw [List.getElem?_map] at hx
  obtain ⟨e, he, rfl⟩ := Option.map_eq_some_iff.1 hx
  have hk := (List.getElem?_eq_some_iff.1 he).1
  obtain ⟨g, rfl⟩ := hA (by omega)
  obtain ⟨h1, h2⟩ := hok e (List.mem_of_getElem? he)
  exact ⟨g, 0, f e, rfl, by rw [Nat.zero_add]; exact h.rangeAt _ _ (fun j v hj => flat_get (c := 4) (fun _ => rfl) es k e he j v hj), h1, h2⟩
theorem two_of_map {α β : Type} {f : α → β} {l : List α} {x y : β} (h : l.map f = [x, y]) : ∃ a b, l = [a, b] ∧ f a = x ∧ f b = y := by
  rcases l with _ | ⟨a, _ | ⟨b, _ | ⟨c, t⟩⟩⟩
  · cases h
  · simp at h
  · simp at h; exact ⟨a, b, rfl, h.1, h.2⟩
  · simp at h
end Go.Proofs.YtaeeeailoiioaaaGreat

namespace Go.Proofs.YtaeeeailoiioaaaGreat
open Go.RowKit
attribute [local go_sem ↓] Go.wp_at_zero Go.wp_at_succ run_max_ii run_min_ii
set_option maxRecDepth 20000 in
set_option maxHeartbeats 4000000 in
theorem example_any (w : World) : Calls Tryz.prog 7 #[] w fun e w' => e = .returned (.bool true) ∧ Ext w w' := by
 go_enter Tryz.func7, Tryz.ntmps7
 have H0 := zH (Hp.start w)
 go_upto_region 0 with fail
 refine wp_region_lit ?_
 refine qV (.bool false) ?_
 try simp only [Act.put, zA, zB, zC]
 go_upto_region 1 with fail
 refine wp_region_lit ?_
 refine qV (.agg #[.int .i64 0, .int .i64 0]) ?_
 refine qV (.agg #[.int .i64 4, .int .i64 0]) ?_
 try simp only [Act.put, zA, zB, zC]
 refine qV (.agg #[.int .i64 4, .int .i64 4]) ?_
 refine qV (.agg #[.int .i64 0, .int .i64 4]) ?_
 try simp only [Act.put, zA, zB, zC]
 refine mv_lit (T := 46) (zs := [.int .i64 0, .int .i64 0, .int .i64 4, .int .i64 0, .int .i64 4, .int .i64 4, .int .i64 0, .int .i64 4]) (n := 4) (by rfl) (by go_simp) H0.out (by simp [NoUL]) ?_
 intro X6 w7 hh hx hge
 have H8 := zH (show Hp w w7 [.blk X6 46 [.int .i64 0, .int .i64 0, .int .i64 4, .int .i64 0, .int .i64 4, .int .i64 4, .int .i64 0, .int .i64 4]] from hh)
 clear hh hx hge
 try simp only [Act.put, zA, zB, zC]
 refine mv_lit (T := 47) (zs := [.slice (some ⟨X6, 0, none⟩) 4 4]) (n := 1) (by rfl) (by go_simp) H8.out (by simp [NoUL]) ?_
 intro X10 w11 hh hx hge
 have H12 := zH (show Hp w w11 [.blk X6 46 [.int .i64 0, .int .i64 0, .int .i64 4, .int .i64 0, .int .i64 4, .int .i64 4, .int .i64 0, .int .i64 4], .blk X10 47 [.slice (some ⟨X6, 0, none⟩) 4 4]] from hh)
 clear hh hx hge
 try simp only [Act.put, zA, zB, zC]
 refine qV (.slice (some ⟨X10, 0, none⟩) 1 1) ?_
 try simp only [Act.put, zA, zB, zC]
 go_upto_region 2 with fail
 refine wp_region_lit ?_
 refine qV (.slice (some ⟨X10, 0, none⟩) 1 1) ?_
 refine mv_call (by rfl) (by go_simp) (q03From 1 _ (by omega) (by omega)) ?_
 rintro e w16 ⟨c_, rfl, hc_, hx⟩
 have H18 := zH (H12.out.step hx)
 obtain ⟨r17, rfl, hr_⟩ := hc_
 have R17 := zH hr_
 have B17 := zH (rl_i64 1 (by omega) (by omega))
 clear hr_
 clear hx
 refine ⟨_, rfl, ?_⟩
 try simp only [Act.put, zA, zB, zC]
 refine mv_call (by rfl) (by go_simp) (spans_any 3 (.slice (some ⟨X10, 0, none⟩) 1 1) exR 1 r17 (((1) : Int) : Rat) _ (exRings (X1 := X6) (X2 := X10) H18.out (by rfl) (by rfl)) (RV.Is.isIn R17.out (Nat.le_trans B17.out (by decide))) (by decide) (by decide) (by decide) (by decide) (by decide)) ?_
 rintro e w20 ⟨v_, es21, rfl, hv1_, hv2_, hv3_, hx⟩
 have VL21 := zH hv2_
 have LN21 := zH hv3_
 have OK21 := zH hv1_.2
 obtain ⟨A21, c21, rfl, hA_⟩ := RowN.form hv1_.1
 have HA21 := zH hA_
 clear hv2_ hv3_ hA_
 have H22 := zH (show Hp w w20 [.blk X6 46 [.int .i64 0, .int .i64 0, .int .i64 4, .int .i64 0, .int .i64 4, .int .i64 4, .int .i64 0, .int .i64 4], .blk X10 47 [.slice (some ⟨X6, 0, none⟩) 4 4], .row 31 8 (.slice A21 es21.length c21) (es21.length) (List.flatMap SpE.cells es21)] from H18.out.addRow hx hv1_.1)
 clear hv1_
 clear hx
 refine ⟨_, rfl, ?_⟩
 try simp only [Act.put, zA, zB, zC]
 refine qV (.slice A21 es21.length c21) ?_
 try simp only [Act.put, zA, zB, zC]
 go_upto_region 3 with fail
 refine wp_region_lit ?_
 refine qV (.slice (some ⟨X10, 0, none⟩) 1 1) ?_
 refine mv_call (by rfl) (by go_simp) (q03From 1 _ (by omega) (by omega)) ?_
 rintro e w26 ⟨c_, rfl, hc_, hx⟩
 have H28 := zH (H22.out.step hx)
 have D28 := zH (show Dig w20 w26 from Dig.of_ext hx)
 obtain ⟨r27, rfl, hr_⟩ := hc_
 have R27 := zH hr_
 have B27 := zH (rl_i64 1 (by omega) (by omega))
 clear hr_
 clear hx
 refine ⟨_, rfl, ?_⟩
 try simp only [Act.put, zA, zB, zC]
 refine mv_call (by rfl) (by go_simp) (crossings_any 3 _ exR r27 (((1) : Int) : Rat) _ (exRings (X1 := X6) (X2 := X10) H28.out (by rfl) (by rfl)) (RV.Is.isIn R27.out (Nat.le_trans B27.out (by decide))) (by decide) (by decide) (by decide) (by decide)) ?_
 rintro e w30 ⟨A1, c1, A2, c2, n_, em, rfl, rfl, hr1_, hr2_, hok_, hcv_, hx⟩
 obtain ⟨ea, eb, rfl, hva_, hvb_⟩ := two_of_map (hcv_.trans ex_marks)
 have HVA := zH hva_
 have HVB := zH hvb_
 have HOKX := zH hok_
 clear hcv_ hva_ hvb_ hok_
 obtain ⟨g1, rfl⟩ : ∃ g, A1 = some ⟨g, 0, none⟩ := by obtain ⟨A_, c_, h1_, h2_⟩ := RowN.form hr1_; injection h1_ with h1_ _ _; rw [h1_]; exact h2_ (by simp)
 obtain ⟨g2, rfl⟩ : ∃ g, A2 = some ⟨g, 0, none⟩ := by obtain ⟨A_, c_, h1_, h2_⟩ := RowN.form hr2_; injection h1_ with h1_ _ _; rw [h1_]; exact h2_ (by simp)
 have H31 := zH (show Hp w w30 [.blk X6 46 [.int .i64 0, .int .i64 0, .int .i64 4, .int .i64 0, .int .i64 4, .int .i64 4, .int .i64 0, .int .i64 4], .blk X10 47 [.slice (some ⟨X6, 0, none⟩) 4 4], .row 31 8 (.slice A21 es21.length c21) (es21.length) (List.flatMap SpE.cells es21), .row 29 4 (.slice (some ⟨g1, 0, none⟩) 2 c1) (2) (List.flatMap MkE.cx ([ea, eb])), .row 3 1 (.slice (some ⟨g2, 0, none⟩) 2 c2) (2) (List.flatMap MkE.cu ([ea, eb]))] from H28.out.addRow2 hx hr1_ hr2_ (by decide))
 have D31 := zH (show Dig w26 w30 from Dig.of_ext hx)
 clear hx hr1_ hr2_
 refine ⟨_, rfl, ?_⟩
 try simp only [Act.put, zA, zB, zC]
 refine qV (.tuple #[.slice (some ⟨g1, 0, none⟩) 2 c1, .slice (some ⟨g2, 0, none⟩) 2 c2]) ?_
 refine qV (.slice (some ⟨g1, 0, none⟩) 2 c1) ?_
 try simp only [Act.put, zA, zB, zC]
 refine qV (.slice (some ⟨g2, 0, none⟩) 2 c2) ?_
 refine qV (.slice (some ⟨g1, 0, none⟩) 2 c1) ?_
 try simp only [Act.put, zA, zB, zC]
 refine qV (.slice (some ⟨g2, 0, none⟩) 2 c2) ?_
 try simp only [Act.put, zA, zB, zC]
 have HEA := zH (show [ea, eb][0]? = some ea from rfl)
 have HEB := zH (show [ea, eb][1]? = some eb from rfl)
 have hua := (HOKX.out ea (by simp)).2.2
 have hub := (HOKX.out eb (by simp)).2.2
 have hsum : ea.up = -1 ∧ eb.up = 1 := ⟨congrArg Prod.snd HVA.out, congrArg Prod.snd HVB.out⟩
 go_upto_region 4 with fail
 refine wp_region_held_drew (S := fun x => Ext w30 x) (by kernel_rfl) (Ext.refl _).drew (fun _ => ?_)
 have H38 := zH (H31.out.step (Ext.refl w30).drew)
 have D38 := zH (show Dig w30 w30.drew from Dig.of_ext (Ext.refl w30).drew)
 refine mW 0 (bs 29 1) (v := .slice A21 es21.length c21) (Ext.refl _).drew ?hv40 ?rv40
 case hv40 => (intro w hSw; go_simp <;> with_reducible rfl)
 try simp only [Act.put, zA, zB, zC]
 refine mC 1 (bs 29 3) (q03From 0 _ (by have ob0 := hua.1; have ob1 := hua.2; have ob2 := hub.1; have ob3 := hub.2; have ob4 := hsum.1; have ob5 := hsum.2; omega) (by have ob0 := hua.1; have ob1 := hua.2; have ob2 := hub.1; have ob3 := hub.2; have ob4 := hsum.1; have ob5 := hsum.2; omega)) ?_
 rintro e w41 ⟨c_, rfl, hc_, hx⟩
 have H43 := zH (H38.out.step hx)
 have D43 := zH (show Dig w30.drew w41 from Dig.of_ext hx)
 have S45 := zH (show Ext w30 w41 from (Ext.refl _).drew.trans hx)
 obtain ⟨r42, rfl, hr_⟩ := hc_
 have R42 := zH hr_
 have B42 := zH (rl_i64 0 (by have ob0 := hua.1; have ob1 := hua.2; have ob2 := hub.1; have ob3 := hub.2; have ob4 := hsum.1; have ob5 := hsum.2; omega) (by have ob0 := hua.1; have ob1 := hua.2; have ob2 := hub.1; have ob3 := hub.2; have ob4 := hsum.1; have ob5 := hsum.2; omega))
 clear hr_
 clear hx
 refine ⟨_, rfl, S45.out, ?_⟩
 try simp only [Act.put, zA, zB, zC]
 refine mC 2 (bs 29 7) (q03From 4 _ (by have ob0 := hua.1; have ob1 := hua.2; have ob2 := hub.1; have ob3 := hub.2; have ob4 := hsum.1; have ob5 := hsum.2; omega) (by have ob0 := hua.1; have ob1 := hua.2; have ob2 := hub.1; have ob3 := hub.2; have ob4 := hsum.1; have ob5 := hsum.2; omega)) ?_
 rintro e w46 ⟨c_, rfl, hc_, hx⟩
 have H48 := zH (H43.out.step hx)
 have D48 := zH (show Dig w41 w46 from Dig.of_ext hx)
 have S50 := zH (show Ext w30 w46 from S45.out.trans hx)
 obtain ⟨r47, rfl, hr_⟩ := hc_
 have R47 := zH hr_
 have B47 := zH (rl_i64 4 (by have ob0 := hua.1; have ob1 := hua.2; have ob2 := hub.1; have ob3 := hub.2; have ob4 := hsum.1; have ob5 := hsum.2; omega) (by have ob0 := hua.1; have ob1 := hua.2; have ob2 := hub.1; have ob3 := hub.2; have ob4 := hsum.1; have ob5 := hsum.2; omega))
 clear hr_
 clear hx
 refine ⟨_, rfl, S50.out, ?_⟩
 try simp only [Act.put, zA, zB, zC]
 refine mW 3 (bs 29 15) (v := .agg #[.bool r42.n, .slice r42.p r42.l r42.c, .bool r42.m, .slice r42.p2 r42.l2 r42.c2, .bool r47.n, .slice r47.p r47.l r47.c, .bool r47.m, .slice r47.p2 r47.l2 r47.c2]) S50.out ?hv51 ?rv51
 case hv51 => (intro w hSw; go_simp <;> with_reducible rfl)
 try simp only [Act.put, zA, zB, zC]
 refine md_lit (T := 31) (zs := [.bool r42.n, .slice r42.p r42.l r42.c, .bool r42.m, .slice r42.p2 r42.l2 r42.c2, .bool r47.n, .slice r47.p r47.l r47.c, .bool r47.m, .slice r47.p2 r47.l2 r47.c2]) (n := 1) (i := 4) (listed' := (bs 29 31)) (by rfl) (by kernel_rfl) (by rfl) (by go_simp) (by kernel_rfl) H48.out (by simp [NoUL]) ?_
 intro X52 w53 hh hx hge
 have H54 := zH (show Hp w w53 [.blk X6 46 [.int .i64 0, .int .i64 0, .int .i64 4, .int .i64 0, .int .i64 4, .int .i64 4, .int .i64 0, .int .i64 4], .blk X10 47 [.slice (some ⟨X6, 0, none⟩) 4 4], .row 31 8 (.slice A21 es21.length c21) (es21.length) (List.flatMap SpE.cells es21), .row 29 4 (.slice (some ⟨g1, 0, none⟩) 2 c1) (2) (List.flatMap MkE.cx ([ea, eb])), .row 3 1 (.slice (some ⟨g2, 0, none⟩) 2 c2) (2) (List.flatMap MkE.cu ([ea, eb])), .blk X52 31 [.bool r42.n, .slice r42.p r42.l r42.c, .bool r42.m, .slice r42.p2 r42.l2 r42.c2, .bool r47.n, .slice r47.p r47.l r47.c, .bool r47.m, .slice r47.p2 r47.l2 r47.c2]] from hh)
 have D54 := zH (show Dig w46 w53 from Dig.of_ext hx)
 have S56 := zH (show Ext w30 w53 from S50.out.trans hx)
 clear hh hx hge
 refine ⟨S56.out, ?_⟩
 try simp only [Act.put, zA, zB, zC]
 have DD59 := zH ((((((D28.out.trans D31.out).trans D38.out).trans D43.out).trans D48.out).trans D54.out))
 have DD60 := zH ((D48.out.trans D54.out))
 refine mC 5 (bs 29 63) (r18same_any 60000 (.slice A21 es21.length c21) (.slice (some ⟨X52, 0, none⟩) 1 1) _ _ es21 ([(⟨r42, r47, (((0) : Int) : Rat), (((4) : Int) : Rat)⟩ : SpE)]) _ (SpR.up (L := (3 + 8)) ⟨H54.out.row (i := 2) (by rfl), (fun e_ he_ => (OK21.out e_ he_).dig DD59.out)⟩ (by omega)) ⟨H54.out.litRow (i := 5) (n := 1) (by rfl) (by rfl) (by decide), (by simp only [List.forall_mem_cons, List.not_mem_nil, false_imp_iff, implies_true, and_true]; exact ⟨(R42.out.dig DD60.out), (R47.out.dig D54.out), (Nat.le_trans B42.out (by omega)), (Nat.le_trans B47.out (by omega))⟩)⟩ (by rw [VL21.out, ex_marks, ex_spans]; rfl) (by omega) (Nat.le_trans LN21.out (by decide))) ?_
 rintro e w58 ⟨rfl, hx⟩
 have H61 := zH (H54.out.step hx)
 have D61 := zH (show Dig w53 w58 from Dig.of_ext hx)
 have S63 := zH (show Ext w30 w58 from S56.out.trans hx)
 clear hx
 refine ⟨_, rfl, S63.out, ?_⟩
 try simp only [Act.put, zA, zB, zC]
 refine mW 6 (bs 29 127) (v := .bool true) S63.out ?hv64 ?rv64
 case hv64 => (intro w hSw; go_simp <;> with_reducible rfl)
 try simp only [Act.put, zA, zB, zC]
 refine mW 7 (bs 29 255) (v := .slice (some ⟨g1, 0, none⟩) 2 c1) S63.out ?hv65 ?rv65
 case hv65 => (intro w hSw; go_simp <;> with_reducible rfl)
 try simp only [Act.put, zA, zB, zC]
 refine mC 8 (bs 29 511) (q03From 0 _ (by have ob0 := hua.1; have ob1 := hua.2; have ob2 := hub.1; have ob3 := hub.2; have ob4 := hsum.1; have ob5 := hsum.2; omega) (by have ob0 := hua.1; have ob1 := hua.2; have ob2 := hub.1; have ob3 := hub.2; have ob4 := hsum.1; have ob5 := hsum.2; omega)) ?_
 rintro e w66 ⟨c_, rfl, hc_, hx⟩
 have H68 := zH (H61.out.step hx)
 have D68 := zH (show Dig w58 w66 from Dig.of_ext hx)
 have S70 := zH (show Ext w30 w66 from S63.out.trans hx)
 obtain ⟨r67, rfl, hr_⟩ := hc_
 have R67 := zH hr_
 have B67 := zH (rl_i64 0 (by have ob0 := hua.1; have ob1 := hua.2; have ob2 := hub.1; have ob3 := hub.2; have ob4 := hsum.1; have ob5 := hsum.2; omega) (by have ob0 := hua.1; have ob1 := hua.2; have ob2 := hub.1; have ob3 := hub.2; have ob4 := hsum.1; have ob5 := hsum.2; omega))
 clear hr_
 clear hx
 refine ⟨_, rfl, S70.out, ?_⟩
 try simp only [Act.put, zA, zB, zC]
 refine mC 9 (bs 29 1023) (q03From 4 _ (by have ob0 := hua.1; have ob1 := hua.2; have ob2 := hub.1; have ob3 := hub.2; have ob4 := hsum.1; have ob5 := hsum.2; omega) (by have ob0 := hua.1; have ob1 := hua.2; have ob2 := hub.1; have ob3 := hub.2; have ob4 := hsum.1; have ob5 := hsum.2; omega)) ?_
 rintro e w71 ⟨c_, rfl, hc_, hx⟩
 have H73 := zH (H68.out.step hx)
 have D73 := zH (show Dig w66 w71 from Dig.of_ext hx)
 have S75 := zH (show Ext w30 w71 from S70.out.trans hx)
 obtain ⟨r72, rfl, hr_⟩ := hc_
 have R72 := zH hr_
 have B72 := zH (rl_i64 4 (by have ob0 := hua.1; have ob1 := hua.2; have ob2 := hub.1; have ob3 := hub.2; have ob4 := hsum.1; have ob5 := hsum.2; omega) (by have ob0 := hua.1; have ob1 := hua.2; have ob2 := hub.1; have ob3 := hub.2; have ob4 := hsum.1; have ob5 := hsum.2; omega))
 clear hr_
 clear hx
 refine ⟨_, rfl, S75.out, ?_⟩
 try simp only [Act.put, zA, zB, zC]
 refine md_lit (T := 29) (zs := [.bool r67.n, .slice r67.p r67.l r67.c, .bool r67.m, .slice r67.p2 r67.l2 r67.c2, .bool r72.n, .slice r72.p r72.l r72.c, .bool r72.m, .slice r72.p2 r72.l2 r72.c2]) (n := 2) (i := 10) (listed' := (bs 29 2047)) (by rfl) (by kernel_rfl) (by rfl) (by go_simp) (by kernel_rfl) H73.out (by simp [NoUL]) ?_
 intro X76 w77 hh hx hge
 have H78 := zH (show Hp w w77 [.blk X6 46 [.int .i64 0, .int .i64 0, .int .i64 4, .int .i64 0, .int .i64 4, .int .i64 4, .int .i64 0, .int .i64 4], .blk X10 47 [.slice (some ⟨X6, 0, none⟩) 4 4], .row 31 8 (.slice A21 es21.length c21) (es21.length) (List.flatMap SpE.cells es21), .row 29 4 (.slice (some ⟨g1, 0, none⟩) 2 c1) (2) (List.flatMap MkE.cx ([ea, eb])), .row 3 1 (.slice (some ⟨g2, 0, none⟩) 2 c2) (2) (List.flatMap MkE.cu ([ea, eb])), .blk X52 31 [.bool r42.n, .slice r42.p r42.l r42.c, .bool r42.m, .slice r42.p2 r42.l2 r42.c2, .bool r47.n, .slice r47.p r47.l r47.c, .bool r47.m, .slice r47.p2 r47.l2 r47.c2], .blk X76 29 [.bool r67.n, .slice r67.p r67.l r67.c, .bool r67.m, .slice r67.p2 r67.l2 r67.c2, .bool r72.n, .slice r72.p r72.l r72.c, .bool r72.m, .slice r72.p2 r72.l2 r72.c2]] from hh)
 have D78 := zH (show Dig w71 w77 from Dig.of_ext hx)
 have S80 := zH (show Ext w30 w77 from S75.out.trans hx)
 clear hh hx hge
 refine ⟨S80.out, ?_⟩
 try simp only [Act.put, zA, zB, zC]
 have DD83 := zH ((((((((D38.out.trans D43.out).trans D48.out).trans D54.out).trans D61.out).trans D68.out).trans D73.out).trans D78.out))
 have DD84 := zH ((D73.out.trans D78.out))
 refine mC 11 (bs 29 4095) (sameAll_any 60000 (.slice (some ⟨g1, 0, none⟩) 2 c1) (.slice (some ⟨X76, 0, none⟩) 2 2) [(0 : Rat), (4 : Rat)] _ (by have hr_ : RowN w77 _ 29 4 (.slice (some ⟨g1, 0, none⟩) 2 c1) 2 (List.flatMap MkE.cx [ea, eb]) := H78.out.row (i := 3) (by rfl); have h := RsV.of_row (L := 60000) MkE.a MkE.q hr_ rfl (fun e_ he_ => by have h1 := ((HOKX.out e_ he_).dig DD83.out); exact ⟨h1.1, Nat.le_trans h1.2.1 (by decide)⟩); rwa [show List.map MkE.q [ea, eb] = [(0 : Rat), (4 : Rat)] from by have q1 : ea.q = 0 := congrArg Prod.fst HVA.out; have q2 : eb.q = 4 := congrArg Prod.fst HVB.out; simp [q1, q2]] at h) (by have hr_ : RowN w77 _ 29 4 (.slice (some ⟨X76, 0, none⟩) 2 2) 2 [.bool r67.n, .slice r67.p r67.l r67.c, .bool r67.m, .slice r67.p2 r67.l2 r67.c2, .bool r72.n, .slice r72.p r72.l r72.c, .bool r72.m, .slice r72.p2 r72.l2 r72.c2] := H78.out.litRow (i := 6) (by rfl) (by rfl) (by decide); have h := RsV.of_row (L := 60000) (es := [(⟨r67, 0, 0⟩ : MkE), ⟨r72, 4, 0⟩]) MkE.a MkE.q hr_ rfl (by simp only [List.forall_mem_cons, List.not_mem_nil, false_imp_iff, implies_true, and_true]; exact ⟨⟨(R67.out.dig DD84.out), (Nat.le_trans B67.out (by omega))⟩, (R72.out.dig D78.out), (Nat.le_trans B72.out (by omega))⟩); exact h) (by decide) (by decide)) ?_
 rintro e w82 ⟨rfl, hx⟩
 have H85 := zH (H78.out.step hx)
 have S87 := zH (show Ext w30 w82 from S80.out.trans hx)
 clear hx
 refine ⟨_, rfl, S87.out, ?_⟩
 try simp only [Act.put, zA, zB, zC]
 refine mW 12 (bs 29 8191) (v := .bool true) S87.out ?hv88 ?rv88
 case hv88 => (intro w hSw; go_simp <;> with_reducible rfl)
 try simp only [Act.put, zA, zB, zC]
 refine mW 13 (bs 29 16383) (v := .bool true) S87.out ?hv89 ?rv89
 case hv89 => (intro w hSw; go_simp <;> with_reducible rfl)
 try simp only [Act.put, zA, zB, zC]
 refine mW 14 (bs 29 32767) (v := .slice (some ⟨g2, 0, none⟩) 2 c2) S87.out ?hv90 ?rv90
 case hv90 => (intro w hSw; go_simp <;> with_reducible rfl)
 try simp only [Act.put, zA, zB, zC]
 refine mW 15 (bs 29 65535) (v := .int .i64 2) S87.out ?hv91 ?rv91
 case hv91 => (intro w hSw; go_simp <;> with_reducible rfl)
 try simp only [Act.put, zA, zB, zC]
 refine mW 16 (bs 29 131071) (v := .bool true) S87.out ?hv92 ?rv92
 case hv92 => (intro w hSw; exact ev_eql (by rfl) (by rfl) (by rfl) (dec_t (by have ob0 := hua.1; have ob1 := hua.2; have ob2 := hub.1; have ob3 := hub.2; have ob4 := hsum.1; have ob5 := hsum.2; omega)))
 try simp only [Act.put, zA, zB, zC]
 refine mW 17 (bs 29 262143) (v := .bool true) S87.out ?hv93 ?rv93
 case hv93 => (intro w hSw; go_simp <;> with_reducible rfl)
 try simp only [Act.put, zA, zB, zC]
 refine mW 18 (bs 29 524287) (v := .bool true) S87.out ?hv94 ?rv94
 case hv94 => (intro w hSw; go_simp <;> with_reducible rfl)
 try simp only [Act.put, zA, zB, zC]
 refine mW 19 (bs 29 1048575) (v := .slice (some ⟨g2, 0, none⟩) 2 c2) S87.out ?hv95 ?rv95
 case hv95 => (intro w hSw; go_simp <;> with_reducible rfl)
 try simp only [Act.put, zA, zB, zC]
 refine mW 20 (bs 29 2097151) (v := .pointer (some ⟨g2, 0 * 1, none⟩)) S87.out ?hv96 ?rv96
 case hv96 => (intro w hSw; exact ev_index (k := 0) (by rfl) Tryz.underlying51 (by kernel_rfl) (by rfl) (by rfl) (by omega) (by decide) (Nat.zero_add _).symm)
 try simp only [Act.put, zA, zB, zC]
 refine md_ld1 (g := g2) (o := 0 * 1) (v := .int .i64 ea.up) (i := 21) (listed' := (bs 29 4194303)) (by rfl) (by kernel_rfl) (by kernel_rfl) (by kernel_rfl) (by intro _ _ _ h; exact h) (by rfl) (fun x hx => Ext.get hx (show World.cell? w30 ⟨g2, 0 * 1, none⟩ = some (.int .i64 ea.up) from cell_of_range (H31.out.elem (f := MkE.cu) (i := 4) (by rfl) MkE.cu_len HEA.out))) (by intro x hq; go_simp <;> with_reducible rfl) S87.out (by kernel_rfl) ?_
 try simp only [Act.put, zA, zB, zC]
 refine mW 22 (bs 29 8388607) (v := .slice (some ⟨g2, 0, none⟩) 2 c2) S87.out ?hv97 ?rv97
 case hv97 => (intro w hSw; go_simp <;> with_reducible rfl)
 try simp only [Act.put, zA, zB, zC]
 refine mW 23 (bs 29 16777215) (v := .pointer (some ⟨g2, 1 * 1, none⟩)) S87.out ?hv98 ?rv98
 case hv98 => (intro w hSw; exact ev_index (k := 1) (by rfl) Tryz.underlying51 (by kernel_rfl) (by rfl) (by rfl) (by omega) (by decide) (Nat.zero_add _).symm)
 try simp only [Act.put, zA, zB, zC]
 refine md_ld1 (g := g2) (o := 1 * 1) (v := .int .i64 eb.up) (i := 24) (listed' := (bs 29 33554431)) (by rfl) (by kernel_rfl) (by kernel_rfl) (by kernel_rfl) (by intro _ _ _ h; exact h) (by rfl) (fun x hx => Ext.get hx (show World.cell? w30 ⟨g2, 1 * 1, none⟩ = some (.int .i64 eb.up) from cell_of_range (H31.out.elem (f := MkE.cu) (i := 4) (by rfl) MkE.cu_len HEB.out))) (by intro x hq; go_simp <;> with_reducible rfl) S87.out (by kernel_rfl) ?_
 try simp only [Act.put, zA, zB, zC]
 refine mW 25 (bs 29 67108863) (v := .int .i64 (ea.up + eb.up)) S87.out ?hv99 ?rv99
 case hv99 => (intro w hSw; exact ev_add (by rfl) (by rfl) (by rfl) (by first | rfl | omega) (by have ob0 := hua.1; have ob1 := hua.2; have ob2 := hub.1; have ob3 := hub.2; have ob4 := hsum.1; have ob5 := hsum.2; omega) (by have ob0 := hua.1; have ob1 := hua.2; have ob2 := hub.1; have ob3 := hub.2; have ob4 := hsum.1; have ob5 := hsum.2; omega))
 try simp only [Act.put, zA, zB, zC]
 refine mW 26 (bs 29 134217727) (v := .bool true) S87.out ?hv100 ?rv100
 case hv100 => (intro w hSw; exact ev_eql (by rfl) (by rfl) (by rfl) (dec_t (by have ob0 := hua.1; have ob1 := hua.2; have ob2 := hub.1; have ob3 := hub.2; have ob4 := hsum.1; have ob5 := hsum.2; omega)))
 try simp only [Act.put, zA, zB, zC]
 refine mW 27 (bs 29 268435455) (v := .bool true) S87.out ?hv101 ?rv101
 case hv101 => (intro w hSw; go_simp <;> with_reducible rfl)
 try simp only [Act.put, zA, zB, zC]
 refine mW 28 (bs 29 536870911) (v := .bool true) S87.out ?hv102 ?rv102
 case hv102 => (intro w hSw; go_simp <;> with_reducible rfl)
 try simp only [Act.put, zA, zB, zC]
 refine wpAnyH_done (by kernel_rfl) ?_ _
 go_wp2_with fail
 go_ret
 exact ⟨rfl, H85.out.ext⟩
end Go.Proofs.YtaeeeailoiioaaaGreat

namespace Go.Proofs.YtaeeeailoiioaaaGreat
open Go.RowKit
attribute [local go_sem ↓] Go.wp_at_zero Go.wp_at_succ run_max_ii run_min_ii
set_option maxRecDepth 20000 in
set_option maxHeartbeats 4000000 in
theorem rsorted_any (L : Nat) (u : Value) (ps : List QQ) (w : World) (hu : SpansV L w u ps) (h1L : 1 ≤ L) (hL : L ≤ 60000) (hn : ps.length ≤ 20000) :
  Calls Tryz.prog 28 #[u] w fun e w' => ∃ v es, e = .returned v ∧ SpR L w' w.heap.size v es ∧ es.map SpE.vl = sortedV ps ∧ es.length ≤ ps.length ∧ Ext w w' := by
 have HU := zH hu
 have HL1 := zH h1L
 obtain ⟨Au, cu, rfl, _⟩ := hu
 obtain ⟨i0, hi, hz0, hz1, hz2⟩ := info_parts infoSp
 have HI := zH (And.intro hi (And.intro hz0 (And.intro hz1 hz2)))
 clear hi hz0 hz1 hz2
 go_enter Tryz.func28, Tryz.ntmps28
 go_wp2_with fail
 go_loopg [3, 4] ps.length (fun c v i wr => ∃ (k : Nat) (es : List SpE) (v2 : Value), k ≤ ps.length ∧ c = ps.length - k ∧ i = .int .i64 k ∧ v2 = v ∧ SpR L wr w.heap.size v2 es ∧ es.map SpE.vl = sortedV (ps.take k) ∧ es.length ≤ k ∧ Ext w wr)
 case atStart => exact ⟨0, [], _, Nat.zero_le _, rfl, rfl, rfl, ⟨RowN.empty w w.heap.size 31 8 (Nat.le_refl _), by simp⟩, rfl, Nat.le_refl _, (Ext.refl _).alloc _⟩
 case round =>
  obtain ⟨k, es, v, hk, rfl, rfl, rfl, hsp, hes, hek, hx⟩ := hrel
  have HSP := zH hsp
  have HES := zH (And.intro hes hek)
  have HX := zH hx
  clear hsp hes hx
  by_cases hlt : k < ps.length
  ·have hlt2 : (k : Int) < (ps.length : Int) := by omega
   obtain ⟨p, hp⟩ : ∃ p, ps[k]? = some p := ⟨_, List.getElem?_eq_getElem hlt⟩
   obtain ⟨g, off, c9, f, hv9, hr, hfa, hfb⟩ := (HU.out.ext HX.out).at hp
   injection hv9 with hv1 hv2 hv3
   subst hv1
   have HSM := zH (sorted_succ hp)
   have HR1 := zH (range_left (a := [.bool f.a.n, .slice f.a.p f.a.l f.a.c, .bool f.a.m, .slice f.a.p2 f.a.l2 f.a.c2]) (b := [.bool f.b.n, .slice f.b.p f.b.l f.b.c, .bool f.b.m, .slice f.b.p2 f.b.l2 f.b.c2]) hr)
   have HR2 := zH (range_right (a := [.bool f.a.n, .slice f.a.p f.a.l f.a.c, .bool f.a.m, .slice f.a.p2 f.a.l2 f.a.c2]) (b := [.bool f.b.n, .slice f.b.p f.b.l f.b.c, .bool f.b.m, .slice f.b.p2 f.b.l2 f.b.c2]) (n := 4) hr rfl)
   have HFA := zH hfa
   have HFB := zH hfb
   have HLT := zH hlt
   have HFAR := zH (show v.ownBlock ≠ some g from fun h => by have h1 := HSP.out.1.block g h; obtain ⟨g2, off2, c2, f2, hv2, hr2, _⟩ := HU.out.at hp; injection hv2 with k1 _ _; injection k1 with k1; injection k1 with k1; have h2 := range_lt (v := .bool f2.a.n) (j := 0) hr2 rfl; omega)
   clear hr hfa hfb hp hlt hv2 hv3
   go_upto_region 5 with fail
   refine wp_region_held_drew (S := fun x => Ext wr x) (by kernel_rfl) (Ext.refl _).drew (fun _ => ?_)
   refine mV 0 (bs 12 1) (Ext.refl wr).drew ?_
   try simp only [Act.put, zA, zB, zC]
   refine mV 1 (bs 12 3) (Ext.refl wr).drew ?_
   try simp only [Act.put, zA, zB, zC]
   refine mV 2 (bs 12 7) (Ext.refl wr).drew ?_
   try simp only [Act.put, zA, zB, zC]
   refine mV 3 (bs 12 15) (Ext.refl wr).drew ?_
   refine mR 4 (bs 12 31) g (off + k * 8) [.bool f.a.n, .slice f.a.p f.a.l f.a.c, .bool f.a.m, .slice f.a.p2 f.a.l2 f.a.c2] (fun wX hwX => range_ext HR1.out hwX) Tryz.underlying29 (Ext.refl wr).drew ?_
   try simp only [Act.put, zA, zB, zC]
   refine mV 5 (bs 12 63) (Ext.refl wr).drew ?_
   try simp only [Act.put, zA, zB, zC]
   refine mV 6 (bs 12 127) (Ext.refl wr).drew ?_
   try simp only [Act.put, zA, zB, zC]
   refine mV 7 (bs 12 255) (Ext.refl wr).drew ?_
   try simp only [Act.put, zA, zB, zC]
   refine mV 8 (bs 12 511) (Ext.refl wr).drew ?_
   refine mR 9 (bs 12 1023) g (off + k * 8 + 4) [.bool f.b.n, .slice f.b.p f.b.l f.b.c, .bool f.b.m, .slice f.b.p2 f.b.l2 f.b.c2] (fun wX hwX => range_ext HR2.out hwX) Tryz.underlying29 (Ext.refl wr).drew ?_
   try simp only [Act.put, zA, zB, zC]
   refine mC 10 (bs 12 2047) (less_any L _ _ p.1 p.2 _ (NIn.ofa (HFA.out.ext (Ext.refl _).drew)) (NIn.ofb' (HFB.out.ext (Ext.refl _).drew)) hL) ?_
   rintro e w5 ⟨rfl, hx⟩
   have HEw5 := zH (show Ext wr w5 from ((Ext.refl wr).drew).trans hx)
   clear hx
   refine ⟨_, rfl, HEw5.out, ?_⟩
   try simp only [Act.put, zA, zB, zC]
   have HEo := HEw5
   have HR15 := zH (range_ext HR1.out HEw5.out)
   have HR25 := zH (range_ext HR2.out HEw5.out)
   have HFA5 := zH (HFA.out.ext HEw5.out)
   have HFB5 := zH (HFB.out.ext HEw5.out)
   have HXw5 := zH (HX.out.trans HEw5.out)
   have HSP5 := zH (HSP.out.ext HEw5.out)
   clear HR1 HR2 HFA HFB HX HSP
   by_cases hpq : p.1 < p.2
   ·have hdd : decide (p.1 < p.2) = true := by simpa using hpq
    have hcont := HSM.out
    rw [if_pos hpq] at hcont
    have HCO := zH hcont
    clear hcont
    refine mV 11 (bs 12 4095) (show Ext wr w5 from HEo.out) ?_
    try simp only [Act.put, zA, zB, zC]
    refine wpAnyH_done (by kernel_rfl) ?_ _
    clear hdd hpq HEo HEw5
    go_upto_region 6 with fail
    refine wp_region_held_drew (S := fun x => w5.grownBy x v.ownBlock) (by kernel_rfl) (grown_of_ext _ (Ext.refl _).drew) (fun _ => ?_)
    refine mV 0 (bs 17 1) (grown_of_ext _ (Ext.refl w5).drew) ?_
    try simp only [Act.put, zA, zB, zC]
    refine mV 1 (bs 17 3) (grown_of_ext _ (Ext.refl w5).drew) ?_
    try simp only [Act.put, zA, zB, zC]
    refine mV 2 (bs 17 7) (grown_of_ext _ (Ext.refl w5).drew) ?_
    try simp only [Act.put, zA, zB, zC]
    refine mV 3 (bs 17 15) (grown_of_ext _ (Ext.refl w5).drew) ?_
    try simp only [Act.put, zA, zB, zC]
    refine mV 4 (bs 17 31) (grown_of_ext _ (Ext.refl w5).drew) ?_
    refine mR 5 (bs 17 63) g (off + k * 8) [.bool f.a.n, .slice f.a.p f.a.l f.a.c, .bool f.a.m, .slice f.a.p2 f.a.l2 f.a.c2] (fun x hx => range_grown HR15.out hx HFAR.out) Tryz.underlying29 (grown_of_ext _ (Ext.refl w5).drew) ?_
    try simp only [Act.put, zA, zB, zC]
    refine mV 7 (bs 17 191) (grown_of_ext _ (Ext.refl w5).drew) ?_
    try simp only [Act.put, zA, zB, zC]
    refine mV 8 (bs 17 447) (grown_of_ext _ (Ext.refl w5).drew) ?_
    try simp only [Act.put, zA, zB, zC]
    refine mV 9 (bs 17 959) (grown_of_ext _ (Ext.refl w5).drew) ?_
    try simp only [Act.put, zA, zB, zC]
    refine mV 10 (bs 17 1983) (grown_of_ext _ (Ext.refl w5).drew) ?_
    refine mR 11 (bs 17 4031) g (off + k * 8 + 4) [.bool f.b.n, .slice f.b.p f.b.l f.b.c, .bool f.b.m, .slice f.b.p2 f.b.l2 f.b.c2] (fun x hx => range_grown HR25.out hx HFAR.out) Tryz.underlying29 (grown_of_ext _ (Ext.refl w5).drew) ?_
    try simp only [Act.put, zA, zB, zC]
    refine mC 6 (bs 17 4095) (q03Norm (NIn.ofa (HFA5.out.ext (Ext.refl _).drew)) (by omega)) ?_
    rintro e w6 ⟨c1, rfl, hc1, hx⟩
    have HEw6 := zH (show Ext w5 w6 from ((Ext.refl w5).drew).trans hx)
    obtain ⟨ra, rfl, hra⟩ := hc1
    have HRA := zH hra
    clear hra
    clear hx
    refine ⟨_, rfl, (grown_of_ext _ HEw6.out), ?_⟩
    try simp only [Act.put, zA, zB, zC]
    refine mC 12 (bs 17 8191) (q03Norm (NIn.ofb' (HFB5.out.ext HEw6.out)) (by omega)) ?_
    rintro e w7 ⟨c2, rfl, hc2, hx⟩
    have HEw7 := zH (show Ext w5 w7 from (HEw6.out).trans hx)
    obtain ⟨rb, rfl, hrb⟩ := hc2
    have HRB := zH hrb
    have HRA7 := zH (HRA.out.ext hx)
    clear hrb HRA
    clear hx
    refine ⟨_, rfl, (grown_of_ext _ HEw7.out), ?_⟩
    try simp only [Act.put, zA, zB, zC]
    refine mV 13 (bs 17 16383) (grown_of_ext _ HEw7.out) ?_
    try simp only [Act.put, zA, zB, zC]
    have hw7 := HSP5.out.ext HEw7.out
    have hbz := (HXw5.out.trans HEw7.out).size
    have hek3 : es.length ≤ 20000 := by have := HES.out.2; omega
    have hOK : SpE.Ok L w7 ⟨ra, rb, p.1, p.2⟩ := ⟨HRA7.out, HRB.out, (NIn.ofa HFA5.out).rl HL1.out, (NIn.ofb' HFB5.out).rl HL1.out⟩
    have HOK := zH hOK
    clear hOK
    have hAE : Ext w7 (w7.alloc (.cells #[.bool ra.n, .slice ra.p ra.l ra.c, .bool ra.m, .slice ra.p2 ra.l2 ra.c2, .bool rb.n, .slice rb.p rb.l rb.c, .bool rb.m, .slice rb.p2 rb.l2 rb.c2] 31)) := (Ext.refl _).alloc _
    refine mU 14 (bs 17 32767) (v := .slice (some ⟨w7.heap.size, 0, none⟩) 1 1) (w' := (w7.alloc (.cells #[.bool ra.n, .slice ra.p ra.l ra.c, .bool ra.m, .slice ra.p2 ra.l2 ra.c2, .bool rb.n, .slice rb.p rb.l rb.c, .bool rb.m, .slice rb.p2 rb.l2 rb.c2] 31))) (grown_of_ext _ ((HEw7.out).alloc _)) ?_
    try simp only [Act.put, zA, zB, zC]
    refine md_appendF (j := 15) (listed' := (bs 17 65535)) (by rfl) (by kernel_rfl) (by rfl) _ _ 22 (by rfl) w.heap.size 31 i0 _ 8 128 Tryz.underlying22 HI.out.1 HI.out.2.1 HI.out.2.2.1 HI.out.2.2.2 rfl (by decide) noUL_zsp _ es.length (spCells es) (by rfl) (hw7.ext hAE).1 ⟨w7.heap.size, 0, none⟩ 1 1 [.bool ra.n, .slice ra.p ra.l ra.c, .bool ra.m, .slice ra.p2 ra.l2 ra.c2, .bool rb.n, .slice rb.p rb.l rb.c, .bool rb.m, .slice rb.p2 rb.l2 rb.c2] (by rfl) rfl (new_cells _ [.bool ra.n, .slice ra.p ra.l ra.c, .bool ra.m, .slice ra.p2 ra.l2 ra.c2, .bool rb.n, .slice rb.p rb.l rb.c, .bool rb.m, .slice rb.p2 rb.l2 rb.c2] _) (by simp [Value.oneCell']) (SpE.noU ⟨ra, rb, p.1, p.2⟩) (by decide) (by unfold maxLen; omega) (by omega) (by have := hAE.size; omega) (by kernel_rfl) ?_
    intro gx cx w8 hf h2 h3 h4
    have HSN := zH ((hw7.ext hAE).snoc (e := ⟨ra, rb, p.1, p.2⟩) rfl (HOK.out.ext hAE) h2 h4)
    have HX8 := zH (((HXw5.out.trans HEw7.out).trans hAE).grown h3 (fun j hj => hw7.1.block j hj))
    have hS8 : w5.grownBy w8 v.ownBlock := ext_grown (HEw7.out.trans hAE) h3
    clear hw7 hbz hf h2 h3 h4 hAE
    refine ⟨hS8, ?_⟩
    try simp only [Act.put, zA, zB, zC]
    refine mV 16 (bs 17 131071) hS8 ?_
    try simp only [Act.put, zA, zB, zC]
    refine wpAnyH_done (by kernel_rfl) ?_ _
    clear hS8 HR15 HR25 HFA5 HFB5 HFAR HRA7 HRB HOK HSP5 HXw5
    have HINS := zH (show (Stb.ins ltE es ⟨ra, rb, p.1, p.2⟩).map SpE.vl = sortedV (ps.take (k + 1)) by rw [HCO.out, ins_map SpE.vl (lt := ltE) (lt' := ltQ) (fun _ _ => rfl), HES.out.1]; rfl)
    have HSRT := zH (show Stb.Srt ltE es from srt_vl (by rw [HES.out.1]; exact sorted_srt _))
    have HEK := zH HES.out.2
    generalize (⟨ra, rb, p.1, p.2⟩ : SpE) = y at *
    obtain ⟨n, hn0⟩ : ∃ n, es.length = n := ⟨_, rfl⟩
    rw [hn0] at HSN HEK ⊢
    have HN := zH hn0
    have hn20 : n ≤ 20000 := by have := HEK.out; omega
    clear hn0 HCO HES HSM
    have wn : IntKind.i64.wrap (n : Int) = (n : Int) := by rw [IntKind.wrap_i64]; omega
    have e1 : ((n + 1 : Nat) : Int) - 1 = (n : Int) := by omega
    have e2 : (n : Int) + 1 - 1 = (n : Int) := by omega
    go_wp2_with fail
    go_loopg [5] n (fun c i wr => ∃ u : Nat, u ≤ n ∧ c = 0 + u ∧ i = .int .i64 u ∧ (∀ z, z ∈ es.drop u → ltE y z = true) ∧ SpR L wr w.heap.size (.slice (some ⟨gx, 0, none⟩) (n + 1) cx) (es.take u ++ y :: es.drop u) ∧ Ext w wr)
    case atStart => exact ⟨n, Nat.le_refl _, by omega, rfl, by intro z hz; rw [List.drop_of_length_le (by have := HN.out; omega)] at hz; simp at hz, by rw [List.take_of_length_le (by have := HN.out; omega), List.drop_of_length_le (by have := HN.out; omega)]; exact HSN.out, HX8.out⟩
    case round =>
     clear HSN HX8
     obtain ⟨u, hu, rfl, rfl, hall, hsp, hx⟩ := hrel
     have HALL := zH hall
     have HSP := zH hsp
     have HX := zH hx
     have HU := zH hu
     have hu20 : u ≤ 20000 := by omega
     have wu : IntKind.i64.wrap (u : Int) = (u : Int) := by rw [IntKind.wrap_i64]; omega
     have hrl : (es.take u ++ y :: es.drop u).length = n + 1 := by have := HN.out; simp; omega
     clear hall hsp hx
     by_cases hu0 : 0 < u
     ·obtain ⟨q, hq⟩ : ∃ q, q + 1 = u := ⟨u - 1, by omega⟩
      have hu0z : (0 : Int) < (u : Int) := by omega
      have e3 : (u : Int) - 1 = (q : Int) := by omega
      have wq : IntKind.i64.wrap (q : Int) = (q : Int) := by rw [IntKind.wrap_i64]; omega
      have hql : q < es.length := by have := HN.out; omega
      have gx1 : (es.take u ++ y :: es.drop u)[q]? = some es[q] := by
       rw [List.getElem?_append_left (by rw [List.length_take]; omega), List.getElem?_take, if_pos (by omega)]
       exact List.getElem?_eq_getElem hql
      have gy1 : (es.take u ++ y :: es.drop u)[u]? = some y := by
       rw [List.getElem?_append_right (by rw [List.length_take]; omega), List.length_take, show u - min u es.length = 0 by omega]
       rfl
      have HSTEP := zH (show swp (es.take u ++ y :: es.drop u) u q = es.take q ++ y :: es.drop q by
       have h := swps_left [] es [] y q hql
       simp only [List.nil_append, List.append_nil, List.length_nil, Nat.zero_add] at h
       rw [hq] at h
       exact h)
      have HQX := zH (show ∀ z, z ∈ es.drop q → z = es[q] ∨ z ∈ es.drop u by
       intro z hz
       rw [List.drop_eq_getElem_cons hql, hq] at hz
       simpa using hz)
      have HIN2 := zH (fun h => Stb.ins_stop wkE (y := y) HSRT.out HALL.out (by omega) (Or.inr ⟨q, hq, hql, h⟩))
      have HE := zH (swp_eq gy1 gx1)
      have HOKX := zH (HSP.out.2 es[q] (List.mem_of_getElem? gx1))
      have HOKY := zH (HSP.out.2 y (List.mem_of_getElem? gy1))
      have HRX := zH (HSP.out.read gx1)
      have HRY := zH (HSP.out.read gy1)
      have HLu := zH (List.getElem?_eq_some_iff.1 gy1).1
      have HLq := zH (List.getElem?_eq_some_iff.1 gx1).1
      have bu : (u : Int) < (n : Int) + 1 := by omega
      have bq : (q : Int) < (n : Int) + 1 := by omega
      generalize es[q] = x at *
      generalize hrow : es.take u ++ y :: es.drop u = row at *
      have HROW := zH hrow
      have HQ := zH hq
      clear gx1 gy1 hql hq hrow hu
      go_upto_region 8 with fail
      refine wp_region_held_drew (S := fun x => Ext wr x) (by kernel_rfl) (Ext.refl _).drew (fun _ => ?_)
      refine mV 0 (bs 16 1) (Ext.refl wr).drew ?_
      try simp only [Act.put, zA, zB, zC]
      refine mV 1 (bs 16 3) (Ext.refl wr).drew ?_
      try simp only [Act.put, zA, zB, zC]
      refine mV 2 (bs 16 7) (Ext.refl wr).drew ?_
      try simp only [Act.put, zA, zB, zC]
      refine mV 3 (bs 16 15) (Ext.refl wr).drew ?_
      try simp only [Act.put, zA, zB, zC]
      refine mV 4 (bs 16 31) (Ext.refl wr).drew ?_
      try simp only [Act.put, zA, zB, zC]
      refine mV 5 (bs 16 63) (Ext.refl wr).drew ?_
      try simp only [Act.put, zA, zB, zC]
      refine mV 6 (bs 16 127) (Ext.refl wr).drew ?_
      refine mR 7 (bs 16 255) gx (u * 8) [.bool y.a.n, .slice y.a.p y.a.l y.a.c, .bool y.a.m, .slice y.a.p2 y.a.l2 y.a.c2] (fun wX hwX => range_ext (range_left (a := [.bool y.a.n, .slice y.a.p y.a.l y.a.c, .bool y.a.m, .slice y.a.p2 y.a.l2 y.a.c2]) (b := [.bool y.b.n, .slice y.b.p y.b.l y.b.c, .bool y.b.m, .slice y.b.p2 y.b.l2 y.b.c2]) HRY.out) hwX) Tryz.underlying29 (Ext.refl wr).drew ?_
      try simp only [Act.put, zA, zB, zC]
      refine mV 8 (bs 16 511) (Ext.refl wr).drew ?_
      try simp only [Act.put, zA, zB, zC]
      refine mV 9 (bs 16 1023) (Ext.refl wr).drew ?_
      try simp only [Act.put, zA, zB, zC]
      refine mV 10 (bs 16 2047) (Ext.refl wr).drew ?_
      try simp only [Act.put, zA, zB, zC]
      refine mV 11 (bs 16 4095) (Ext.refl wr).drew ?_
      try simp only [Act.put, zA, zB, zC]
      refine mV 12 (bs 16 8191) (Ext.refl wr).drew ?_
      refine mR 13 (bs 16 16383) gx (q * 8) [.bool x.a.n, .slice x.a.p x.a.l x.a.c, .bool x.a.m, .slice x.a.p2 x.a.l2 x.a.c2] (fun wX hwX => range_ext (range_left (a := [.bool x.a.n, .slice x.a.p x.a.l x.a.c, .bool x.a.m, .slice x.a.p2 x.a.l2 x.a.c2]) (b := [.bool x.b.n, .slice x.b.p x.b.l x.b.c, .bool x.b.m, .slice x.b.p2 x.b.l2 x.b.c2]) HRX.out) hwX) Tryz.underlying29 (Ext.refl wr).drew ?_
      try simp only [Act.put, zA, zB, zC]
      refine mC 14 (bs 16 32767) (less_any L _ _ y.p x.p _ (NIn.ofa2 (HOKY.out.ext (Ext.refl _).drew)) (NIn.ofa2 (HOKX.out.ext (Ext.refl _).drew)) hL) ?_
      rintro e w5 ⟨rfl, hx⟩
      have HEw5 := zH (show Ext wr w5 from ((Ext.refl wr).drew).trans hx)
      clear hx
      refine ⟨_, rfl, HEw5.out, ?_⟩
      try simp only [Act.put, zA, zB, zC]
      have HX5 := zH (HX.out.trans HEw5.out)
      have HSP5 := zH (HSP.out.ext HEw5.out)
      have HRX5 := zH (range_ext HRX.out HEw5.out)
      have HRY5 := zH (range_ext HRY.out HEw5.out)
      have HOKX5 := zH (HOKX.out.ext HEw5.out)
      have HOKY5 := zH (HOKY.out.ext HEw5.out)
      clear HX HSP HRX HRY HOKX HOKY
      by_cases hlt : y.p < x.p
      ·have HLT2 := zH (show ltE y x = true from decide_eq_true hlt)
       have hdd : decide (y.p < x.p) = true := by simpa using hlt
       refine mV 15 (bs 16 65535) HEw5.out ?_
       try simp only [Act.put, zA, zB, zC]
       refine wpAnyH_done (by kernel_rfl) ?_ _
       clear hdd hlt HEw5
       go_upto_region 10 with fail
       refine wp_region_lit ?_
       refine qV (.slice (some ⟨gx, 0, none⟩) (n + 1) cx) ?_
       refine qV (.int .i64 u) ?_
       try simp only [Act.put, zA, zB, zC]
       refine qV (.pointer (some ⟨gx, u * 8, none⟩)) ?_
       try simp only [Act.put, zA, zB, zC]
       refine wpList_if (by rfl) (wp_load_mid _ _ (by rfl) gx (u * 8) (by rfl) y.cells _ HRY5.out Tryz.underlying31 (by rfl) (by kernel_rfl) ?_)
       try simp only [Act.put, zA, zB, zC]
       have HFAR0 := zH (fun X hX => sp_far (X := X) HSP5.out hX)
       refine mv_val (v := .pointer (some ⟨w5.heap.size, 0, none⟩)) (w' := w5.alloc (.cells z8 31)) (by rfl) (by go_simp) ?_
       try simp only [Act.put, zA, zB, zC]
       refine pO (y.cells).toArray (Blk.new w5 _ _) (by simp [SpE.len]) (by rw [show ((y.cells).toArray : Array Value).size = 8 by simp [SpE.len]]; kernel_rfl) (all_oneCell_toArray y.one) ?_
       (try simp only [Act.put])
       obtain ⟨xq1, xq2⟩ := new_var w5 31 z8 (y.cells).toArray (by simp [SpE.len])
       generalize (w5.alloc (.cells z8 31)).setCells w5.heap.size 0 ((y.cells).toArray : Array Value).toList = w6 at *
       have HFAR := zH (HFAR0.out w5.heap.size (Nat.le_refl _))
       generalize w5.heap.size = X6 at *
       have HEw6 := zH xq1
       have HBX6 := zH xq2
       clear xq1 xq2
       have HX6 := zH (HX5.out.trans HEw6.out)
       have HSP6 := zH (HSP5.out.ext HEw6.out)
       have HRX6 := zH (range_ext HRX5.out HEw6.out)
       have HOKX6 := zH (HOKX5.out.ext HEw6.out)
       have HOKY6 := zH (HOKY5.out.ext HEw6.out)
       clear HX5 HRX5 HRY5 HOKX5 HOKY5 HEw6
       go_upto_region 11 with fail
       refine wp_region_lit ?_
       refine qV (.slice (some ⟨gx, 0, none⟩) (n + 1) cx) ?_
       refine qV (.int .i64 u) ?_
       try simp only [Act.put, zA, zB, zC]
       refine qV (.slice (some ⟨gx, 0, none⟩) (n + 1) cx) ?_
       refine qV (.int .i64 u) ?_
       try simp only [Act.put, zA, zB, zC]
       refine qV (.int .i64 q) ?_
       refine qV (.pointer (some ⟨gx, q * 8, none⟩)) ?_
       try simp only [Act.put, zA, zB, zC]
       refine wpList_if (by rfl) (wp_load_mid _ _ (by rfl) gx (q * 8) (by rfl) x.cells _ HRX6.out Tryz.underlying31 (by rfl) (by kernel_rfl) ?_)
       try simp only [Act.put, zA, zB, zC]
       refine qV (.pointer (some ⟨gx, u * 8, none⟩)) ?_
       try simp only [Act.put, zA, zB, zC]
       obtain ⟨t1, t2, t3⟩ := HSP6.out.set HLu.out HOKX6.out
       obtain ⟨csr, hbr, hnr⟩ := HSP6.out.rowNoU
       have hgb : w.heap.size ≤ gx := HSP6.out.1.block gx (by simp [Value.ownBlock])
       have hne6 : X6 ≠ gx := fun h => HFAR.out (by rw [h]; simp [Value.ownBlock])
       refine wpList_if (by rfl) (wp_store_mid 31 _ _ (by rfl) gx (u * 8) x.cells.toArray (by rfl) (by rfl) t1 (by kernel_rfl) (all_oneCell_toArray x.one) ?_)
       (try simp only [Act.put])
       have HSP7 := zH t2
       have HX7 := zH (t3.ext HX6.out hgb)
       have HB7 := zH (HBX6.out.own t3 hne6)
       have HOKY7 := zH (HOKY6.out.map fun r q h => h.own hbr hnr t3)
       clear t1 t2 t3 hbr hnr HX6 HSP6 HRX6 HOKX6 HOKY6
       generalize World.setCells w6 gx (u * 8) _ = w7 at *
       go_upto_region 12 with fail
       refine wp_region_lit ?_
       refine qV (.slice (some ⟨gx, 0, none⟩) (n + 1) cx) ?_
       refine qV (.int .i64 u) ?_
       try simp only [Act.put, zA, zB, zC]
       refine qV (.int .i64 q) ?_
       try simp only [Act.put, zA, zB, zC]
       refine pL HB7.out Tryz.underlying31 (by kernel_rfl) ?_
       try simp only [Act.put, zA, zB, zC]
       refine qV (.pointer (some ⟨gx, q * 8, none⟩)) ?_
       try simp only [Act.put, zA, zB, zC]
       obtain ⟨t1, t2, t3⟩ := HSP7.out.set (by rw [List.length_set]; exact HLq.out) HOKY7.out
       refine wpList_if (by rfl) (wp_store_mid 31 _ _ (by rfl) gx (q * 8) y.cells.toArray (by rfl) (by rfl) t1 (by kernel_rfl) (all_oneCell_toArray y.one) ?_)
       (try simp only [Act.put])
       have HSP9 := zH t2
       have HX9 := zH (t3.ext HX7.out hgb)
       clear t1 t2 t3 HX7 HSP7 HB7 HOKY7 hgb hne6
       generalize World.setCells w7 gx (q * 8) _ = w9 at *
       go_wp2_with fail
       go_roundg q
       case measure => have := HQ.out; omega
       case rel => exact ⟨q, by have := HQ.out; have := HU.out; omega, by omega, rfl, fun z hz => (HQX.out z hz).elim (fun h => by rw [h]; exact HLT2.out) (HALL.out z), by rw [← HSTEP.out, HE.out]; exact HSP9.out, HX9.out⟩
      ·have HLT2 := zH (show ltE y x = false from decide_eq_false hlt)
       have hdd : decide (y.p < x.p) = false := by simpa using hlt
       refine mV 15 (bs 16 65535) HEw5.out ?_
       try simp only [Act.put, zA, zB, zC]
       refine wpAnyH_done (by kernel_rfl) ?_ _
       clear hdd hlt HEw5
       have HR := zH (show SpR L w5 w.heap.size (.slice (some ⟨gx, 0, none⟩) (n + 1) cx) (Stb.ins ltE es y) by rw [HIN2.out HLT2.out]; exact HSP5.out)
       have HXR := HX5
       go_wp2_with fail
       go_roundg (ps.length - (k + 1))
       case measure => have := HLT.out; omega
       case rel => exact ⟨k + 1, _, _, HLT.out, rfl, by go_num, rfl, HR.out, HINS.out, by rw [Stb.ins_len, HN.out]; have := HEK.out; omega, HXR.out⟩
     ·obtain rfl : u = 0 := by omega
      have HIN2 := zH (Stb.ins_stop wkE (y := y) HSRT.out HALL.out (Nat.zero_le _) (Or.inl rfl))
      go_upto_region 8 with fail
      refine wp_region_held_drew (S := fun x => Ext wr x) (by kernel_rfl) (Ext.refl _).drew (fun _ => ?_)
      refine mV 0 (bs 16 1) (Ext.refl wr).drew ?_
      try simp only [Act.put, zA, zB, zC]
      refine mV 1 (bs 16 3) (Ext.refl wr).drew ?_
      try simp only [Act.put, zA, zB, zC]
      refine mV 2 (bs 16 7) (Ext.refl wr).drew ?_
      try simp only [Act.put, zA, zB, zC]
      refine mS 3 (bs 16 15) (Ext.refl wr).drew ?_
      try simp only [Act.put, zA, zB, zC]
      refine mS 4 (bs 16 31) (Ext.refl wr).drew ?_
      try simp only [Act.put, zA, zB, zC]
      refine mS 5 (bs 16 63) (Ext.refl wr).drew ?_
      try simp only [Act.put, zA, zB, zC]
      refine mS 6 (bs 16 127) (Ext.refl wr).drew ?_
      try simp only [Act.put, zA, zB, zC]
      refine mS 7 (bs 16 255) (Ext.refl wr).drew ?_
      try simp only [Act.put, zA, zB, zC]
      refine mS 8 (bs 16 511) (Ext.refl wr).drew ?_
      try simp only [Act.put, zA, zB, zC]
      refine mS 9 (bs 16 1023) (Ext.refl wr).drew ?_
      try simp only [Act.put, zA, zB, zC]
      refine mS 10 (bs 16 2047) (Ext.refl wr).drew ?_
      try simp only [Act.put, zA, zB, zC]
      refine mS 11 (bs 16 4095) (Ext.refl wr).drew ?_
      try simp only [Act.put, zA, zB, zC]
      refine mS 12 (bs 16 8191) (Ext.refl wr).drew ?_
      try simp only [Act.put, zA, zB, zC]
      refine mS 13 (bs 16 16383) (Ext.refl wr).drew ?_
      try simp only [Act.put, zA, zB, zC]
      refine mS 14 (bs 16 32767) (Ext.refl wr).drew ?_
      try simp only [Act.put, zA, zB, zC]
      refine mV 15 (bs 16 65535) (Ext.refl wr).drew ?_
      try simp only [Act.put, zA, zB, zC]
      refine wpAnyH_done (by kernel_rfl) ?_ _
      have HR := zH (show SpR L wr.drew w.heap.size (.slice (some ⟨gx, 0, none⟩) (n + 1) cx) (Stb.ins ltE es y) by rw [HIN2.out]; exact HSP.out.ext (Ext.refl _).drew)
      have HXR := zH (HX.out.drew)
      go_wp2_with fail
      go_roundg (ps.length - (k + 1))
      case measure => have := HLT.out; omega
      case rel => exact ⟨k + 1, _, _, HLT.out, rfl, by go_num, rfl, HR.out, HINS.out, by rw [Stb.ins_len, HN.out]; have := HEK.out; omega, HXR.out⟩
   ·have hdd : decide (p.1 < p.2) = false := by simpa using hpq
    have hcont := HSM.out
    rw [if_neg hpq] at hcont
    have HCO := zH hcont
    clear hcont
    refine mV 11 (bs 12 4095) (show Ext wr w5 from HEo.out) ?_
    try simp only [Act.put, zA, zB, zC]
    refine wpAnyH_done (by kernel_rfl) ?_ _
    clear hdd hpq HEo HEw5
    go_wp2_with fail
    go_roundg (ps.length - (k + 1))
    case measure => have := HLT.out; omega
    case rel => exact ⟨k + 1, es, _, HLT.out, rfl, by go_num, rfl, HSP5.out, by rw [HCO.out]; exact HES.out.1, by have := HES.out.2; omega, HXw5.out⟩
  ·obtain rfl : k = ps.length := by omega
   have hge : ¬ (ps.length : Int) < (ps.length : Int) := by omega
   have HR := zH (show es.map SpE.vl = sortedV ps by have h := HES.out.1; rwa [List.take_of_length_le (Nat.le_refl _)] at h)
   go_wp2_with fail
   go_ret
   exact ⟨_, rfl, es, HSP.out, HR.out, HES.out.2, HX.out⟩
end Go.Proofs.YtaeeeailoiioaaaGreat

namespace Go.Proofs.YtaeeeailoiioaaaGreat
open Go.RowKit
attribute [local go_sem ↓] Go.wp_at_zero Go.wp_at_succ run_max_ii run_min_ii
set_option maxRecDepth 20000 in
set_option maxHeartbeats 4000000 in
theorem rmerge_any (L : Nat) (u : Value) (ps : List QQ) (w : World) (hu : SpansV L w u ps) (h1L : 1 ≤ L) (hL : L ≤ 60000) (hn : ps.length ≤ 20000) :
  Calls Tryz.prog 10 #[u] w fun e w' => ∃ v es, e = .returned v ∧ SpR L w' w.heap.size v es ∧ es.map SpE.vl = mergeV ps ∧ es.length ≤ ps.length ∧ Ext w w' := by
 have HC := zH (rsorted_any L u ps w hu h1L hL hn)
 obtain ⟨i0, hi, hz0, hz1, hz2⟩ := info_parts infoSp
 have HI := zH (And.intro hi (And.intro hz0 (And.intro hz1 hz2)))
 clear hi hz0 hz1 hz2 hu
 go_enter Tryz.func10, Tryz.ntmps10
 go_upto_region 2 with (go_at_call 28; refine HC.out.mono ?_; rintro e ws ⟨vs, ss, rfl, hss, hval, hsl, hXs⟩)
 obtain ⟨As, cs, rfl⟩ := row_slice hss.1
 have HSSB := zH (fun j hj => Nat.lt_of_lt_of_le (hss.lt j hj) (Nat.le_refl _))
 have HSS := zH (hss.ext ((Ext.refl ws).alloc (.cells #[] 31)))
 have HXS := zH (hXs.alloc (.cells #[] 31))
 have HOS := zH (show SpR L (ws.alloc (.cells #[] 31)) ws.heap.size (.slice (some ⟨ws.heap.size, 0, none⟩) 0 0) [] from ⟨RowN.empty ws ws.heap.size 31 8 (Nat.le_refl _), by simp⟩)
 have HB := zH hXs.size
 have HVAL := zH hval
 have hsn : ss.length ≤ 20000 := by omega
 have HSL := zH hsl
 clear hss hXs hval hsl HC
 go_wp2_with fail
 go_loopg [4, 5] ss.length (fun c v i wr => ∃ (k : Nat) (os : List SpE) (v2 : Value), k ≤ ss.length ∧ c = ss.length - k ∧ i = .int .i64 k ∧ v2 = v ∧ SpR L wr ws.heap.size v2 os ∧ os.map SpE.vl = ((sortedV ps).take k).foldl mstep [] ∧ os.length ≤ k ∧ SpR L wr w.heap.size (.slice As ss.length cs) ss ∧ Ext w wr ∧ ws.heap.size ≤ wr.heap.size)
 case atStart => exact ⟨0, [], _, Nat.zero_le _, rfl, rfl, rfl, HOS.out, by simp, Nat.le_refl _, HSS.out, HXS.out, by simp⟩
 case round =>
  clear HSS HOS HXS
  obtain ⟨k, os, v, hk, rfl, rfl, rfl, hos, hov, hok, hss, hx, hwz⟩ := hrel
  by_cases hlt : k < ss.length
  ·have hlt2 : (k : Int) < (ss.length : Int) := by omega
   obtain ⟨e, he⟩ : ∃ e, ss[k]? = some e := ⟨_, List.getElem?_eq_getElem hlt⟩
   have HSTEP := zH (show ((sortedV ps).take (k + 1)).foldl mstep [] = mstep (os.map SpE.vl) (e.p, e.q) by rw [hov, mstep_fold (p := (e.p, e.q)) (by rw [← HVAL.out, List.getElem?_map, he]; rfl)])
   have HOKE := zH (hss.2 e (List.mem_of_getElem? he))
   obtain ⟨gs, rfl⟩ : ∃ gs, As = some ⟨gs, 0, none⟩ := by
    rcases hss.form with ⟨hv, hn⟩ | ⟨g, cap, rest, hv, _⟩
    ·rw [hn] at hlt; simp at hlt
    ·injection hv with e1 _ _
     exact ⟨g, e1⟩
   have HRD := zH (hss.read he)
   have HOS := zH hos
   have HSS := zH hss
   have HOKN := zH hok
   have HX := zH hx
   have HLT := zH hlt
   have HWZ := zH hwz
   clear hos hov hss hx hok he hlt hwz
   rcases snoc_or os with rfl | ⟨os, l, rfl⟩
   ·obtain ⟨Ao, co, rfl⟩ := row_slice HOS.out.1
    have q1 : (0 : Int) - 1 = -1 := by omega
    go_upto_region 7 with fail
    refine wp_region_held_drew (S := fun x => Ext wr x) (by kernel_rfl) (Ext.refl _).drew (fun _ => ?_)
    refine mV 0 (bs 15 1) (Ext.refl wr).drew ?_
    try simp only [Act.put, zA, zB, zC]
    refine mV 1 (bs 15 3) (Ext.refl wr).drew ?_
    try simp only [Act.put, zA, zB, zC]
    refine mV 2 (bs 15 7) (Ext.refl wr).drew ?_
    try simp only [Act.put, zA, zB, zC]
    refine mS 3 (bs 15 15) (Ext.refl wr).drew ?_
    try simp only [Act.put, zA, zB, zC]
    refine mS 4 (bs 15 31) (Ext.refl wr).drew ?_
    try simp only [Act.put, zA, zB, zC]
    refine mS 5 (bs 15 63) (Ext.refl wr).drew ?_
    try simp only [Act.put, zA, zB, zC]
    refine mS 6 (bs 15 127) (Ext.refl wr).drew ?_
    try simp only [Act.put, zA, zB, zC]
    refine mS 7 (bs 15 255) (Ext.refl wr).drew ?_
    try simp only [Act.put, zA, zB, zC]
    refine mS 8 (bs 15 511) (Ext.refl wr).drew ?_
    try simp only [Act.put, zA, zB, zC]
    refine mS 9 (bs 15 1023) (Ext.refl wr).drew ?_
    try simp only [Act.put, zA, zB, zC]
    refine mS 10 (bs 15 2047) (Ext.refl wr).drew ?_
    try simp only [Act.put, zA, zB, zC]
    refine mS 11 (bs 15 4095) (Ext.refl wr).drew ?_
    try simp only [Act.put, zA, zB, zC]
    refine mS 12 (bs 15 8191) (Ext.refl wr).drew ?_
    try simp only [Act.put, zA, zB, zC]
    refine mS 13 (bs 15 16383) (Ext.refl wr).drew ?_
    try simp only [Act.put, zA, zB, zC]
    refine mV 14 (bs 15 32767) (Ext.refl wr).drew ?_
    try simp only [Act.put, zA, zB, zC]
    refine wpAnyH_done (by kernel_rfl) ?_ _
    have HSTEP2 := zH (HSTEP.out.trans (mstep_nil _))
    have hok3 : ([] : List SpE).length ≤ 20000 := by simp
    skip
    have HE_ := zH (show Ext wr wr.drew from (Ext.refl _).drew)
    have HOSc := zH (HOS.out.ext HE_.out)
    have HSSc := zH (HSS.out.ext HE_.out)
    have HOKEc := zH (HOKE.out.ext HE_.out)
    have HRDc := zH (range_ext HRD.out HE_.out)
    have HXc := zH (HX.out.trans HE_.out)
    go_upto_region 8 with fail
    refine wp_region_lit ?_
    refine mv_val (v := .slice Ao 0 co) (w' := wr.drew) (by rfl) (by go_simp <;> with_reducible rfl) ?_
    try simp only [Act.put, zA, zB, zC]
    refine mv_val (v := .slice (some ⟨gs, 0, none⟩) ss.length cs) (w' := wr.drew) (by rfl) (by go_simp <;> with_reducible rfl) ?_
    try simp only [Act.put, zA, zB, zC]
    refine mv_val (v := .int .i64 k) (w' := wr.drew) (by rfl) (by go_simp <;> with_reducible rfl) ?_
    try simp only [Act.put, zA, zB, zC]
    refine mv_val (v := .pointer (some ⟨gs, k * 8, none⟩)) (w' := wr.drew) (by rfl) (by go_simp <;> with_reducible rfl) ?_
    try simp only [Act.put, zA, zB, zC]
    refine wpList_if (by rfl) (wp_load_mid _ _ (by rfl) gs (k * 8) (by rfl) [.bool e.a.n, .slice e.a.p e.a.l e.a.c, .bool e.a.m, .slice e.a.p2 e.a.l2 e.a.c2, .bool e.b.n, .slice e.b.p e.b.l e.b.c, .bool e.b.m, .slice e.b.p2 e.b.l2 e.b.c2] _ HRDc.out Tryz.underlying31 (by rfl) (by kernel_rfl) ?_)
    try simp only [Act.put, zA, zB, zC]
    have hbz := HOSc.out
    have hAE : Ext wr.drew (wr.drew.alloc (.cells #[.bool e.a.n, .slice e.a.p e.a.l e.a.c, .bool e.a.m, .slice e.a.p2 e.a.l2 e.a.c2, .bool e.b.n, .slice e.b.p e.b.l e.b.c, .bool e.b.m, .slice e.b.p2 e.b.l2 e.b.c2] 31)) := (Ext.refl _).alloc _
    refine mv_val (v := .slice (some ⟨wr.drew.heap.size, 0, none⟩) 1 1) (w' := (wr.drew.alloc (.cells #[.bool e.a.n, .slice e.a.p e.a.l e.a.c, .bool e.a.m, .slice e.a.p2 e.a.l2 e.a.c2, .bool e.b.n, .slice e.b.p e.b.l e.b.c, .bool e.b.m, .slice e.b.p2 e.b.l2 e.b.c2] 31))) (by rfl) (by go_simp) ?_
    try simp only [Act.put, zA, zB, zC]
    refine wpList_if (by rfl) (wp_append_rowF _ _ 22 (by rfl) ws.heap.size 31 i0 _ 8 128 Tryz.underlying22 HI.out.1 HI.out.2.1 HI.out.2.2.1 HI.out.2.2.2 rfl (by decide) noUL_zsp _ 0 (spCells ([] : List SpE)) (by rfl) (HOSc.out.ext hAE).1 ⟨wr.drew.heap.size, 0, none⟩ 1 1 e.cells (by rfl) rfl (new_cells _ e.cells _) e.one e.noU (by decide) (by unfold maxLen; omega) (by omega) (Nat.le_trans HWZ.out (Nat.le_trans HE_.out.size hAE.size)) ?_)
    intro gx cx w8_ hf h2 h3 h4
    try simp only [Act.put, zA, zB, zC]
    have HSN := zH ((HOSc.out.ext hAE).snoc (es := ([] : List SpE)) (e := e) rfl (HOKEc.out.ext hAE) h2 h4)
    have HXn := zH ((HXc.out.trans hAE).grown h3 (fun j hj => Nat.le_trans HB.out (HOSc.out.1.block j hj)))
    have HSSn := zH ((HSSc.out.ext hAE).grown h3 (fun j hj hj2 => by have h7 := HOSc.out.1.block j hj2; have h8 := HSSB.out j hj; omega) h4)
    have HZn := zH (Nat.le_trans HWZ.out (Nat.le_trans HE_.out.size (Nat.le_trans hAE.size h3.size)))
    clear hf h2 h3 h4 hAE hbz
    refine mv_val (v := .slice (some ⟨gx, 0, none⟩) (0 + 1) cx) (w' := w8_) (by rfl) (by go_simp) ?_
    try simp only [Act.put, zA, zB, zC]
    go_wp2_with fail
    go_roundg (ss.length - (k + 1))
    case measure => have := HLT.out; omega
    case rel => exact ⟨k + 1, ([] : List SpE) ++ [e], _, HLT.out, rfl, by go_num, rfl, HSN.out, by rw [HSTEP2.out]; simp [SpE.vl], by have := HOKN.out; simp at this ⊢ <;> omega, HSSn.out, HXn.out, HZn.out⟩
   ·have hvf : ∃ g6 c6, v = .slice (some ⟨g6, 0, none⟩) (os.length + 1) c6 := by
     rcases HOS.out.form with ⟨_, h⟩ | ⟨g6, c6, _, h, _⟩
     ·simp at h
     ·exact ⟨g6, c6, by simpa using h⟩
    obtain ⟨g6, c6, rfl⟩ := hvf
    obtain ⟨m, hm⟩ : ∃ m, os.length = m := ⟨_, rfl⟩
    rw [hm] at HOS ⊢
    have HM := zH hm
    have hm3 : m ≤ 20000 := by have h := HOKN.out; rw [List.length_append, HM.out] at h; omega
    have wm_ : IntKind.i64.wrap (m : Int) = (m : Int) := by rw [IntKind.wrap_i64]; omega
    have HOKL := zH (HOS.out.2 l (by simp))
    have HST := zH (HSTEP.out.trans (show mstep ((os ++ [l]).map SpE.vl) (e.p, e.q) = if l.q < e.p then os.map SpE.vl ++ [(l.p, l.q)] ++ [(e.p, e.q)] else if l.q < e.q then os.map SpE.vl ++ [(l.p, e.q)] else os.map SpE.vl ++ [(l.p, l.q)] by rw [List.map_append]; exact mstep_app _ _ _))
    have e1 : ((m + 1 : Nat) : Int) - 1 = (m : Int) := by omega
    have e2 : (m : Int) + 1 - 1 = (m : Int) := by omega
    have e3 : ¬ (m : Int) < 0 := by omega
    have e5 : (m : Int) < (m : Int) + 1 := by omega
    have RDE := zH (HOS.out.readEnd HM.out)
    clear hm
    go_upto_region 7 with fail
    refine wp_region_held_drew (S := fun x => Ext wr x) (by kernel_rfl) (Ext.refl _).drew (fun _ => ?_)
    refine mV 0 (bs 15 1) (Ext.refl wr).drew ?_
    try simp only [Act.put, zA, zB, zC]
    refine mV 1 (bs 15 3) (Ext.refl wr).drew ?_
    try simp only [Act.put, zA, zB, zC]
    refine mV 2 (bs 15 7) (Ext.refl wr).drew ?_
    try simp only [Act.put, zA, zB, zC]
    refine mV 3 (bs 15 15) (Ext.refl wr).drew ?_
    try simp only [Act.put, zA, zB, zC]
    refine mV 4 (bs 15 31) (Ext.refl wr).drew ?_
    try simp only [Act.put, zA, zB, zC]
    refine mV 5 (bs 15 63) (Ext.refl wr).drew ?_
    try simp only [Act.put, zA, zB, zC]
    refine mV 6 (bs 15 127) (Ext.refl wr).drew ?_
    refine mR 7 (bs 15 255) g6 (m * 8 + 4) [.bool l.b.n, .slice l.b.p l.b.l l.b.c, .bool l.b.m, .slice l.b.p2 l.b.l2 l.b.c2] (fun wX hwX => range_ext RDE.out hwX) Tryz.underlying29 (Ext.refl wr).drew ?_
    try simp only [Act.put, zA, zB, zC]
    refine mV 8 (bs 15 511) (Ext.refl wr).drew ?_
    try simp only [Act.put, zA, zB, zC]
    refine mV 9 (bs 15 1023) (Ext.refl wr).drew ?_
    try simp only [Act.put, zA, zB, zC]
    refine mV 10 (bs 15 2047) (Ext.refl wr).drew ?_
    try simp only [Act.put, zA, zB, zC]
    refine mV 11 (bs 15 4095) (Ext.refl wr).drew ?_
    refine mR 12 (bs 15 8191) gs (k * 8) [.bool e.a.n, .slice e.a.p e.a.l e.a.c, .bool e.a.m, .slice e.a.p2 e.a.l2 e.a.c2] (fun wX hwX => range_ext (range_left (a := [.bool e.a.n, .slice e.a.p e.a.l e.a.c, .bool e.a.m, .slice e.a.p2 e.a.l2 e.a.c2]) (b := [.bool e.b.n, .slice e.b.p e.b.l e.b.c, .bool e.b.m, .slice e.b.p2 e.b.l2 e.b.c2]) HRD.out) hwX) Tryz.underlying29 (Ext.refl wr).drew ?_
    try simp only [Act.put, zA, zB, zC]
    refine mC 13 (bs 15 16383) (less_any L _ _ l.q e.p _ (NIn.ofb (HOKL.out.ext (Ext.refl _).drew)) (NIn.ofa2 (HOKE.out.ext (Ext.refl _).drew)) hL) ?_
    rintro e w9 ⟨rfl, hx⟩
    have HEw9 := zH (show Ext wr w9 from ((Ext.refl wr).drew).trans hx)
    clear hx
    refine ⟨_, rfl, HEw9.out, ?_⟩
    try simp only [Act.put, zA, zB, zC]
    by_cases c1 : l.q < e.p
    ·have hdd : decide (l.q < e.p) = true := by simpa using c1
     refine mV 14 (bs 15 32767) HEw9.out ?_
     try simp only [Act.put, zA, zB, zC]
     refine wpAnyH_done (by kernel_rfl) ?_ _
     have HSTEP2 := zH (HST.out.trans (if_pos c1))
     clear c1 hdd
     have HE_ := zH (show Ext wr w9 from HEw9.out)
     have HOSc := zH (HOS.out.ext HE_.out)
     have HSSc := zH (HSS.out.ext HE_.out)
     have HOKEc := zH (HOKE.out.ext HE_.out)
     have HRDc := zH (range_ext HRD.out HE_.out)
     have HXc := zH (HX.out.trans HE_.out)
     go_upto_region 8 with fail
     refine wp_region_lit ?_
     refine qV (.slice (some ⟨g6, 0, none⟩) (m + 1) c6) ?_
     refine qV (.slice (some ⟨gs, 0, none⟩) ss.length cs) ?_
     try simp only [Act.put, zA, zB, zC]
     refine qV (.int .i64 k) ?_
     refine qV (.pointer (some ⟨gs, k * 8, none⟩)) ?_
     try simp only [Act.put, zA, zB, zC]
     refine wpList_if (by rfl) (wp_load_mid _ _ (by rfl) gs (k * 8) (by rfl) [.bool e.a.n, .slice e.a.p e.a.l e.a.c, .bool e.a.m, .slice e.a.p2 e.a.l2 e.a.c2, .bool e.b.n, .slice e.b.p e.b.l e.b.c, .bool e.b.m, .slice e.b.p2 e.b.l2 e.b.c2] _ HRDc.out Tryz.underlying31 (by rfl) (by kernel_rfl) ?_)
     try simp only [Act.put, zA, zB, zC]
     have hbz := HOSc.out
     have hAE : Ext w9 (w9.alloc (.cells #[.bool e.a.n, .slice e.a.p e.a.l e.a.c, .bool e.a.m, .slice e.a.p2 e.a.l2 e.a.c2, .bool e.b.n, .slice e.b.p e.b.l e.b.c, .bool e.b.m, .slice e.b.p2 e.b.l2 e.b.c2] 31)) := (Ext.refl _).alloc _
     refine mv_val (v := .slice (some ⟨w9.heap.size, 0, none⟩) 1 1) (w' := (w9.alloc (.cells #[.bool e.a.n, .slice e.a.p e.a.l e.a.c, .bool e.a.m, .slice e.a.p2 e.a.l2 e.a.c2, .bool e.b.n, .slice e.b.p e.b.l e.b.c, .bool e.b.m, .slice e.b.p2 e.b.l2 e.b.c2] 31))) (by rfl) (by go_simp) ?_
     try simp only [Act.put, zA, zB, zC]
     refine wpList_if (by rfl) (wp_append_rowF _ _ 22 (by rfl) ws.heap.size 31 i0 _ 8 128 Tryz.underlying22 HI.out.1 HI.out.2.1 HI.out.2.2.1 HI.out.2.2.2 rfl (by decide) noUL_zsp _ (m + 1) (spCells (os ++ [l])) (by rfl) (by have h := (HOSc.out.ext hAE).1; rw [List.length_append, HM.out] at h; exact h) ⟨w9.heap.size, 0, none⟩ 1 1 e.cells (by rfl) rfl (new_cells _ e.cells _) e.one e.noU (by decide) (by unfold maxLen; omega) (by omega) (Nat.le_trans HWZ.out (Nat.le_trans HE_.out.size hAE.size)) ?_)
     intro gx cx w8_ hf h2 h3 h4
     try simp only [Act.put, zA, zB, zC]
     have HSN := zH ((HOSc.out.ext hAE).snoc (es := (os ++ [l])) (e := e) (by rw [List.length_append, HM.out]; rfl) (HOKEc.out.ext hAE) h2 h4)
     have HXn := zH ((HXc.out.trans hAE).grown h3 (fun j hj => Nat.le_trans HB.out (HOSc.out.1.block j hj)))
     have HSSn := zH ((HSSc.out.ext hAE).grown h3 (fun j hj hj2 => by have h7 := HOSc.out.1.block j hj2; have h8 := HSSB.out j hj; omega) h4)
     have HZn := zH (Nat.le_trans HWZ.out (Nat.le_trans HE_.out.size (Nat.le_trans hAE.size h3.size)))
     clear hf h2 h3 h4 hAE hbz
     refine mv_val (v := .slice (some ⟨gx, 0, none⟩) ((m + 1) + 1) cx) (w' := w8_) (by rfl) (by go_simp) ?_
     try simp only [Act.put, zA, zB, zC]
     go_wp2_with fail
     go_roundg (ss.length - (k + 1))
     case measure => have := HLT.out; omega
     case rel => exact ⟨k + 1, (os ++ [l]) ++ [e], _, HLT.out, rfl, by go_num, rfl, HSN.out, by rw [HSTEP2.out]; simp [SpE.vl], by have := HOKN.out; simp at this ⊢ <;> omega, HSSn.out, HXn.out, HZn.out⟩
    ·have hdd : decide (l.q < e.p) = false := by simpa using c1
     refine mV 14 (bs 15 32767) HEw9.out ?_
     try simp only [Act.put, zA, zB, zC]
     refine wpAnyH_done (by kernel_rfl) ?_ _
     have HST2 := zH (HST.out.trans (if_neg c1))
     clear c1 hdd
     go_upto_region 9 with fail
     have RDE9 := zH (range_ext RDE.out HEw9.out)
     have HRD9 := zH (range_ext HRD.out HEw9.out)
     have HOKL9 := zH (HOKL.out.ext HEw9.out)
     have HOKE9 := zH (HOKE.out.ext HEw9.out)
     refine wp_region_held_drew (S := fun x => Ext w9 x) (by kernel_rfl) (Ext.refl _).drew (fun _ => ?_)
     refine mV 0 (bs 11 1) (Ext.refl w9).drew ?_
     try simp only [Act.put, zA, zB, zC]
     refine mV 1 (bs 11 3) (Ext.refl w9).drew ?_
     try simp only [Act.put, zA, zB, zC]
     refine mV 2 (bs 11 7) (Ext.refl w9).drew ?_
     try simp only [Act.put, zA, zB, zC]
     refine mV 3 (bs 11 15) (Ext.refl w9).drew ?_
     refine mR 4 (bs 11 31) g6 (m * 8 + 4) [.bool l.b.n, .slice l.b.p l.b.l l.b.c, .bool l.b.m, .slice l.b.p2 l.b.l2 l.b.c2] (fun wX hwX => range_ext RDE9.out hwX) Tryz.underlying29 (Ext.refl w9).drew ?_
     try simp only [Act.put, zA, zB, zC]
     refine mV 5 (bs 11 63) (Ext.refl w9).drew ?_
     try simp only [Act.put, zA, zB, zC]
     refine mV 6 (bs 11 127) (Ext.refl w9).drew ?_
     try simp only [Act.put, zA, zB, zC]
     refine mV 7 (bs 11 255) (Ext.refl w9).drew ?_
     try simp only [Act.put, zA, zB, zC]
     refine mV 8 (bs 11 511) (Ext.refl w9).drew ?_
     refine mR 9 (bs 11 1023) gs (k * 8 + 4) [.bool e.b.n, .slice e.b.p e.b.l e.b.c, .bool e.b.m, .slice e.b.p2 e.b.l2 e.b.c2] (fun wX hwX => range_ext (range_right (a := [.bool e.a.n, .slice e.a.p e.a.l e.a.c, .bool e.a.m, .slice e.a.p2 e.a.l2 e.a.c2]) (b := [.bool e.b.n, .slice e.b.p e.b.l e.b.c, .bool e.b.m, .slice e.b.p2 e.b.l2 e.b.c2]) (n := 4) HRD9.out rfl) hwX) Tryz.underlying29 (Ext.refl w9).drew ?_
     try simp only [Act.put, zA, zB, zC]
     refine mC 10 (bs 11 2047) (less_any L _ _ l.q e.q _ (NIn.ofb (HOKL9.out.ext (Ext.refl _).drew)) (NIn.ofb (HOKE9.out.ext (Ext.refl _).drew)) hL) ?_
     rintro e wb ⟨rfl, hx⟩
     have HEwb := zH (show Ext w9 wb from ((Ext.refl w9).drew).trans hx)
     clear hx
     refine ⟨_, rfl, HEwb.out, ?_⟩
     try simp only [Act.put, zA, zB, zC]
     refine wpAnyH_done (by kernel_rfl) ?_ _
     have HE_ := zH (show Ext wr wb from HEw9.out.trans HEwb.out)
     have HOSc := zH (HOS.out.ext HE_.out)
     have HSSc := zH (HSS.out.ext HE_.out)
     have HOKEc := zH (HOKE.out.ext HE_.out)
     have HRDc := zH (range_ext HRD.out HE_.out)
     have HXc := zH (HX.out.trans HE_.out)
     by_cases c2 : l.q < e.q
     ·have hdd : decide (l.q < e.q) = true := by simpa using c2
      rw [hdd]
      have HSTEP2 := zH (HST2.out.trans (if_pos c2))
      clear c2
      go_upto_region 10 with fail
      refine wp_region_lit ?_
      refine qV (.slice (some ⟨g6, 0, none⟩) (m + 1) c6) ?_
      refine qV (.int .i64 m) ?_
      try simp only [Act.put, zA, zB, zC]
      refine qV (.slice (some ⟨gs, 0, none⟩) ss.length cs) ?_
      refine qV (.int .i64 k) ?_
      try simp only [Act.put, zA, zB, zC]
      refine qV (.pointer (some ⟨gs, k * 8, none⟩)) ?_
      refine qV (.pointer (some ⟨gs, k * 8 + 4, none⟩)) ?_
      try simp only [Act.put, zA, zB, zC]
      refine wpList_if (by rfl) (wp_load_mid _ _ (by rfl) gs (k * 8 + 4) (by rfl) [.bool e.b.n, .slice e.b.p e.b.l e.b.c, .bool e.b.m, .slice e.b.p2 e.b.l2 e.b.c2] _ (range_right (a := [.bool e.a.n, .slice e.a.p e.a.l e.a.c, .bool e.a.m, .slice e.a.p2 e.a.l2 e.a.c2]) (b := [.bool e.b.n, .slice e.b.p e.b.l e.b.c, .bool e.b.m, .slice e.b.p2 e.b.l2 e.b.c2]) (n := 4) HRDc.out rfl) Tryz.underlying29 (by rfl) (by kernel_rfl) ?_)
      try simp only [Act.put, zA, zB, zC]
      refine qV (.pointer (some ⟨g6, m * 8, none⟩)) ?_
      refine qV (.pointer (some ⟨g6, m * 8 + 4, none⟩)) ?_
      try simp only [Act.put, zA, zB, zC]
      obtain ⟨t1, t2, t3⟩ := HOSc.out.turn HM.out HOKEc.out
      obtain ⟨csr, hbr, hnr⟩ := HOSc.out.rowNoU
      refine wpList_if (by rfl) (wp_store_mid 29 _ _ (by rfl) g6 (m * 8 + 4) [.bool e.b.n, .slice e.b.p e.b.l e.b.c, .bool e.b.m, .slice e.b.p2 e.b.l2 e.b.c2].toArray (by rfl) (by rfl) t1 (by kernel_rfl) (all_oneCell_toArray (by simp [Value.oneCell'])) ?_)
      (try simp only [Act.put])
      have HSN := zH t2
      have hgb : w.heap.size ≤ g6 := Nat.le_trans HB.out (HOSc.out.1.block g6 (by simp [Value.ownBlock]))
      have HXn := zH (t3.ext HXc.out hgb)
      have HSSn := zH (HSSc.out.grown (row := some g6) t3 (fun j hj hj2 => by injection hj2 with hj2; have h7 := HOSc.out.1.block j (by simp [Value.ownBlock, hj2]); have h8 := HSSB.out j hj; omega) (fun r q h => h.own hbr hnr t3))
      have HZn := zH (Nat.le_trans HWZ.out (Nat.le_trans HE_.out.size t3.size))
      clear t1 t2 t3 hbr hnr hgb hdd
      generalize World.setCells wb g6 (m * 8 + 4) _ = wn at *
      go_wp2_with fail
      go_roundg (ss.length - (k + 1))
      case measure => have := HLT.out; omega
      case rel => exact ⟨k + 1, os ++ [⟨l.a, e.b, l.p, e.q⟩], _, HLT.out, rfl, by go_num, rfl, HSN.out, by rw [HSTEP2.out]; simp [SpE.vl], by have := HOKN.out; simp at this ⊢ <;> omega, HSSn.out, HXn.out, HZn.out⟩
     ·have hdd : decide (l.q < e.q) = false := by simpa using c2
      rw [hdd]
      have HSTEP2 := zH (HST2.out.trans (if_neg c2))
      clear c2
      go_wp2_with fail
      go_roundg (ss.length - (k + 1))
      case measure => have := HLT.out; omega
      case rel => exact ⟨k + 1, os ++ [l], _, HLT.out, rfl, by go_num, rfl, HOSc.out, by rw [HSTEP2.out, List.map_append]; rfl, by have := HOKN.out; omega, HSSc.out, HXc.out, Nat.le_trans HWZ.out HE_.out.size⟩
  ·obtain rfl : k = ss.length := by omega
   have hge2 : ¬ (ss.length : Int) < (ss.length : Int) := by omega
   have HR := zH (show os.map SpE.vl = mergeV ps by rw [hov, List.take_of_length_le (by rw [← HVAL.out, List.length_map]; exact Nat.le_refl _)]; rfl)
   have HOS := zH (SpR.mono hos HB.out)
   have HX2 := zH hx
   have HLE := zH (show os.length ≤ ps.length by have := HSL.out; omega)
   clear hos hov hok hss hx
   go_wp2_with fail
   go_ret
   exact ⟨_, rfl, os, HOS.out, HR.out, HLE.out, HX2.out⟩
end Go.Proofs.YtaeeeailoiioaaaGreat

namespace Go.Proofs.YtaeeeailoiioaaaGreat
open Go.RowKit
attribute [local go_sem ↓] Go.wp_at_zero Go.wp_at_succ run_max_ii run_min_ii
end Go.Proofs.YtaeeeailoiioaaaGreat
