/- Contracts that the claim stands on: XIsx to XEvT. -/
import Derived.Test.YthdapkpmikeehacGreatM6
set_option maxRecDepth 100000
set_option maxHeartbeats 4000000
namespace Go.Proofs.YthdapkpmikeehacGreat
open Go.RowKit
attribute [local go_sem ↓] Go.wp_at_zero Go.wp_at_succ run_max_ii run_min_ii
open Go.RowKit
theorem elRR : ElT Tryz.prog 44 49 8 128 := ElT.of (z := .agg z8) Tryz.underlying44 (by kernel_rfl) rfl (by simp [NoUL, Value.cells]) (by decide)
theorem elInts : ElT Tryz.prog 45 48 1 24 := ElT.of (z := .slice none 0 0) Tryz.underlying45 (by kernel_rfl) rfl (by simp [NoUL, Value.cells]) (by decide)
def crP (x y : EdE) : List (Rat × Rat) := if adjB x y = true \/ djB x y = true then [] else if segN x.a x.b y.a y.b = 1 then [(segX x.a x.b y.a y.b, segY x.a x.b y.a y.b)] else []
def crRow (es : List EdE) (k : Nat) : List (Rat × Rat) := match es[k]? with | some y => (es.take k).flatMap (fun x => crP x y) | none => []
def crAll (es : List EdE) : List (Rat × Rat) := (List.range es.length).flatMap (crRow es)
def onAt (es : List EdE) (p : Rat × Rat) (i : Nat) : Bool := match es[i]? with | some e => decide (conC e p) | none => false
def onV (es : List EdE) (p : Rat × Rat) : List Nat := (List.range es.length).filter (onAt es p)
theorem onV_succ {es : List EdE} {p : Rat × Rat} {i : Nat} {e : EdE} (h : es[i]? = some e) : (List.range (i + 1)).filter (onAt es p) = (List.range i).filter (onAt es p) ++ (if conC e p then [i] else []) := by
  rw [List.range_succ, List.filter_append]
  congr 1
  by_cases hc : conC e p
  · rw [if_pos hc]; simp [onAt, h, hc]
  rw [if_neg hc]; simp [onAt, h, hc]
theorem crTake_succ {es : List EdE} {i : Nat} {x y : EdE} (h : es[i]? = some x) : (es.take (i + 1)).flatMap (fun x => crP x y) = (es.take i).flatMap (fun x => crP x y) ++ crP x y := by
  rw [List.take_add_one, h, List.flatMap_append]
  simp
theorem crRange_succ {es : List EdE} {k : Nat} {y : EdE} (h : es[k]? = some y) : (List.range (k + 1)).flatMap (crRow es) = (List.range k).flatMap (crRow es) ++ (es.take k).flatMap (fun x => crP x y) := by
  rw [List.range_succ, List.flatMap_append]
  simp [crRow, h]
def iC (i : Nat) : List Value := [.int .i64 (i : Int)]
structure OnE where
  A : Option Addr
  c : Nat
  l : List Nat
def OnE.cells (o : OnE) : List Value := [.slice o.A o.l.length o.c]
def OnE.Ok (b : Nat) (w : World) (o : OnE) : Prop := RowN w b 3 1 (.slice o.A o.l.length o.c) o.l.length (o.l.flatMap iC)
theorem OnE.Ok.fr {b : Nat} {w0 W W' : World} {m : List Ent} {ix n : Nat} {v : Value} {xs : List Value} {o : OnE} (h : o.Ok b W) (H : Hp w0 W m) (hi : m[ix]? = some (.row 48 1 v n xs)) (x : Fr (fun k => v.ownBlock = some k) W W') : o.Ok b W' := by
  obtain ⟨h1, h2 | ⟨g, cap, rest, h3, h4, h5, h6⟩⟩ := h
  · exact ⟨h1, .inl h2⟩
  refine ⟨h1, .inr ⟨g, cap, rest, h3, h4, ?_, h6⟩⟩
  have h7 : Blk W g 3 _ := h5
  refine (x.block g h7.lt (fun hk => ?_)).trans h7
  have h8 := H.typ hi h7 (by exact hk)
  exact absurd (show (48 : TypeId) = 3 from h8) (by decide)
theorem OnE.Ok.ext {b : Nat} {W W' : World} {o : OnE} (h : o.Ok b W) (x : Ext W W') : o.Ok b W' := RowN.ext h x
theorem RowN.low {w : World} {b b' : Nat} {t : TypeId} {size : Nat} {v : Value} {n : Nat} {xs : List Value} (h : RowN w b t size v n xs) (hb : b' <= b) : RowN w b' t size v n xs := by
  obtain ⟨h1, h2 | ⟨g, cap, rest, h3, h4, h5⟩⟩ := h
  · exact ⟨h1, .inl h2⟩
  exact ⟨h1, .inr ⟨g, cap, rest, h3, Nat.le_trans hb h4, h5⟩⟩
theorem cmp2_tr {a b c : Rat × Rat} (h1 : ¬ cmp2 b a < 0) (h2 : cmp2 b c < 0) : cmp2 a c < 0 := by
  rw [cmp2_lt] at h1 h2 ⊢
  obtain ⟨a1, a2⟩ := a
  obtain ⟨b1, b2⟩ := b
  obtain ⟨c1, c2⟩ := c
  simp only at h1 h2 ⊢
  grind
theorem cmp2_st {x y : Rat × Rat} (h1 : ¬ cmp2 x y < 0) (h2 : x ≠ y) : cmp2 y x < 0 := by
  rw [cmp2_lt] at h1 ⊢
  obtain ⟨a1, a2⟩ := x
  obtain ⟨b1, b2⟩ := y
  have h3 : ¬ (a1 = b1 /\ a2 = b2) := fun h => h2 (Prod.ext h.1 h.2)
  simp only at h1 ⊢
  grind
def le2 (x y : R2E) : Prop := ¬ cmp2 y.vl x.vl < 0
def lt2 (x y : R2E) : Prop := cmp2 x.vl y.vl < 0
theorem sorted2 {es1 : List R2E} (hs : es1.Pairwise le2) : (compactV (fun x y : R2E => decide (x.vl = y.vl)) es1).Pairwise lt2 :=
  compactV_sorted (α := R2E) (eqv := fun x y : R2E => decide (x.vl = y.vl)) (le := le2) (lt := lt2)
    (fun a b c h1 h2 => by unfold le2 at h1; unfold lt2 at h2 ⊢; exact cmp2_tr h1 h2)
    (fun x y h1 h2 => by unfold le2 at h1; unfold lt2; exact cmp2_st h1 (of_decide_eq_false h2))
    (fun x y h1 z h2 => by unfold lt2 at h2 ⊢; have h3 := of_decide_eq_true h1; rw [<- h3]; exact h2) hs
theorem sort_cpt {es es1 : List R2E} (hp : es1.Perm es) (hs : es1.Pairwise (fun x y => ¬ cmp2 y.vl x.vl < 0)) :
  ((compactV (fun x y : R2E => decide (x.vl = y.vl)) es1).map R2E.vl).Pairwise (fun x y => cmp2 x y < 0) /\ (∀ q, q ∈ (compactV (fun x y : R2E => decide (x.vl = y.vl)) es1).map R2E.vl ↔ q ∈ es.map R2E.vl) /\ (∀ e, e ∈ compactV (fun x y : R2E => decide (x.vl = y.vl)) es1 -> e ∈ es) := by
 have hst := sorted2 hs
 refine ⟨by rw [List.pairwise_map]; exact hst, fun q => ⟨fun hx => ?_, fun hx => ?_⟩, fun e he => hp.mem_iff.1 (compactV_sub _ he)⟩
 ·obtain ⟨e, he, rfl⟩ := List.mem_map.1 hx
  exact List.mem_map_of_mem (hp.mem_iff.1 (compactV_sub _ he))
 obtain ⟨e, he, rfl⟩ := List.mem_map.1 hx
 obtain ⟨f, hf, h2⟩ := compactV_mem (eqv := (fun x y : R2E => decide (x.vl = y.vl))) (key := R2E.vl) (fun x y h => of_decide_eq_true h) (hp.mem_iff.2 he)
 exact List.mem_map.2 ⟨f, hf, h2⟩
def IsxRet (rs : List Ring) (w : World) (e : Ending) (w' : World) : Prop :=
  ∃ (v1 v2 : Value) (ps : List R2E) (os : List OnE), e = .returned (.tuple #[v1, v2]) /\ RowN w' w.heap.size 49 8 v1 ps.length (ps.flatMap R2E.cells) /\ (ps.map R2E.vl).Pairwise (fun x y => cmp2 x y < 0) /\ (∀ q, q ∈ ps.map R2E.vl ↔ q ∈ crAll (edsV rs)) /\ (∀ e, e ∈ ps -> e.Ok 24 w') /\
    RowN w' w.heap.size 48 1 v2 os.length (os.flatMap OnE.cells) /\ os.map OnE.l = ps.map (fun e => onV (edsV rs) e.vl) /\ (∀ o, o ∈ os -> o.Ok w.heap.size w') /\ Ext w w'
theorem take_map_succ {α β : Type} {l : List α} {k : Nat} {x : α} {f : α -> β} (h : l[k]? = some x) : (l.take (k + 1)).map f = (l.take k).map f ++ [f x] := by
  rw [List.take_add_one, h]
  simp
theorem intersections_any (A : Option Addr) (cu : Nat) (rs : List Ring) (w : World) (hu : RingsV w (.slice A rs.length cu) rs) (hc : rs.length <= cu) (hn : rs.length <= 100000) (hr : ∀ r, r ∈ rs -> r.length <= 100000) :
  Calls Tryz.prog 14 #[.slice A rs.length cu] w (IsxRet rs w) := by
 have HU := zH hu
 have HN := zH hn
 have HR := zH hr
 have HC := zH hc
 have hel := edsV_len rs
 clear hu hr hc hn
 go_enter Tryz.func14, Tryz.ntmps14
 have H0 := zH (Hp.start w)
 go_upto_region 0 with fail
 refine wl ?_
 refine zI2 (Hp.start _) _ _ ?_
 go_upto_region 1 with fail
 refine wl ?_
 refine zI1 (Hp.start _) _ ?_
 refine zc (iedges_any A cu rs _ (HU.out.ext H0.out.ext) HC.out HN.out HR.out) ?_
 rintro e w4 ⟨v_, rfl, hrow_, hx⟩
 obtain ⟨Ae, ce, rfl, hfe_⟩ := hrow_.form
 have HFE := zH hfe_
 clear hfe_
 have H5 := zH (show Hp w w4 [ro 78 7 Ae ((edsV rs).length) ce EdE.cells (edsV rs)] from H0.out.addRow hx hrow_)
 clear hrow_ hx
 refine zn ?_
 refine zI1 (Hp.start _) _ ?_
 go_upto_region 2 with fail
 refine wl ?_
 refine zI1 (Hp.start _) _ ?_
 have H9 := zH (show Hp w w4 [ro 78 7 Ae ((edsV rs).length) ce EdE.cells (edsV rs), ro 49 8 none 0 0 R2E.cells ([])] from H5.out.addNil 49 8)
 go_upto_region 3 with fail
 refine wl ?_
 refine zI3 (Hp.start _) _ (.int .i64 (((edsV rs).length : Nat) : Int)) _ ?_
 go_wp2_with fail
 go_loopg [5, 21] ((edsV rs).length) (fun cq v13 v14 wr => ∃ (k : Nat) (A1 : Option Addr) (m : Nat) (c1 : Nat) (es : List R2E), cq = ((edsV rs).length) - k /\ v13 = .slice A1 m c1 /\ v14 = .int .i64 (k : Int) /\ (k <= (edsV rs).length) /\ (m = es.length /\ m <= 4096 * k) /\ (es.map R2E.vl = (List.range k).flatMap (crRow (edsV rs))) /\ (∀ e, e ∈ es -> e.Ok 24 wr) /\ Hp w wr [.row 78 7 (.slice Ae ((edsV rs).length) ce) ((edsV rs).length) (List.flatMap EdE.cells (edsV rs)), .row 49 8 (.slice A1 m c1) (m) (List.flatMap R2E.cells es)] /\ Dig w4 wr)
 case atStart => exact ⟨0, none, 0, 0, [], rfl, rfl, rfl, Nat.zero_le _, ⟨rfl, Nat.zero_le _⟩, rfl, (fun e_ he_ => by cases he_), H9.out, Dig.refl _⟩
 obtain ⟨k, A1, m, c1, es, rfl, rfl, rfl, q_HKN, q_HM, q_HES, q_HOE, hh_, hd_⟩ := hrel
 generalize wr = w15 at *
 have HKN := zH q_HKN
 clear q_HKN
 have HM := zH q_HM
 clear q_HM
 have HES := zH q_HES
 clear q_HES
 have HOE := zH q_HOE
 clear q_HOE
 have H17 := zH hh_
 have D17 := zH hd_
 clear hh_ hd_ H9
 rcases emH (k < (edsV rs).length) with HLT | HLT
 ·have hlt := HLT.out
  go_upto_region 4 with fail
  refine wl ?_
  refine zp (.bool true) (by exact ezl (e := (dec_t (by have ob0 := HM.out; omega)))) ?_
  go_upto_region 5 with fail
  refine wl ?_
  refine zI2 (Hp.start _) (.int .i64 (k : Int)) (.int .i64 (k : Int)) ?_
  go_upto_region 6 with fail
  refine wl ?_
  refine zI2 (Hp.start _) (.int .i64 (k : Int)) _ ?_
  go_wp2_with fail
  go_loopg [5, 25] (k) (fun cq v24 v25 wr => ∃ (i : Nat) (A2 : Option Addr) (m2 : Nat) (c2 : Nat) (es2 : List R2E), cq = k - i /\ v24 = .slice A2 m2 c2 /\ v25 = .int .i64 (i : Int) /\ (i <= k) /\ (m2 = es2.length /\ m2 <= 4096 * k + i) /\ (∀ ey : EdE, (edsV rs)[k]? = some ey -> es2.map R2E.vl = (List.range k).flatMap (crRow (edsV rs)) ++ ((edsV rs).take i).flatMap (fun x => crP x ey)) /\ (∀ e, e ∈ es2 -> e.Ok 24 wr) /\ Hp w wr [.row 78 7 (.slice Ae ((edsV rs).length) ce) ((edsV rs).length) (List.flatMap EdE.cells (edsV rs)), .row 49 8 (.slice A2 m2 c2) (m2) (List.flatMap R2E.cells es2)] /\ Dig w15 wr)
  case atStart => exact ⟨0, A1, m, c1, es, rfl, rfl, rfl, Nat.zero_le _, ⟨HM.out.1, HM.out.2⟩, (fun _ _ => by rw [HES.out]; simp), (fun g_ hg_ => (HOE.out g_ hg_)), H17.out, Dig.refl _⟩
  obtain ⟨i, A2, m2, c2, es2, rfl, rfl, rfl, q_HKI, q_HM2, q_HES2, q_HOE2, hh_, hd_⟩ := hrel
  generalize wr = w26 at *
  have HKI := zH q_HKI
  clear q_HKI
  have HM2 := zH q_HM2
  clear q_HM2
  have HES2 := zH q_HES2
  clear q_HES2
  have HOE2 := zH q_HOE2
  clear q_HOE2
  have H28 := zH hh_
  have D28 := zH hd_
  clear hh_ hd_ H17
  rcases emH (i < k) with HIK | HIK
  ·have HIK2 := HIK
   have hik := HIK2.out
   obtain ⟨ge, rfl⟩ := HFE.out (by omega)
   obtain ⟨ex, hex_⟩ : ∃ x, (edsV rs)[i]? = some x := ⟨_, List.getElem?_eq_getElem (by omega)⟩
   obtain ⟨ey, hey_⟩ : ∃ x, (edsV rs)[k]? = some x := ⟨_, List.getElem?_eq_getElem (by omega)⟩
   have HEX := zH hex_
   have HEY := zH hey_
   have HBX := zH (edsV_bd HN.out ex (List.mem_of_getElem? hex_))
   have HBY := zH (edsV_bd HN.out ey (List.mem_of_getElem? hey_))
   clear hex_ hey_
   go_upto_region 7 with fail
   refine wl ?_
   refine zp (.bool true) (by exact ezl (e := (dec_t (by have ob0 := HM.out; have ob1 := HM2.out; omega)))) ?_
   go_upto_region 8 with fail
   refine wl ?_
   refine zI2 (Hp.start _) (.int .i64 (i : Int)) (.int .i64 (i : Int)) ?_
   rcases emH (adjB ex ey = true) with HAD | HAD
   ·go_upto_region 9 with fail
    refine zy ?_
    have H34 := zH (H28.out.step (Ext.refl w26).drew)
    have D34 := zH (Dig.of_ext (w := w26) zb)
    refine zJ2 (Hp.start _) zb (bs 20 3) 0 1 _ (.int .i64 (i : Int)) ?_
    refine zo 2 (bs 20 7) (v := .pointer (some ⟨ge, i * 7, none⟩)) zb ?_ (hv := by intro w hSw; exact ezi (k := i) Tryz.underlying74 (l := (show i < (edsV rs).length by omega)) (f := (Nat.zero_add _).symm))
    refine zg 3 (bs 20 15) ge (i * 7) [.int .i64 ex.a.1, .int .i64 ex.a.2, .int .i64 ex.b.1, .int .i64 ex.b.2, .int .i64 ((ex.r : Nat) : Int), .int .i64 ((ex.i : Nat) : Int), .int .i64 ((ex.n : Nat) : Int)] (H28.out.elem (f := EdE.cells) (i := 0) rR EdE.len HEX.out) Tryz.underlying78 zb ?_
    refine zJ2 (Hp.start _) zb (bs 20 63) 4 5 _ (.int .i64 (k : Int)) ?_
    refine zo 6 (bs 20 127) (v := .pointer (some ⟨ge, k * 7, none⟩)) zb ?_ (hv := by intro w hSw; exact ezi (k := k) Tryz.underlying74 (l := (show k < (edsV rs).length by omega)) (f := (Nat.zero_add _).symm))
    refine zg 7 (bs 20 255) ge (k * 7) [.int .i64 ey.a.1, .int .i64 ey.a.2, .int .i64 ey.b.1, .int .i64 ey.b.2, .int .i64 ((ey.r : Nat) : Int), .int .i64 ((ey.i : Nat) : Int), .int .i64 ((ey.n : Nat) : Int)] (H28.out.elem (f := EdE.cells) (i := 0) rR EdE.len HEY.out) Tryz.underlying78 zb ?_
    refine mC 8 (bs 20 511) (adjacent_any ex ey _ HBX.out HBY.out) ?_
    rintro e w42 ⟨rfl, hx⟩
    have H43 := zH (H34.out.step hx)
    have D43 := zH (show Dig w26.drew w42 from Dig.of_ext hx)
    have S45 := zH (zb.trans hx)
    clear hx
    refine ⟨.bool true, by rw [HAD.out], S45.out, ?_⟩
    try simp only [Act.put, zA, zB, zC]
    refine zJ8 (Hp.start _) S45.out (bs 20 131071) 9 10 11 12 13 14 15 16 (.bool true) _ _ _ _ _ _ _ ?_
    refine zJ3 (Hp.start _) S45.out (bs 20 1048575) 17 18 19 _ _ (.bool true) ?_
    refine wpAnyH_done kR ?_ _
    go_upto_region 13 with fail
    refine wl ?_
    refine zp (.int .i64 ((i + 1 : Nat) : Int)) (by exact ez1 (by have ob0 := HM.out; have ob1 := HM2.out; omega)) ?_
    refine zq (.int .i64 ((i + 1 : Nat) : Int)) ?_
    have DD50 := tD D34 D43
    have DD51 := tD (tD D28 D34) D43
    go_wp2_with fail
    go_roundg (k - (i + 1))
    case measure => exact (by have ob0 := HM.out; have ob1 := HM2.out; omega)
    case rel => exact ⟨i + 1, A2, m2, c2, es2, rfl, rfl, (by go_num), hik, ⟨HM2.out.1, by have h_ := HM2.out.2; omega⟩, (fun ey_ hey2_ => by obtain rfl : ey = ey_ := Option.some.inj (HEY.out.symm.trans hey2_); rw [HES2.out _ hey2_, crTake_succ HEX.out, show crP ex ey = [] from if_pos (.inl HAD.out), List.append_nil]), (fun g_ hg_ => (HOE2.out g_ hg_).dig DD50.out), H43.out, DD51.out⟩
   have HADF := zH (Bool.eq_false_iff.2 HAD.out)
   rcases emH (djB ex ey = true) with HDJ | HDJ
   ·go_upto_region 9 with fail
    refine zy ?_
    have H53 := zH (H28.out.step (Ext.refl w26).drew)
    have D53 := zH (Dig.of_ext (w := w26) zb)
    refine zJ2 (Hp.start _) zb (bs 20 3) 0 1 _ (.int .i64 (i : Int)) ?_
    refine zo 2 (bs 20 7) (v := .pointer (some ⟨ge, i * 7, none⟩)) zb ?_ (hv := by intro w hSw; exact ezi (k := i) Tryz.underlying74 (l := (show i < (edsV rs).length by omega)) (f := (Nat.zero_add _).symm))
    refine zg 3 (bs 20 15) ge (i * 7) [.int .i64 ex.a.1, .int .i64 ex.a.2, .int .i64 ex.b.1, .int .i64 ex.b.2, .int .i64 ((ex.r : Nat) : Int), .int .i64 ((ex.i : Nat) : Int), .int .i64 ((ex.n : Nat) : Int)] (H28.out.elem (f := EdE.cells) (i := 0) rR EdE.len HEX.out) Tryz.underlying78 zb ?_
    refine zJ2 (Hp.start _) zb (bs 20 63) 4 5 _ (.int .i64 (k : Int)) ?_
    refine zo 6 (bs 20 127) (v := .pointer (some ⟨ge, k * 7, none⟩)) zb ?_ (hv := by intro w hSw; exact ezi (k := k) Tryz.underlying74 (l := (show k < (edsV rs).length by omega)) (f := (Nat.zero_add _).symm))
    refine zg 7 (bs 20 255) ge (k * 7) [.int .i64 ey.a.1, .int .i64 ey.a.2, .int .i64 ey.b.1, .int .i64 ey.b.2, .int .i64 ((ey.r : Nat) : Int), .int .i64 ((ey.i : Nat) : Int), .int .i64 ((ey.n : Nat) : Int)] (H28.out.elem (f := EdE.cells) (i := 0) rR EdE.len HEY.out) Tryz.underlying78 zb ?_
    refine mC 8 (bs 20 511) (adjacent_any ex ey _ HBX.out HBY.out) ?_
    rintro e w61 ⟨rfl, hx⟩
    have H62 := zH (H53.out.step hx)
    have D62 := zH (show Dig w26.drew w61 from Dig.of_ext hx)
    have S64 := zH (zb.trans hx)
    clear hx
    refine ⟨.bool false, by rw [HADF.out], S64.out, ?_⟩
    try simp only [Act.put, zA, zB, zC]
    refine zJ3 (Hp.start _) S64.out (bs 20 4095) 9 10 11 (.bool false) _ (.int .i64 (i : Int)) ?_
    refine zo 12 (bs 20 8191) (v := .pointer (some ⟨ge, i * 7, none⟩)) S64.out ?_ (hv := by intro w hSw; exact ezi (k := i) Tryz.underlying74 (l := (show i < (edsV rs).length by omega)) (f := (Nat.zero_add _).symm))
    refine zg 13 (bs 20 16383) ge (i * 7) [.int .i64 ex.a.1, .int .i64 ex.a.2, .int .i64 ex.b.1, .int .i64 ex.b.2, .int .i64 ((ex.r : Nat) : Int), .int .i64 ((ex.i : Nat) : Int), .int .i64 ((ex.n : Nat) : Int)] (H28.out.elem (f := EdE.cells) (i := 0) rR EdE.len HEX.out) Tryz.underlying78 S64.out ?_
    refine zJ2 (Hp.start _) S64.out (bs 20 65535) 14 15 _ (.int .i64 (k : Int)) ?_
    refine zo 16 (bs 20 131071) (v := .pointer (some ⟨ge, k * 7, none⟩)) S64.out ?_ (hv := by intro w hSw; exact ezi (k := k) Tryz.underlying74 (l := (show k < (edsV rs).length by omega)) (f := (Nat.zero_add _).symm))
    refine zg 17 (bs 20 262143) ge (k * 7) [.int .i64 ey.a.1, .int .i64 ey.a.2, .int .i64 ey.b.1, .int .i64 ey.b.2, .int .i64 ((ey.r : Nat) : Int), .int .i64 ((ey.i : Nat) : Int), .int .i64 ((ey.n : Nat) : Int)] (H28.out.elem (f := EdE.cells) (i := 0) rR EdE.len HEY.out) Tryz.underlying78 S64.out ?_
    refine mC 18 (bs 20 524287) (disjoint_any ex ey _) ?_
    rintro e w72 ⟨rfl, hx⟩
    have H73 := zH (H62.out.step hx)
    have D73 := zH (Dig.of_ext hx)
    have S75 := zH (S64.out.trans hx)
    clear hx
    refine ⟨.bool true, by rw [HDJ.out], S75.out, ?_⟩
    try simp only [Act.put, zA, zB, zC]
    refine zx 19 (bs 20 1048575) (.bool true) S75.out ?_
    refine wpAnyH_done kR ?_ _
    go_upto_region 13 with fail
    refine wl ?_
    refine zp (.int .i64 ((i + 1 : Nat) : Int)) (by exact ez1 (by have ob0 := HM.out; have ob1 := HM2.out; omega)) ?_
    refine zq (.int .i64 ((i + 1 : Nat) : Int)) ?_
    have DD79 := tD (tD D53 D62) D73
    have DD80 := tD (tD (tD D28 D53) D62) D73
    go_wp2_with fail
    go_roundg (k - (i + 1))
    case measure => exact (by have ob0 := HM.out; have ob1 := HM2.out; omega)
    case rel => exact ⟨i + 1, A2, m2, c2, es2, rfl, rfl, (by go_num), hik, ⟨HM2.out.1, by have h_ := HM2.out.2; omega⟩, (fun ey_ hey2_ => by obtain rfl : ey = ey_ := Option.some.inj (HEY.out.symm.trans hey2_); rw [HES2.out _ hey2_, crTake_succ HEX.out, show crP ex ey = [] from if_pos (.inr HDJ.out), List.append_nil]), (fun g_ hg_ => (HOE2.out g_ hg_).dig DD79.out), H73.out, DD80.out⟩
   have HDJF := zH (Bool.eq_false_iff.2 HDJ.out)
   have HNO := zH (show ¬ (adjB ex ey = true \/ djB ex ey = true) from fun h_ => h_.elim HAD.out HDJ.out)
   go_upto_region 9 with fail
   refine zy ?_
   have H81 := zH (H28.out.step (Ext.refl w26).drew)
   have D81 := zH (Dig.of_ext (w := w26) zb)
   refine zJ2 (Hp.start _) zb (bs 20 3) 0 1 _ (.int .i64 (i : Int)) ?_
   refine zo 2 (bs 20 7) (v := .pointer (some ⟨ge, i * 7, none⟩)) zb ?_ (hv := by intro w hSw; exact ezi (k := i) Tryz.underlying74 (l := (show i < (edsV rs).length by omega)) (f := (Nat.zero_add _).symm))
   refine zg 3 (bs 20 15) ge (i * 7) [.int .i64 ex.a.1, .int .i64 ex.a.2, .int .i64 ex.b.1, .int .i64 ex.b.2, .int .i64 ((ex.r : Nat) : Int), .int .i64 ((ex.i : Nat) : Int), .int .i64 ((ex.n : Nat) : Int)] (H28.out.elem (f := EdE.cells) (i := 0) rR EdE.len HEX.out) Tryz.underlying78 zb ?_
   refine zJ2 (Hp.start _) zb (bs 20 63) 4 5 _ (.int .i64 (k : Int)) ?_
   refine zo 6 (bs 20 127) (v := .pointer (some ⟨ge, k * 7, none⟩)) zb ?_ (hv := by intro w hSw; exact ezi (k := k) Tryz.underlying74 (l := (show k < (edsV rs).length by omega)) (f := (Nat.zero_add _).symm))
   refine zg 7 (bs 20 255) ge (k * 7) [.int .i64 ey.a.1, .int .i64 ey.a.2, .int .i64 ey.b.1, .int .i64 ey.b.2, .int .i64 ((ey.r : Nat) : Int), .int .i64 ((ey.i : Nat) : Int), .int .i64 ((ey.n : Nat) : Int)] (H28.out.elem (f := EdE.cells) (i := 0) rR EdE.len HEY.out) Tryz.underlying78 zb ?_
   refine mC 8 (bs 20 511) (adjacent_any ex ey _ HBX.out HBY.out) ?_
   rintro e w89 ⟨rfl, hx⟩
   have H90 := zH (H81.out.step hx)
   have D90 := zH (show Dig w26.drew w89 from Dig.of_ext hx)
   have S92 := zH (zb.trans hx)
   clear hx
   refine ⟨.bool false, by rw [HADF.out], S92.out, ?_⟩
   try simp only [Act.put, zA, zB, zC]
   refine zJ3 (Hp.start _) S92.out (bs 20 4095) 9 10 11 (.bool false) _ (.int .i64 (i : Int)) ?_
   refine zo 12 (bs 20 8191) (v := .pointer (some ⟨ge, i * 7, none⟩)) S92.out ?_ (hv := by intro w hSw; exact ezi (k := i) Tryz.underlying74 (l := (show i < (edsV rs).length by omega)) (f := (Nat.zero_add _).symm))
   refine zg 13 (bs 20 16383) ge (i * 7) [.int .i64 ex.a.1, .int .i64 ex.a.2, .int .i64 ex.b.1, .int .i64 ex.b.2, .int .i64 ((ex.r : Nat) : Int), .int .i64 ((ex.i : Nat) : Int), .int .i64 ((ex.n : Nat) : Int)] (H28.out.elem (f := EdE.cells) (i := 0) rR EdE.len HEX.out) Tryz.underlying78 S92.out ?_
   refine zJ2 (Hp.start _) S92.out (bs 20 65535) 14 15 _ (.int .i64 (k : Int)) ?_
   refine zo 16 (bs 20 131071) (v := .pointer (some ⟨ge, k * 7, none⟩)) S92.out ?_ (hv := by intro w hSw; exact ezi (k := k) Tryz.underlying74 (l := (show k < (edsV rs).length by omega)) (f := (Nat.zero_add _).symm))
   refine zg 17 (bs 20 262143) ge (k * 7) [.int .i64 ey.a.1, .int .i64 ey.a.2, .int .i64 ey.b.1, .int .i64 ey.b.2, .int .i64 ((ey.r : Nat) : Int), .int .i64 ((ey.i : Nat) : Int), .int .i64 ((ey.n : Nat) : Int)] (H28.out.elem (f := EdE.cells) (i := 0) rR EdE.len HEY.out) Tryz.underlying78 S92.out ?_
   refine mC 18 (bs 20 524287) (disjoint_any ex ey _) ?_
   rintro e w100 ⟨rfl, hx⟩
   have H101 := zH (H90.out.step hx)
   have D101 := zH (Dig.of_ext hx)
   have S103 := zH (S92.out.trans hx)
   clear hx
   refine ⟨.bool false, by rw [HDJF.out], S103.out, ?_⟩
   try simp only [Act.put, zA, zB, zC]
   refine zx 19 (bs 20 1048575) (.bool false) S103.out ?_
   refine wpAnyH_done kR ?_ _
   rcases emH (segN ex.a ex.b ey.a ey.b = 1) with HSG | HSG
   ·go_upto_region 10 with fail
    refine zy ?_
    have H106 := zH (H101.out.step (Ext.refl w100).drew)
    have D106 := zH (Dig.of_ext (w := w100) zb)
    refine zJ2 (Hp.start _) zb (bs 30 3) 0 1 _ (.int .i64 (i : Int)) ?_
    refine zu 2 (bs 30 7) (v := .pointer (some ⟨ge, i * 7, none⟩)) zb ?_ (hv := by intro w hSw; exact ezi (k := i) Tryz.underlying74 (l := (show i < (edsV rs).length by omega)) (f := (Nat.zero_add _).symm))
    refine zJ1 (Hp.start _) zb (bs 30 15) 3 _ ?_
    refine zg 4 (bs 30 31) ge (i * 7) [.int .i64 ex.a.1, .int .i64 ex.a.2] (range_part (H101.out.elem (f := EdE.cells) (i := 0) rR EdE.len HEX.out) 0 2) Tryz.underlying24 zb ?_
    refine zJ2 (Hp.start _) zb (bs 30 127) 5 6 _ (.int .i64 (i : Int)) ?_
    refine zu 7 (bs 30 255) (v := .pointer (some ⟨ge, i * 7, none⟩)) zb ?_ (hv := by intro w hSw; exact ezi (k := i) Tryz.underlying74 (l := (show i < (edsV rs).length by omega)) (f := (Nat.zero_add _).symm))
    refine mX 8 (bs 30 511) (.pointer (some ⟨ge, i * 7 + 2, none⟩)) zb ?_
    refine zg 9 (bs 30 1023) ge (i * 7 + 2) [.int .i64 ex.b.1, .int .i64 ex.b.2] (range_part (H101.out.elem (f := EdE.cells) (i := 0) rR EdE.len HEX.out) 2 2) Tryz.underlying24 zb ?_
    refine zJ2 (Hp.start _) zb (bs 30 4095) 10 11 _ (.int .i64 (k : Int)) ?_
    refine zu 12 (bs 30 8191) (v := .pointer (some ⟨ge, k * 7, none⟩)) zb ?_ (hv := by intro w hSw; exact ezi (k := k) Tryz.underlying74 (l := (show k < (edsV rs).length by omega)) (f := (Nat.zero_add _).symm))
    refine zJ1 (Hp.start _) zb (bs 30 16383) 13 _ ?_
    refine zg 14 (bs 30 32767) ge (k * 7) [.int .i64 ey.a.1, .int .i64 ey.a.2] (range_part (H101.out.elem (f := EdE.cells) (i := 0) rR EdE.len HEY.out) 0 2) Tryz.underlying24 zb ?_
    refine zJ2 (Hp.start _) zb (bs 30 131071) 15 16 _ (.int .i64 (k : Int)) ?_
    refine zu 17 (bs 30 262143) (v := .pointer (some ⟨ge, k * 7, none⟩)) zb ?_ (hv := by intro w hSw; exact ezi (k := k) Tryz.underlying74 (l := (show k < (edsV rs).length by omega)) (f := (Nat.zero_add _).symm))
    refine mX 18 (bs 30 524287) (.pointer (some ⟨ge, k * 7 + 2, none⟩)) zb ?_
    refine zg 19 (bs 30 1048575) ge (k * 7 + 2) [.int .i64 ey.b.1, .int .i64 ey.b.2] (range_part (H101.out.elem (f := EdE.cells) (i := 0) rR EdE.len HEY.out) 2 2) Tryz.underlying24 zb ?_
    refine FN.go2 (j1 := ⟨25, some 8, 34, [.bool false, .slice none 0 0, .bool false, .slice none 0 0]⟩) (j2 := ⟨26, some 9, 34, [.bool false, .slice none 0 0, .bool false, .slice none 0 0]⟩) (b := w100) ?_ zb
    refine gN 20 (bs 30 2097151) (fk (fk trivial)) zb.size (fun xq hxq => ((segments_any ex.a ex.b ey.a ey.b _ HBX.out.1 HBX.out.2.1 HBY.out.1 HBY.out.2.1).mono (fun _ _ h_ => SegRet.yes h_ HSG.out))) (by rintro x_ e x2_ ⟨r125, s125, rfl, hr_, hs_, hx⟩; exact hx) ?_
    rintro xq e w124 hxq ⟨r125, s125, rfl, hr_, hs_, hx⟩
    replace hx := hxq.trans hx
    clear hxq
    have H126 := zH (H106.out.step hx)
    have D126 := zH (show Dig w100.drew w124 from Dig.of_ext hx)
    have S128 := zH (zb.trans hx)
    have R125 := zH hr_
    have S125 := zH hs_
    have B125 := zH (rl_segXY HBX.out.1 HBX.out.2.1 HBY.out.1 HBY.out.2.1).1
    have C125 := zH (rl_segXY HBX.out.1 HBX.out.2.1 HBY.out.1 HBY.out.2.1).2
    clear hr_ hs_ hx
    refine ⟨_, rfl, ?_⟩
    try simp only [Act.put, zA, zB, zC]
    refine gT 21 (bs 30 4194303) _ ?_
    refine gT 22 (bs 30 8388607) _ ?_
    refine gT 23 (bs 30 16777215) _ ?_
    refine gT 24 (bs 30 33554431) (.int .i64 1) ?_
    refine gE2 (bs 30 134217727) (fk (fk trivial)) S128.out.size H101.out H126.out ?_
    intro X133 X134 w135 hx hh hg0 hg1 hs
    have H136 := hN hh
    have D136 := zH (Dig.of_ext hx)
    have S138 := zH (show Ext w100 w135 from hs)
    have G139 := zH (show w100.heap.size <= X133 from hg0)
    have G140 := zH (show w100.heap.size <= X134 from hg1)
    clear hh hx hs hg0 hg1
    try simp only [Act.put, zA, zB, zC]
    refine bS 2 27 (bs 30 268435455) (rc r125) H136.out S138.out G139.out ?_
    intro w141 H142 D142 S144
    refine bS 3 28 (bs 30 536870911) (rc s125) H142.out S144.out G140.out ?_
    intro w145 H146 D146 S148
    refine zx 29 (bs 30 1073741823) (.int .i64 1) S148.out ?_
    refine wpAnyH_done kR ?_ _
    go_upto_region 11 with fail
    refine wl ?_
    refine zq (.int .i64 1) ?_
    refine zp (.bool true) (by exact ezq (e := (dec_t rfl))) ?_
    go_upto_region 12 with fail
    refine wl ?_
    refine zI4 H146.out _ _ _ _ ?_
    refine zp (w' := (w145.alloc (.cells ([.bool r125.n, .slice r125.p r125.l r125.c, .bool r125.m, .slice r125.p2 r125.l2 r125.c2, .bool s125.n, .slice s125.p s125.l s125.c, .bool s125.m, .slice s125.p2 s125.l2 s125.c2] : List Value).toArray 49))) (.slice (some ⟨w145.heap.size, 0, none⟩) 1 1) (by go_simp) ?_
    refine mv_app rR _ _ _ rR elRR rR H146.out (ix := 1) rR 1 1 [.bool r125.n, .slice r125.p r125.l r125.c, .bool r125.m, .slice r125.p2 r125.l2 r125.c2, .bool s125.n, .slice s125.p s125.l s125.c, .bool s125.m, .slice s125.p2 s125.l2 s125.c2] rR rfl (by simp [Value.oneCell']) (by simp [NoUL]) dC (by unfold maxLen; exact (by have ob0 := HM.out; have ob1 := HM2.out; omega)) (by have ob0 := HM.out; have ob1 := HM2.out; omega) ?_
    intro g155 cp156 w154 hf hh hd hg
    have Fg155 := zH hf
    clear hf
    rw [show List.flatMap R2E.cells es2 ++ [.bool r125.n, .slice r125.p r125.l r125.c, .bool r125.m, .slice r125.p2 r125.l2 r125.c2, .bool s125.n, .slice s125.p s125.l s125.c, .bool s125.m, .slice s125.p2 s125.l2 s125.c2] = _ from flat_snoc R2E.cells _ (⟨r125, s125, (segX ex.a ex.b ey.a ey.b), (segY ex.a ex.b ey.a ey.b)⟩ : R2E)] at hh
    have H157 := hN hh
    have D157 := zH (hd)
    clear hh hd hg
    try simp only [Act.put, zA, zB, zC]
    refine zq (.slice (some ⟨g155, 0, none⟩) (m2 + 1) cp156) ?_
    have DD160 := tD (tD (tD (tD (tD (tD (tD (tD D81 D90) D101) D106) D126) D136) D142) D146) D157
    have DD161 := tD (tD (tD D136 D142) D146) D157
    go_upto_region 13 with fail
    refine wl ?_
    refine zp (.int .i64 ((i + 1 : Nat) : Int)) (by exact ez1 (by have ob0 := HM.out; have ob1 := HM2.out; omega)) ?_
    refine zq (.int .i64 ((i + 1 : Nat) : Int)) ?_
    have DD164 := tD (tD (tD (tD (tD (tD (tD (tD (tD D28 D81) D90) D101) D106) D126) D136) D142) D146) D157
    go_wp2_with fail
    go_roundg (k - (i + 1))
    case measure => exact (by have ob0 := HM.out; have ob1 := HM2.out; omega)
    case rel => exact ⟨i + 1, some ⟨g155, 0, none⟩, (m2 + 1), cp156, es2 ++ [(⟨r125, s125, (segX ex.a ex.b ey.a ey.b), (segY ex.a ex.b ey.a ey.b)⟩ : R2E)], rfl, rfl, (by go_num), hik, ⟨by rw [HM2.out.1]; simp, by have h_ := HM2.out.2; omega⟩, (fun ey_ hey2_ => by obtain rfl : ey = ey_ := Option.some.inj (HEY.out.symm.trans hey2_); rw [List.map_append, HES2.out _ hey2_, crTake_succ HEX.out, show crP ex ey = [(segX ex.a ex.b ey.a ey.b, segY ex.a ex.b ey.a ey.b)] from (if_neg HNO.out).trans (if_pos HSG.out), List.append_assoc]; rfl), (fun g_ hg_ => (List.mem_append.1 hg_).elim (fun h_ => (HOE2.out g_ h_).dig DD160.out) (fun h_ => by rw [List.mem_singleton.1 h_]; exact ⟨(R125.out.dig DD161.out), (S125.out.dig DD161.out), Nat.le_trans B125.out (by decide), Nat.le_trans C125.out (by decide)⟩)), H157.out.take 2, DD164.out⟩
   go_upto_region 10 with fail
   refine zy ?_
   have H165 := zH (H101.out.step (Ext.refl w100).drew)
   have D165 := zH (Dig.of_ext (w := w100) zb)
   refine zJ2 (Hp.start _) zb (bs 30 3) 0 1 _ (.int .i64 (i : Int)) ?_
   refine zu 2 (bs 30 7) (v := .pointer (some ⟨ge, i * 7, none⟩)) zb ?_ (hv := by intro w hSw; exact ezi (k := i) Tryz.underlying74 (l := (show i < (edsV rs).length by omega)) (f := (Nat.zero_add _).symm))
   refine zJ1 (Hp.start _) zb (bs 30 15) 3 _ ?_
   refine zg 4 (bs 30 31) ge (i * 7) [.int .i64 ex.a.1, .int .i64 ex.a.2] (range_part (H101.out.elem (f := EdE.cells) (i := 0) rR EdE.len HEX.out) 0 2) Tryz.underlying24 zb ?_
   refine zJ2 (Hp.start _) zb (bs 30 127) 5 6 _ (.int .i64 (i : Int)) ?_
   refine zu 7 (bs 30 255) (v := .pointer (some ⟨ge, i * 7, none⟩)) zb ?_ (hv := by intro w hSw; exact ezi (k := i) Tryz.underlying74 (l := (show i < (edsV rs).length by omega)) (f := (Nat.zero_add _).symm))
   refine mX 8 (bs 30 511) (.pointer (some ⟨ge, i * 7 + 2, none⟩)) zb ?_
   refine zg 9 (bs 30 1023) ge (i * 7 + 2) [.int .i64 ex.b.1, .int .i64 ex.b.2] (range_part (H101.out.elem (f := EdE.cells) (i := 0) rR EdE.len HEX.out) 2 2) Tryz.underlying24 zb ?_
   refine zJ2 (Hp.start _) zb (bs 30 4095) 10 11 _ (.int .i64 (k : Int)) ?_
   refine zu 12 (bs 30 8191) (v := .pointer (some ⟨ge, k * 7, none⟩)) zb ?_ (hv := by intro w hSw; exact ezi (k := k) Tryz.underlying74 (l := (show k < (edsV rs).length by omega)) (f := (Nat.zero_add _).symm))
   refine zJ1 (Hp.start _) zb (bs 30 16383) 13 _ ?_
   refine zg 14 (bs 30 32767) ge (k * 7) [.int .i64 ey.a.1, .int .i64 ey.a.2] (range_part (H101.out.elem (f := EdE.cells) (i := 0) rR EdE.len HEY.out) 0 2) Tryz.underlying24 zb ?_
   refine zJ2 (Hp.start _) zb (bs 30 131071) 15 16 _ (.int .i64 (k : Int)) ?_
   refine zu 17 (bs 30 262143) (v := .pointer (some ⟨ge, k * 7, none⟩)) zb ?_ (hv := by intro w hSw; exact ezi (k := k) Tryz.underlying74 (l := (show k < (edsV rs).length by omega)) (f := (Nat.zero_add _).symm))
   refine mX 18 (bs 30 524287) (.pointer (some ⟨ge, k * 7 + 2, none⟩)) zb ?_
   refine zg 19 (bs 30 1048575) ge (k * 7 + 2) [.int .i64 ey.b.1, .int .i64 ey.b.2] (range_part (H101.out.elem (f := EdE.cells) (i := 0) rR EdE.len HEY.out) 2 2) Tryz.underlying24 zb ?_
   refine FN.go2 (j1 := ⟨25, some 8, 34, [.bool false, .slice none 0 0, .bool false, .slice none 0 0]⟩) (j2 := ⟨26, some 9, 34, [.bool false, .slice none 0 0, .bool false, .slice none 0 0]⟩) (b := w100) ?_ zb
   refine gN 20 (bs 30 2097151) (fk (fk trivial)) zb.size (fun xq hxq => ((segments_any ex.a ex.b ey.a ey.b _ HBX.out.1 HBX.out.2.1 HBY.out.1 HBY.out.2.1).mono (fun _ _ h_ => SegRet.no h_ HSG.out))) (by rintro x_ e x2_ ⟨rfl, hx⟩; exact hx) ?_
   rintro xq e w183 hxq ⟨rfl, hx⟩
   replace hx := hxq.trans hx
   clear hxq
   have H184 := zH (H165.out.step hx)
   have D184 := zH (show Dig w100.drew w183 from Dig.of_ext hx)
   have S186 := zH (zb.trans hx)
   clear hx
   refine ⟨_, rfl, ?_⟩
   try simp only [Act.put, zA, zB, zC]
   refine gT 21 (bs 30 4194303) _ ?_
   refine gT 22 (bs 30 8388607) _ ?_
   refine gT 23 (bs 30 16777215) _ ?_
   refine gT 24 (bs 30 33554431) (.int .i64 (segN ex.a ex.b ey.a ey.b)) ?_
   refine gE2 (bs 30 134217727) (fk (fk trivial)) S186.out.size H101.out H184.out ?_
   intro X191 X192 w193 hx hh hg0 hg1 hs
   have H194 := hN hh
   have D194 := zH (Dig.of_ext hx)
   have S196 := zH (show Ext w100 w193 from hs)
   have G197 := zH (show w100.heap.size <= X191 from hg0)
   have G198 := zH (show w100.heap.size <= X192 from hg1)
   clear hh hx hs hg0 hg1
   try simp only [Act.put, zA, zB, zC]
   refine bS 2 27 (bs 30 268435455) rz H194.out S196.out G197.out ?_
   intro w199 H200 D200 S202
   refine bS 3 28 (bs 30 536870911) rz H200.out S202.out G198.out ?_
   intro w203 H204 D204 S206
   refine zx 29 (bs 30 1073741823) (.int .i64 (segN ex.a ex.b ey.a ey.b)) S206.out ?_
   refine wpAnyH_done kR ?_ _
   go_upto_region 11 with fail
   refine wl ?_
   refine zq (.int .i64 (segN ex.a ex.b ey.a ey.b)) ?_
   refine zp (.bool false) (by exact ezq (e := (dec_f HSG.out))) ?_
   go_upto_region 13 with fail
   refine wl ?_
   refine zp (.int .i64 ((i + 1 : Nat) : Int)) (by exact ez1 (by have ob0 := HM.out; have ob1 := HM2.out; omega)) ?_
   refine zq (.int .i64 ((i + 1 : Nat) : Int)) ?_
   have DD212 := tD (tD (tD (tD (tD (tD (tD D81 D90) D101) D165) D184) D194) D200) D204
   have DD213 := tD (tD (tD (tD (tD (tD (tD (tD D28 D81) D90) D101) D165) D184) D194) D200) D204
   go_wp2_with fail
   go_roundg (k - (i + 1))
   case measure => exact (by have ob0 := HM.out; have ob1 := HM2.out; omega)
   case rel => exact ⟨i + 1, A2, m2, c2, es2, rfl, rfl, (by go_num), hik, ⟨HM2.out.1, by have h_ := HM2.out.2; omega⟩, (fun ey_ hey2_ => by obtain rfl : ey = ey_ := Option.some.inj (HEY.out.symm.trans hey2_); rw [HES2.out _ hey2_, crTake_succ HEX.out, show crP ex ey = [] from (if_neg HNO.out).trans (if_neg HSG.out), List.append_nil]), (fun g_ hg_ => (HOE2.out g_ hg_).dig DD212.out), H204.out.take 2, DD213.out⟩
  have hik := HIK.out
  have hki := HKI.out
  obtain rfl : i = k := by omega
  go_upto_region 7 with fail
  refine wl ?_
  refine zp (.bool false) (by exact ezl (e := (dec_f (Int.lt_irrefl _)))) ?_
  go_upto_region 14 with fail
  refine wl ?_
  refine zp (.int .i64 ((i + 1 : Nat) : Int)) (by exact ez1 (by have ob0 := HM.out; omega)) ?_
  refine zq (.int .i64 ((i + 1 : Nat) : Int)) ?_
  have DD217 := tD D17 D28
  go_wp2_with fail
  go_roundg ((edsV rs).length - (i + 1))
  case measure => exact (by have ob0 := HM.out; omega)
  case rel => exact ⟨i + 1, A2, m2, c2, es2, rfl, rfl, (by go_num), hlt, ⟨HM2.out.1, by have h_ := HM2.out.2; omega⟩, (by rw [HES2.out _ (List.getElem?_eq_getElem hlt), crRange_succ (List.getElem?_eq_getElem hlt)]), (fun g_ hg_ => (HOE2.out g_ hg_)), H28.out, DD217.out⟩
 have hlt := HLT.out
 have hkn := HKN.out
 obtain rfl : k = (edsV rs).length := by omega
 go_upto_region 4 with fail
 refine wl ?_
 refine zp (.bool false) (by exact ezl (e := (dec_f (Int.lt_irrefl _)))) ?_
 have hmm : m <= 16777216 := by have h_ := HM.out.2; omega
 go_upto_region 15 with fail
 refine wl ?_
 refine zI1 (Hp.start _) _ ?_
 refine zc (sortR2_any 24 dC (fun w_ e_ f_ h1_ h2_ => compare2_any 24 dC w_ e_ f_ h1_ h2_) (.slice A1 m c1) es _ _ (by have h_ := H17.out.row (i := 1) rR; rw [HM.out.1] at h_ ⊢; exact h_) (fun g_ hg_ => (HOE.out g_ hg_)) (by have h_ := HM.out.1; omega)) ?_
 rintro e w220 ⟨rfl, es1, hp_, hs_, hr_, hg_, hd_⟩
 have HPS := zH (And.intro hp_ hs_)
 rw [hp_.length_eq, <- HM.out.1] at hr_
 have H221 := zH (show Hp w w220 [ro 78 7 Ae ((edsV rs).length) ce EdE.cells (edsV rs), ro 49 8 A1 m c1 R2E.cells es1] from H17.out.turn (i := 1) (e := .row 49 8 (.slice A1 m c1) (m) (List.flatMap R2E.cells es)) (e' := .row 49 8 (.slice A1 m c1) (m) (List.flatMap R2E.cells es1)) (by rfl) (fun k h => h) hg_ hr_ (fun k hk => .inl hk))
 have HOS1 := zH (show ∀ e, e ∈ es1 -> e.Ok 24 w220 from fun e he => ((HOE.out e (hp_.mem_iff.1 he))).dig hd_)
 have HL1 := zH (show es1.length = m from hp_.length_eq.trans HM.out.1.symm)
 clear hp_ hs_ hr_ hg_ hd_
 have hx := True.intro
 clear hx
 refine zn ?_
 go_upto_region 16 with fail
 refine wl ?_
 refine zI1 (Hp.start _) _ ?_
 refine zc (cptR2_any 24 dC (.slice A1 m c1) es1 _ _ (by have h_ := H221.out.row (i := 1) rR; exact (congrArg (fun n_ => RowN _ _ 49 8 (.slice A1 m c1) n_ (List.flatMap R2E.cells es1)) HL1.out).mpr h_) H221.out.ext.size HOS1.out (by have h_ := HL1.out; omega)) ?_
 rintro e w224 ⟨v_, rfl, hr_, hg_, hd_, ho_⟩
 obtain ⟨ps, hps_⟩ : ∃ ps, ps = compactV (fun x y : R2E => decide (x.vl = y.vl)) es1 := ⟨_, rfl⟩
 rw [<- hps_] at hr_
 obtain ⟨A3, c3, rfl, hf_⟩ := hr_.form
 have HF3 := zH hf_
 have HPS2 := zH (sort_cpt HPS.out.1 HPS.out.2)
 rw [<- hps_] at HPS2
 have HOP := zH (show ∀ e, e ∈ ps -> e.Ok 24 w224 from fun e he => (HOS1.out e (compactV_sub _ (by rw [<- hps_]; exact he))).dig hd_)
 have hpl : ps.length <= 16777216 := by have h_ := compactV_le (fun x y : R2E => decide (x.vl = y.vl)) es1; rw [<- hps_, HL1.out] at h_; omega
 have H225 := zH (show Hp w w224 [ro 78 7 Ae ((edsV rs).length) ce EdE.cells (edsV rs), ro 49 8 A3 ps.length c3 R2E.cells ps] from H221.out.turn (i := 1) (e := .row 49 8 (.slice A1 m c1) (m) (List.flatMap R2E.cells es1)) (e' := .row 49 8 (.slice A3 ps.length c3) (ps.length) (List.flatMap R2E.cells ps)) (by rfl) (fun k h => h) hg_ hr_ (fun k hk => .inl (by have h_ : Value.ownBlock (.slice A3 ps.length c3) = some k := hk; rw [ho_] at h_; exact h_)))
 clear hr_ hg_ hd_ ho_ hf_ hps_
 have hx := True.intro
 clear hx
 refine zn ?_
 refine zI1 (Hp.start _) _ ?_
 go_upto_region 17 with fail
 refine wl ?_
 refine zI1 (Hp.start _) _ ?_
 have H229 := zH (show Hp w w224 [ro 78 7 Ae ((edsV rs).length) ce EdE.cells (edsV rs), ro 49 8 A3 ps.length c3 R2E.cells ps, ro 48 1 none 0 0 OnE.cells ([])] from H225.out.addNil 48 1)
 go_upto_region 18 with fail
 refine wl ?_
 refine zI3 (Hp.start _) _ (.int .i64 ((ps.length : Nat) : Int)) _ ?_
 go_wp2_with fail
 go_loopg [11, 89] (ps.length) (fun cq v233 v234 wr => ∃ (k : Nat) (A4 : Option Addr) (c4 : Nat) (os : List OnE), cq = ps.length - k /\ v233 = .slice A4 k c4 /\ v234 = .int .i64 (k : Int) /\ (k <= ps.length) /\ (os.map OnE.l = (ps.take k).map (fun e => onV (edsV rs) e.vl)) /\ (os.length = k) /\ (∀ o, o ∈ os -> o.Ok w.heap.size wr) /\ Hp w wr [.row 78 7 (.slice Ae ((edsV rs).length) ce) ((edsV rs).length) (List.flatMap EdE.cells (edsV rs)), .row 49 8 (.slice A3 ps.length c3) (ps.length) (List.flatMap R2E.cells ps), .row 48 1 (.slice A4 k c4) (k) (List.flatMap OnE.cells os)] /\ Dig w224 wr)
 case atStart => exact ⟨0, none, 0, [], rfl, rfl, rfl, Nat.zero_le _, rfl, rfl, (fun o_ ho_ => by cases ho_), H229.out, Dig.refl _⟩
 obtain ⟨k, A4, c4, os, rfl, rfl, rfl, q_HKP, q_HOS, q_HOL, q_HOK4, hh_, hd_⟩ := hrel
 generalize wr = w235 at *
 have HKP := zH q_HKP
 clear q_HKP
 have HOS := zH q_HOS
 clear q_HOS
 have HOL := zH q_HOL
 clear q_HOL
 have HOK4 := zH q_HOK4
 clear q_HOK4
 have H237 := zH hh_
 have D237 := zH hd_
 clear hh_ hd_ H229
 rcases emH (k < ps.length) with HLT | HLT
 ·have hlt := HLT.out
  obtain ⟨pe, hpe_⟩ : ∃ x, ps[k]? = some x := ⟨_, List.getElem?_eq_getElem hlt⟩
  have HPE := zH hpe_
  have HOE_ := zH (HOP.out pe (List.mem_of_getElem? hpe_))
  clear hpe_
  obtain ⟨gp, rfl⟩ := HF3.out (by omega)
  go_upto_region 19 with fail
  refine wl ?_
  refine zp (.bool true) (by exact ezl (e := (dec_t (by omega)))) ?_
  have HB := H237
  have HEP := zH (H237.out.elem (f := R2E.cells) (i := 1) (by rfl) R2E.len HPE.out)
  have HK0 := zH (Hp.start w235)
  have OKP := zH (HOE_.out.dig D237.out)
  have RPa := zH OKP.out.1
  have RPb := zH OKP.out.2.1
  have BRPa := zH OKP.out.2.2.1
  have BRPb := zH OKP.out.2.2.2
  go_upto_region 20 with fail
  refine wl ?_
  refine zp (.pointer (some ⟨gp, k * 8, none⟩)) (by exact ezi (k := k) Tryz.underlying44 (l := hlt) (f := (Nat.zero_add _).symm)) ?_
  refine zd gp (k * 8) [.bool pe.a.n, .slice pe.a.p pe.a.l pe.a.c, .bool pe.a.m, .slice pe.a.p2 pe.a.l2 pe.a.c2, .bool pe.b.n, .slice pe.b.p pe.b.l pe.b.c, .bool pe.b.m, .slice pe.b.p2 pe.b.l2 pe.b.c2] (range_ext HEP.out HK0.out.ext) Tryz.underlying49 ?_
  refine aA' 49 [.bool false, .slice none 0 0, .bool false, .slice none 0 0, .bool false, .slice none 0 0, .bool false, .slice none 0 0] HK0.out ?_
  intro X242 w243 H244 D244
  refine aS' 0 [.bool pe.a.n, .slice pe.a.p pe.a.l pe.a.c, .bool pe.a.m, .slice pe.a.p2 pe.a.l2 pe.a.c2, .bool pe.b.n, .slice pe.b.p pe.b.l pe.b.c, .bool pe.b.m, .slice pe.b.p2 pe.b.l2 pe.b.c2] H244.out ?_
  intro w247 H248 D248
  go_upto_region 21 with fail
  refine wl ?_
  refine zI1 (Hp.start _) _ ?_
  have H251 := zH (show Hp w235 w247 [.blk X242 49 [.bool pe.a.n, .slice pe.a.p pe.a.l pe.a.c, .bool pe.a.m, .slice pe.a.p2 pe.a.l2 pe.a.c2, .bool pe.b.n, .slice pe.b.p pe.b.l pe.b.c, .bool pe.b.m, .slice pe.b.p2 pe.b.l2 pe.b.c2], ro 3 1 none 0 0 iC ([])] from H248.out.addNil 3 1)
  go_upto_region 22 with fail
  refine wl ?_
  refine zI3 (Hp.start _) _ (.int .i64 (((edsV rs).length : Nat) : Int)) _ ?_
  go_wp2_with fail
  go_loopg [14, 95] ((edsV rs).length) (fun cq v255 v256 wr => ∃ (i : Nat) (A5 : Option Addr) (n5 : Nat) (c5 : Nat) (is : List Nat), cq = ((edsV rs).length) - i /\ v255 = .slice A5 n5 c5 /\ v256 = .int .i64 (i : Int) /\ (i <= (edsV rs).length) /\ (n5 = is.length /\ n5 <= i) /\ (is = (List.range i).filter (onAt (edsV rs) pe.vl)) /\ Hp w235 wr [.blk X242 49 [.bool pe.a.n, .slice pe.a.p pe.a.l pe.a.c, .bool pe.a.m, .slice pe.a.p2 pe.a.l2 pe.a.c2, .bool pe.b.n, .slice pe.b.p pe.b.l pe.b.c, .bool pe.b.m, .slice pe.b.p2 pe.b.l2 pe.b.c2], .row 3 1 (.slice A5 n5 c5) (n5) (List.flatMap iC is)] /\ Dig w247 wr)
  case atStart => exact ⟨0, none, 0, 0, [], rfl, rfl, rfl, Nat.zero_le _, ⟨rfl, Nat.zero_le _⟩, rfl, H251.out, Dig.refl _⟩
  obtain ⟨i, A5, n5, c5, is, rfl, rfl, rfl, q_HIN, q_HI5, q_HIS, hh_, hd_⟩ := hrel
  generalize wr = w257 at *
  have HIN := zH q_HIN
  clear q_HIN
  have HI5 := zH q_HI5
  clear q_HI5
  have HIS := zH q_HIS
  clear q_HIS
  have H259 := zH hh_
  have D259 := zH hd_
  clear hh_ hd_ H251
  rcases emH (i < (edsV rs).length) with HIU | HIU
  ·have hiu := HIU.out
   obtain ⟨ge, rfl⟩ := HFE.out (by omega)
   obtain ⟨ex, hex_⟩ : ∃ x, (edsV rs)[i]? = some x := ⟨_, List.getElem?_eq_getElem hiu⟩
   have HEX := zH hex_
   have HBX := zH (edsV_bd HN.out ex (List.mem_of_getElem? hex_))
   have HEL := zH (HB.out.elem (f := EdE.cells) (i := 0) (by rfl) EdE.len hex_)
   clear hex_
   go_upto_region 23 with fail
   refine wl ?_
   refine zp (.bool true) (by exact ezl (e := (dec_t (by have ob0 := HI5.out; omega)))) ?_
   go_upto_region 24 with fail
   refine wl ?_
   refine zq (.int .i64 (i : Int)) ?_
   refine zp (.pointer (some ⟨ge, i * 7, none⟩)) (by exact ezi (k := i) Tryz.underlying74 (l := hiu) (f := (Nat.zero_add _).symm)) ?_
   refine zd ge (i * 7) [.int .i64 ex.a.1, .int .i64 ex.a.2, .int .i64 ex.b.1, .int .i64 ex.b.2, .int .i64 ((ex.r : Nat) : Int), .int .i64 ((ex.i : Nat) : Int), .int .i64 ((ex.n : Nat) : Int)] (range_ext HEL.out H259.out.ext) Tryz.underlying78 ?_
   refine aA' 78 [.int .i64 0, .int .i64 0, .int .i64 0, .int .i64 0, .int .i64 0, .int .i64 0, .int .i64 0] H259.out ?_
   intro X264 w265 H266 D266
   refine zq (.int .i64 (i : Int)) ?_
   refine aS' 2 [.int .i64 ex.a.1, .int .i64 ex.a.2, .int .i64 ex.b.1, .int .i64 ex.b.2, .int .i64 ((ex.r : Nat) : Int), .int .i64 ((ex.i : Nat) : Int), .int .i64 ((ex.n : Nat) : Int)] H266.out ?_
   intro w270 H271 D271
   rcases emH (conC ex pe.vl) with HCN | HCN
   ·go_upto_region 25 with fail
    refine wl ?_
    refine zI2 H271.out _ _ ?_
    have DD275 := tD (tD (tD (tD D244 D248) D259) D266) D271
    refine zc (contains17_any 24 dC ex pe _ HBX.out (OKP.out.dig DD275.out)) ?_
    rintro e w274 ⟨rfl, hx⟩
    have H276 := zH (H271.out.step hx)
    have D276 := zH (Dig.of_ext hx)
    clear hx
    refine ⟨.bool true, by rw [decide_eq_true HCN.out], ?_⟩
    try simp only [Act.put, zA, zB, zC]
    go_upto_region 26 with fail
    refine wl ?_
    refine zI2 (Hp.start _) _ (.int .i64 (i : Int)) ?_
    refine zp (w' := (w274.alloc (.cells ([.int .i64 (i : Int)] : List Value).toArray 3))) (.slice (some ⟨w274.heap.size, 0, none⟩) 1 1) (by go_simp) ?_
    refine mv_app rR _ _ _ rR elInt rR H276.out (ix := 1) rR 1 1 [.int .i64 (i : Int)] rR rfl (by simp [Value.oneCell']) (by simp [NoUL]) dC (by unfold maxLen; exact (by have ob0 := HI5.out; omega)) (by have ob0 := HI5.out; omega) ?_
    intro g281 cp282 w280 hf hh hd hg
    have Fg281 := zH hf
    clear hf
    rw [show List.flatMap iC is ++ [.int .i64 (i : Int)] = _ from flat_snoc iC _ i] at hh
    have H283 := hN hh
    have D283 := zH (hd)
    clear hh hd hg
    try simp only [Act.put, zA, zB, zC]
    refine zq (.slice (some ⟨g281, 0, none⟩) (n5 + 1) cp282) ?_
    go_upto_region 27 with fail
    refine wl ?_
    refine zp (.int .i64 ((i + 1 : Nat) : Int)) (by exact ez1 (by have ob0 := HI5.out; omega)) ?_
    refine zq (.int .i64 ((i + 1 : Nat) : Int)) ?_
    have DD288 := tD (tD (tD (tD D259 D266) D271) D276) D283
    go_wp2_with fail
    go_roundg ((edsV rs).length - (i + 1))
    case measure => exact (by have ob0 := HI5.out; omega)
    case rel => exact ⟨i + 1, some ⟨g281, 0, none⟩, (n5 + 1), cp282, is ++ [i], rfl, rfl, (by go_num), hiu, ⟨by rw [HI5.out.1]; simp, by have h_ := HI5.out.2; omega⟩, (by rw [HIS.out, onV_succ HEX.out, if_pos HCN.out]), H283.out.take 2, DD288.out⟩
   go_upto_region 25 with fail
   refine wl ?_
   refine zI2 H271.out _ _ ?_
   have DD290 := tD (tD (tD (tD D244 D248) D259) D266) D271
   refine zc (contains17_any 24 dC ex pe _ HBX.out (OKP.out.dig DD290.out)) ?_
   rintro e w289 ⟨rfl, hx⟩
   have H291 := zH (H271.out.step hx)
   have D291 := zH (Dig.of_ext hx)
   clear hx
   refine ⟨.bool false, by rw [decide_eq_false HCN.out], ?_⟩
   try simp only [Act.put, zA, zB, zC]
   go_upto_region 27 with fail
   refine wl ?_
   refine zp (.int .i64 ((i + 1 : Nat) : Int)) (by exact ez1 (by have ob0 := HI5.out; omega)) ?_
   refine zq (.int .i64 ((i + 1 : Nat) : Int)) ?_
   have DD295 := tD (tD (tD D259 D266) D271) D291
   go_wp2_with fail
   go_roundg ((edsV rs).length - (i + 1))
   case measure => exact (by have ob0 := HI5.out; omega)
   case rel => exact ⟨i + 1, A5, n5, c5, is, rfl, rfl, (by go_num), hiu, ⟨HI5.out.1, by have h_ := HI5.out.2; omega⟩, (by rw [HIS.out, onV_succ HEX.out, if_neg HCN.out, List.append_nil]), H291.out.take 2, DD295.out⟩
  have hiu := HIU.out
  have hiN := HIN.out
  obtain rfl : i = (edsV rs).length := by omega
  go_upto_region 23 with fail
  refine wl ?_
  refine zp (.bool false) (by exact ezl (e := (dec_f (Int.lt_irrefl _)))) ?_
  have hn5 := HI5.out.1
  subst hn5
  have HRI := zH (show (⟨A5, c5, is⟩ : OnE).Ok w.heap.size w257 from (H259.out.row (i := 1) (by rfl)).low HB.out.ext.size)
  have HXX := zH (HB.out.step H259.out.ext)
  have HFZ := zH (fun o_ ho_ => (HOK4.out o_ ho_).ext H259.out.ext)
  have HDX := zH (Dig.of_ext H259.out.ext)
  go_upto_region 28 with fail
  refine wl ?_
  refine zI2 (Hp.start _) _ _ ?_
  refine zp (w' := (w257.alloc (.cells ([.slice A5 is.length c5] : List Value).toArray 48))) (.slice (some ⟨w257.heap.size, 0, none⟩) 1 1) (by go_simp) ?_
  refine mv_app rR _ _ _ rR elInts rR HXX.out (ix := 2) rR 1 1 [.slice A5 is.length c5] rR rfl (by simp [Value.oneCell']) (by simp [NoUL]) dC (by unfold maxLen; exact (by omega)) (by omega) ?_
  intro g301 cp302 w300 hf hh hd hg
  have Fg301 := zH hf
  clear hf
  rw [show List.flatMap OnE.cells os ++ [.slice A5 is.length c5] = _ from flat_snoc OnE.cells _ (⟨A5, c5, is⟩ : OnE)] at hh
  have H303 := hN hh
  have D303 := zH (hd)
  have K305 := zH (show Fr (fun kz => Value.ownBlock (.slice A4 k c4) = some kz) w257 w300 from ((Fr.of_ext (G := fun kz => Value.ownBlock (.slice A4 k c4) = some kz) (Ext.refl w257)).trans (Fr.of_ext ((Ext.refl _).alloc _))).trans_new hg (fun j hj => .inl hj))
  clear hh hd hg
  try simp only [Act.put, zA, zB, zC]
  refine zq (.slice (some ⟨g301, 0, none⟩) (k + 1) cp302) ?_
  go_upto_region 29 with fail
  refine wl ?_
  refine zp (.int .i64 ((k + 1 : Nat) : Int)) (by exact ez1 (by omega)) ?_
  refine zq (.int .i64 ((k + 1 : Nat) : Int)) ?_
  go_wp2_with fail
  go_roundg (ps.length - (k + 1))
  case measure => exact (by omega)
  case rel => exact ⟨k + 1, some ⟨g301, 0, none⟩, cp302, os ++ [(⟨A5, c5, is⟩ : OnE)], rfl, rfl, (by go_num), hlt, (by rw [List.map_append, HOS.out, take_map_succ HPE.out]; rw [show is = onV (edsV rs) pe.vl from HIS.out]; rfl), (by rw [List.length_append, HOL.out]; rfl), (fun o_ ho_ => (List.mem_append.1 ho_).elim (fun h_ => (HFZ.out o_ h_).fr HXX.out (ix := 2) (by rfl) K305.out) (fun h_ => by rw [List.mem_singleton.1 h_]; exact HRI.out.fr HXX.out (ix := 2) (by rfl) K305.out)), H303.out, ((D237.out).trans (HDX.out.trans D303.out))⟩
 have hlt := HLT.out
 have hkp := HKP.out
 obtain rfl : k = ps.length := by omega
 go_upto_region 19 with fail
 refine wl ?_
 refine zp (.bool false) (by exact ezl (e := (dec_f (Int.lt_irrefl _)))) ?_
 go_upto_region 30 with fail
 refine wl ?_
 refine zI4 (Hp.start _) _ _ _ _ ?_
 have hol := HOL.out
 go_wp2_with fail
 go_ret2
 exact ⟨_, _, ps, os, rfl, H237.out.row (i := 1) (by rfl), HPS2.out.1, fun q_ => (HPS2.out.2.1 q_).trans (by rw [HES.out]; exact Iff.rfl), (fun g_ hg_ => (HOP.out g_ hg_).dig D237.out), (by have h_ := H237.out.row (i := 2) (by rfl); rw [<- hol] at h_ ⊢; exact h_), (by rw [HOS.out, List.take_length]), HOK4.out, H237.out.ext⟩
end Go.Proofs.YthdapkpmikeehacGreat
namespace Go.Proofs.YthdapkpmikeehacGreat
open Go.RowKit
attribute [local go_sem ↓] Go.wp_at_zero Go.wp_at_succ run_max_ii run_min_ii
def EvRet (a b : Int × Int) (rs : List Ring) (w : World) (e : Ending) (w' : World) : Prop :=
  ∃ (v : Value) (es : List R1E), e = .returned v /\ RowN w' w.heap.size 34 4 v es.length (es.flatMap R1E.cells) /\ (es.map R1E.q).Pairwise (· < ·) /\ (∀ x, x ∈ es.map R1E.q ↔ x ∈ evL a b rs) /\ (∀ e, e ∈ es -> e.Ok 24 w') /\ Ext w w'
def EvI (X1 X6 X42 X63 Y64 X83 X93 X155 : Nat) (a b : Int × Int) (r61 r62 : RV) (base : List Rat) (A1 : Option Addr) (m c1 : Nat) (w W1 : World) (pre : List OkE) (W : World) : Prop :=
  ∃ (A : Option Addr) (n c : Nat) (es : List R1E) (A2 : Option Addr) (c2 : Nat), Hp w W [.blk X1 24 [.int .i64 a.1, .int .i64 a.2], .blk X6 24 [.int .i64 b.1, .int .i64 b.2], .blk X42 24 [.int .i64 a.1, .int .i64 a.2, .int .i64 b.1, .int .i64 b.2], .blk X63 34 [.bool r61.n, .slice r61.p r61.l r61.c, .bool r61.m, .slice r61.p2 r61.l2 r61.c2], .blk Y64 34 [.bool r62.n, .slice r62.p r62.l r62.c, .bool r62.m, .slice r62.p2 r62.l2 r62.c2], .row 34 4 (.slice A n c) (n) (List.flatMap R1E.cells es), .blk X83 27 [.slice A n c], .blk X93 57 [.func (.func 20) #[] #[.pointer (some ⟨X63, 0, none⟩), .pointer (some ⟨Y64, 0, none⟩), .pointer (some ⟨X83, 0, none⟩)]], .blk X155 58 [.slice A2 pre.length c2], .row 59 4 (.slice A2 pre.length c2) (pre.length) (List.flatMap edC (pre.map Subtype.val))] /\ Dig W1 W /\ (∀ k, Value.ownBlock (.slice A n c) = some k -> Value.ownBlock (.slice A1 m c1) = some k \/ W1.heap.size <= k) /\ (∀ k, Value.ownBlock (.slice A2 pre.length c2) = some k -> W1.heap.size <= k) /\
    es.map R1E.q = base ++ evC a b [] (pre.map Subtype.val) /\ n = es.length /\ n <= 5000 + 5000 * pre.length /\ (∀ e, e ∈ es -> e.Ok 24 W) /\ W1.heap.size <= W.heap.size
theorem evI_own (X1 X6 X42 X63 Y64 X83 X93 X155 : Nat) (a b : Int × Int) (r61 r62 : RV) (base : List Rat) (A1 : Option Addr) (m c1 : Nat) (w W1 : World) (hw : w.heap.size <= W1.heap.size) : OwnFrom W1.heap.size (EvI X1 X6 X42 X63 Y64 X83 X93 X155 a b r61 r62 base A1 m c1 w W1) := by
 rintro s W W' row ⟨A, n, c, es, A2, c2, h1, h2, h3, h4, h5, h6, h7, h8, h9⟩ hg hr
 have d : Dig W W' := Dig.keptQ hg (fun k hk => (hr k hk).2)
 exact ⟨A, n, c, es, A2, c2, h1.keptQ hg (fun k hk => ⟨Nat.le_trans hw (hr k hk).1, (hr k hk).2⟩), h2.trans d, h3, h4, h5, h6, h7, fun e he => (h8 e he).dig d, Nat.le_trans h9 hg.size⟩
def EvA (X1 X6 X93 X155 : Nat) (W1 : World) (x : OkE) (a' : Act) (W : World) : Prop :=
  ∃ (J : Nat -> Value) (Xp Xq : Nat), Blk W Xp 24 ([.int .i64 x.1.1.1, .int .i64 x.1.1.2] : List Value).toArray /\ Blk W Xq 24 ([.int .i64 x.1.2.1, .int .i64 x.1.2.2] : List Value).toArray /\ Xp ≠ Xq /\ W1.heap.size <= Xp /\ W1.heap.size <= Xq /\ a' = { tmps := #[J 0, J 1, J 2, J 3, .pointer (some ⟨X1, 0, none⟩), .pointer (some ⟨X6, 0, none⟩), J 6, J 7, J 8, J 9, .pointer (some ⟨X93, 0, none⟩), J 11, J 12, J 13, J 14, .pointer (some ⟨X155, 0, none⟩), .pointer (some ⟨Xp, 0, none⟩), .pointer (some ⟨Xq, 0, none⟩), J 18, J 19, J 20, J 21, J 22, J 23, J 24, J 25, J 26, J 27, J 28, J 29, J 30, J 31, J 32, J 33, J 34, J 35, J 36, J 37, J 38, J 39, J 40, J 41, J 42, J 43, J 44, J 45, J 46, J 47, J 48, J 49, J 50, J 51, J 52, J 53, J 54, J 55, J 56, J 57, J 58, J 59, J 60, J 61, J 62, J 63, J 64, J 65, J 66, J 67, J 68, J 69, J 70, J 71, J 72, J 73, J 74, J 75, J 76, J 77, J 78, J 79, J 80, J 81, J 82, J 83, J 84, J 85, J 86, J 87, J 88, J 89, J 90, J 91, J 92, J 93, J 94, J 95, J 96, J 97, J 98, J 99, J 100, J 101, J 102, J 103, J 104, J 105, J 106, J 107, J 108, J 109, J 110, J 111, J 112, J 113, J 114, J 115, J 116, J 117, J 118, J 119, J 120, J 121, J 122, J 123, J 124, J 125, J 126, J 127, J 128, J 129], defers := [] }
theorem evA_own (X1 X6 X93 X155 : Nat) (W1 : World) (x : OkE) (a' : Act) : OwnFrom W1.heap.size (fun (_ : Unit) W => EvA X1 X6 X93 X155 W1 x a' W) := by
  rintro _ W W' row ⟨J, Xp, Xq, h1, h2, h3⟩ hg hr
  exact ⟨J, Xp, Xq, h1.kept hg (fun k hk => (hr k hk).2), h2.kept hg (fun k hk => (hr k hk).2), h3⟩
theorem evA_mk {X1 X6 X93 X155 Xp Xq : Nat} {W1 W : World} {x : OkE} {a' : Act} (h1 : Blk W Xp 24 ([.int .i64 x.1.1.1, .int .i64 x.1.1.2] : List Value).toArray) (h2 : Blk W Xq 24 ([.int .i64 x.1.2.1, .int .i64 x.1.2.2] : List Value).toArray) (h3 : Xp ≠ Xq) (h4 : W1.heap.size <= Xp) (h5 : W1.heap.size <= Xq)
    (h6 : a' = { tmps := #[a'.tmps.getD 0 undef, a'.tmps.getD 1 undef, a'.tmps.getD 2 undef, a'.tmps.getD 3 undef, .pointer (some ⟨X1, 0, none⟩), .pointer (some ⟨X6, 0, none⟩), a'.tmps.getD 6 undef, a'.tmps.getD 7 undef, a'.tmps.getD 8 undef, a'.tmps.getD 9 undef, .pointer (some ⟨X93, 0, none⟩), a'.tmps.getD 11 undef, a'.tmps.getD 12 undef, a'.tmps.getD 13 undef, a'.tmps.getD 14 undef, .pointer (some ⟨X155, 0, none⟩), .pointer (some ⟨Xp, 0, none⟩), .pointer (some ⟨Xq, 0, none⟩), a'.tmps.getD 18 undef, a'.tmps.getD 19 undef, a'.tmps.getD 20 undef, a'.tmps.getD 21 undef, a'.tmps.getD 22 undef, a'.tmps.getD 23 undef, a'.tmps.getD 24 undef, a'.tmps.getD 25 undef, a'.tmps.getD 26 undef, a'.tmps.getD 27 undef, a'.tmps.getD 28 undef, a'.tmps.getD 29 undef, a'.tmps.getD 30 undef, a'.tmps.getD 31 undef, a'.tmps.getD 32 undef, a'.tmps.getD 33 undef, a'.tmps.getD 34 undef, a'.tmps.getD 35 undef, a'.tmps.getD 36 undef, a'.tmps.getD 37 undef, a'.tmps.getD 38 undef, a'.tmps.getD 39 undef, a'.tmps.getD 40 undef, a'.tmps.getD 41 undef, a'.tmps.getD 42 undef, a'.tmps.getD 43 undef, a'.tmps.getD 44 undef, a'.tmps.getD 45 undef, a'.tmps.getD 46 undef, a'.tmps.getD 47 undef, a'.tmps.getD 48 undef, a'.tmps.getD 49 undef, a'.tmps.getD 50 undef, a'.tmps.getD 51 undef, a'.tmps.getD 52 undef, a'.tmps.getD 53 undef, a'.tmps.getD 54 undef, a'.tmps.getD 55 undef, a'.tmps.getD 56 undef, a'.tmps.getD 57 undef, a'.tmps.getD 58 undef, a'.tmps.getD 59 undef, a'.tmps.getD 60 undef, a'.tmps.getD 61 undef, a'.tmps.getD 62 undef, a'.tmps.getD 63 undef, a'.tmps.getD 64 undef, a'.tmps.getD 65 undef, a'.tmps.getD 66 undef, a'.tmps.getD 67 undef, a'.tmps.getD 68 undef, a'.tmps.getD 69 undef, a'.tmps.getD 70 undef, a'.tmps.getD 71 undef, a'.tmps.getD 72 undef, a'.tmps.getD 73 undef, a'.tmps.getD 74 undef, a'.tmps.getD 75 undef, a'.tmps.getD 76 undef, a'.tmps.getD 77 undef, a'.tmps.getD 78 undef, a'.tmps.getD 79 undef, a'.tmps.getD 80 undef, a'.tmps.getD 81 undef, a'.tmps.getD 82 undef, a'.tmps.getD 83 undef, a'.tmps.getD 84 undef, a'.tmps.getD 85 undef, a'.tmps.getD 86 undef, a'.tmps.getD 87 undef, a'.tmps.getD 88 undef, a'.tmps.getD 89 undef, a'.tmps.getD 90 undef, a'.tmps.getD 91 undef, a'.tmps.getD 92 undef, a'.tmps.getD 93 undef, a'.tmps.getD 94 undef, a'.tmps.getD 95 undef, a'.tmps.getD 96 undef, a'.tmps.getD 97 undef, a'.tmps.getD 98 undef, a'.tmps.getD 99 undef, a'.tmps.getD 100 undef, a'.tmps.getD 101 undef, a'.tmps.getD 102 undef, a'.tmps.getD 103 undef, a'.tmps.getD 104 undef, a'.tmps.getD 105 undef, a'.tmps.getD 106 undef, a'.tmps.getD 107 undef, a'.tmps.getD 108 undef, a'.tmps.getD 109 undef, a'.tmps.getD 110 undef, a'.tmps.getD 111 undef, a'.tmps.getD 112 undef, a'.tmps.getD 113 undef, a'.tmps.getD 114 undef, a'.tmps.getD 115 undef, a'.tmps.getD 116 undef, a'.tmps.getD 117 undef, a'.tmps.getD 118 undef, a'.tmps.getD 119 undef, a'.tmps.getD 120 undef, a'.tmps.getD 121 undef, a'.tmps.getD 122 undef, a'.tmps.getD 123 undef, a'.tmps.getD 124 undef, a'.tmps.getD 125 undef, a'.tmps.getD 126 undef, a'.tmps.getD 127 undef, a'.tmps.getD 128 undef, a'.tmps.getD 129 undef], defers := [] }) : EvA X1 X6 X93 X155 W1 x a' W := ⟨fun q => a'.tmps.getD q undef, Xp, Xq, h1, h2, h3, h4, h5, h6⟩
theorem eventYs_any (u : Value) (rs : List Ring) (a b : Int × Int) (w : World) (hu : RingsV w u rs) (hn : rs.length <= 100000) (hr : ∀ r, r ∈ rs -> r.length <= 100000) :
  Calls Tryz.prog 6 #[u, .agg #[.int .i64 a.1, .int .i64 a.2], .agg #[.int .i64 b.1, .int .i64 b.2]] w (EvRet a b rs w) := by
 have HU := zH hu
 have HN := zH hn
 have HR := zH hr
 obtain ⟨A, cu, rfl, hA⟩ := hu
 have HA := zH hA
 clear hA hr
 refine (callsIn_wide (n := 4)).1 ?_
 refine callsIn_of_wp_marks Tryz.func6 rfl trivial ?_ rfl
 simp only [Tryz.ntmps6, List.size_toArray, List.length_cons, List.length_nil, Nat.reduceAdd, Nat.reduceSub, Array.replicate_succ, Array.replicate_zero, List.push_toArray, List.append_toArray, List.nil_append, List.cons_append]
 refine wpIn_wide.2 ?_
 refine Go.Code.wp_mono bodyPostQ.m ?_
 have H0 := zH (Hp.start w)
 go_upto_region 0 with fail
 refine wl ?_
 refine aA' 24 [.int .i64 a.1, .int .i64 a.2] H0.out ?_
 intro X1 w2 H3 _
 refine aA' 24 [.int .i64 b.1, .int .i64 b.2] H3.out ?_
 intro X6 w7 H8 _
 refine zI1 (Hp.start _) _ ?_
 rcases emH (okR rs = true) with HVQ | HVQ
 ·have HV := HVQ
  rcases emH (okAll [a, b] = true) with HB | HB
  ·have HALL := HB
   rcases emH (b.2 <= a.2) with HLE | HLE
   ·go_upto_region 1 with fail
    refine wl ?_
    refine zI1 (Hp.start _) _ ?_
    refine zc (polyValid_any _ rs _ (HU.out.ext H8.out.ext) HN.out HR.out) ?_
    rintro e w16 ⟨rfl, hx⟩
    have H17 := zH (H8.out.step hx)
    clear hx
    refine ⟨.bool true, by rw [HV.out], ?_⟩
    try simp only [Act.put, zA, zB, zC]
    refine zI4 H17.out (.bool false) (.bool false) _ _ ?_
    refine aL' 2 24 [.int .i64 a.1, .int .i64 a.2, .int .i64 b.1, .int .i64 b.2] H17.out ?_
    intro X21 w22 H23 _
    refine zc (may_any (.slice (some ⟨X21, 0, none⟩) 2 2) [a, b] _ (ptsLit2 H23.out (i := 2) rR) (by simp)) ?_
    rintro e w25 ⟨rfl, hx⟩
    have H26 := zH (H23.out.step hx)
    clear hx
    refine ⟨.bool true, by rw [HALL.out], ?_⟩
    try simp only [Act.put, zA, zB, zC]
    refine zI7 H26.out (.bool false) (.bool false) (.bool false) _ _ _ _ ?_
    refine zp (.bool true) (by exact ezo (e := (dec_t (by have ob0 := HLE.out; omega)))) ?_
    refine zq (.bool true) ?_
    go_upto_region 2 with fail
    refine wl ?_
    refine zI1 (Hp.start _) _ ?_
    go_wp2_with fail
    exact ⟨_, results_tmp rfl _ _ _, _, [], rfl, RowN.nil _ _ _ _, by simp, by rw [show evL a b rs = [] from if_neg (fun h => by have h1 := h.2.2.2; have h2 := HLE.out; omega)]; simp, by simp, H26.out.ext⟩
   go_upto_region 1 with fail
   refine wl ?_
   refine zI1 (Hp.start _) _ ?_
   refine zc (polyValid_any _ rs _ (HU.out.ext H8.out.ext) HN.out HR.out) ?_
   rintro e w37 ⟨rfl, hx⟩
   have H38 := zH (H8.out.step hx)
   clear hx
   refine ⟨.bool true, by rw [HV.out], ?_⟩
   try simp only [Act.put, zA, zB, zC]
   refine zI4 H38.out (.bool false) (.bool false) _ _ ?_
   refine aL' 2 24 [.int .i64 a.1, .int .i64 a.2, .int .i64 b.1, .int .i64 b.2] H38.out ?_
   intro X42 w43 H44 _
   refine zc (may_any (.slice (some ⟨X42, 0, none⟩) 2 2) [a, b] _ (ptsLit2 H44.out (i := 2) rR) (by simp)) ?_
   rintro e w46 ⟨rfl, hx⟩
   have H47 := zH (H44.out.step hx)
   clear hx
   refine ⟨.bool true, by rw [HALL.out], ?_⟩
   try simp only [Act.put, zA, zB, zC]
   refine zI7 H47.out (.bool false) (.bool false) (.bool false) _ _ _ _ ?_
   refine zp (.bool false) (by exact ezo (e := (dec_f (by have ob0 := HLE.out; omega)))) ?_
   refine zq (.bool false) ?_
   have hok := okAll2.1 HB.out
   have oa := okP_out hok.1
   have ob := okP_out hok.2
   have HOK := zH hok
   clear hok
   go_upto_region 3 with fail
   refine zy ?_
   have H56 := zH (H47.out.step (Ext.refl w46).drew)
   refine zJ4 H47.out zb (bs 10 27) 0 1 3 4 _ _ _ _ ?_
   refine tuple2 (f := 2) 2 5 6 7 46 49 7 8 34 z4 (fun v w => ∃ c, v = .agg c /\ NIs w c (((a.2) : Int) : Rat)) (fun v w => ∃ c, v = .agg c /\ NIs w c (((b.2) : Int) : Rat)) rfl rfl rfl rfl dC dC kR (fun _ hx => zb.trans hx) (fun _ _ _ h e => by obtain ⟨c, h1, h2⟩ := h; exact ⟨c, h1, h2.ext e⟩) (fun _ _ _ h e => by obtain ⟨c, h1, h2⟩ := h; exact ⟨c, h1, h2.ext e⟩) ?ht60c1 ?ht60c2 ?ht60c3 ?ht60c4 ?ht60e _ _ _ _ kR rfl
   case ht60c1 =>
    intro v1 v2 v3 v4 w1 K hxq hSw hK
    try simp only [Act.put, zA, zB, zC]
    rw [if_pos (by rfl)]
    refine wp_call_op (by go_simp) (pFrom a.2 _ (by omega) (by omega)) ?_
    rintro e w' ⟨c_, rfl, hc_, hx⟩
    refine ⟨_, rfl, ?_⟩
    have hk := hK.out _ _ ⟨c_, rfl, hc_⟩ hx
    try simp only [Act.put, zA, zB, zC]
    simp only [Act.put, zA, zB, zC] at hk
    exact hk
   case ht60c2 =>
    intro v1 v2 v3 v4 w1 K hxq hSw hK
    try simp only [Act.put, zA, zB, zC]
    rw [if_pos (by rfl)]
    refine wp_call_op (by go_simp) (pFrom b.2 _ (by omega) (by omega)) ?_
    rintro e w' ⟨c_, rfl, hc_, hx⟩
    refine ⟨_, rfl, ?_⟩
    have hk := hK.out _ _ ⟨c_, rfl, hc_⟩ hx
    try simp only [Act.put, zA, zB, zC]
    simp only [Act.put, zA, zB, zC] at hk
    exact hk
   case ht60c3 =>
    intro v1 v2 v3 v4 w1 K hxq hSw hK
    try simp only [Act.put, zA, zB, zC]
    go_simp
    have hk := hK.out
    simp only [Act.put, zA, zB, zC] at hk
    exact hk
   case ht60c4 =>
    intro v1 v2 v3 v4 w1 K hxq hSw hK
    try simp only [Act.put, zA, zB, zC]
    go_simp
    have hk := hK.out
    simp only [Act.put, zA, zB, zC] at hk
    exact hk
   case ht60e =>
   intro v1_ v2_ X63 Y64 w65 hx hSw xp1 xp2 xb1 xb2 xz1 xz2 n12
   have hh := H56.out.add2 hx xb1 xb2 xz1 xz2 n12 (by simp [NoUL]) (by simp [NoUL])
   have H66 := hN hh
   have S68 := zH (zb.trans hx)
   have G69 := zH (Nat.le_trans zb.size xz1)
   have G70 := zH (Nat.le_trans zb.size xz2)
   obtain ⟨c_, rfl, hc_⟩ := xp1
   obtain ⟨r61, rfl, hr_⟩ := hc_
   have R61 := zH hr_
   have B61 := zH (rl_i64 a.2 (by omega) (by omega))
   clear hr_
   obtain ⟨c_, rfl, hc_⟩ := xp2
   obtain ⟨r62, rfl, hr_⟩ := hc_
   have R62 := zH hr_
   have B62 := zH (rl_i64 b.2 (by omega) (by omega))
   clear hr_ hh hx hSw xb1 xb2 xz1 xz2 n12
   (try simp only [zA, zB, zC])
   refine bS 3 8 (bs 10 511) (rc r61) H66.out S68.out G69.out ?_
   intro w71 H72 D72 S74
   refine bS 4 9 (bs 10 1023) (rc r62) H72.out S74.out G70.out ?_
   intro w75 H76 D76 S78
   refine wpAnyH_done kR ?_ _
   go_upto_region 4 with fail
   refine wl ?_
   refine zI2 H76.out _ _ ?_
   refine aL' 2 34 [.bool r61.n, .slice r61.p r61.l r61.c, .bool r61.m, .slice r61.p2 r61.l2 r61.c2, .bool r62.n, .slice r62.p r62.l r62.c, .bool r62.m, .slice r62.p2 r62.l2 r62.c2] H76.out ?_
   intro X79 w80 H81 D81
   refine aA' 27 [.slice none 0 0] H81.out ?_
   intro X83 w84 H85 D85
   refine aU' 6 (.slice (some ⟨X79, 0, none⟩) 2 2) H85.out ?_
   intro w88 H89 D89
   have H91 := zH (show Hp w w88 [.blk X1 24 [.int .i64 a.1, .int .i64 a.2], .blk X6 24 [.int .i64 b.1, .int .i64 b.2], .blk X42 24 [.int .i64 a.1, .int .i64 a.2, .int .i64 b.1, .int .i64 b.2], .blk X63 34 (rc r61), .blk Y64 34 (rc r62), ro 34 4 (some ⟨X79, 0, none⟩) 2 2 R1E.cells ([(⟨r61, (((a.2) : Int) : Rat)⟩ : R1E), (⟨r62, (((b.2) : Int) : Rat)⟩ : R1E)]), .blk X83 27 [.slice (some ⟨X79, 0, none⟩) 2 2]] from H89.out.turn (r := none) (i := 5) (e := .blk X79 34 [.bool r61.n, .slice r61.p r61.l r61.c, .bool r61.m, .slice r61.p2 r61.l2 r61.c2, .bool r62.n, .slice r62.p r62.l r62.c, .bool r62.m, .slice r62.p2 r62.l2 r62.c2]) (e' := .row 34 4 (.slice (some ⟨X79, 0, none⟩) 2 2) (2) (List.flatMap R1E.cells ([(⟨r61, (((a.2) : Int) : Rat)⟩ : R1E), (⟨r62, (((b.2) : Int) : Rat)⟩ : R1E)]))) (by rfl) (fun k h => by cases h) (World.grownBy.refl _ _) (H89.out.litRow17 (i := 5) (n := 2) (by rfl) (by rfl) (by decide)) (fun k hk => .inl hk))
   go_upto_region 5 with fail
   refine wl ?_
   refine zI1 (Hp.start _) _ ?_
   refine aA' 57 [.nilFunc] H91.out ?_
   intro X93 w94 H95 D95
   refine aU' 7 (.func (.func 20) #[] #[.pointer (some ⟨X63, 0, none⟩), .pointer (some ⟨Y64, 0, none⟩), .pointer (some ⟨X83, 0, none⟩)]) H95.out ?_
   intro w98 H99 D99
   have DD101 := tD (tD (tD (tD (tD (tD D72 D76) D81) D85) D89) D95) D99
   have HOE0 := zH (show ∀ e, e ∈ [(⟨r61, (((a.2) : Int) : Rat)⟩ : R1E), (⟨r62, (((b.2) : Int) : Rat)⟩ : R1E)] -> e.Ok 24 w98 from (by simp only [List.forall_mem_cons, List.not_mem_nil, false_imp_iff, implies_true, and_true]; exact ⟨⟨(R61.out.dig DD101.out), Nat.le_trans B61.out (by decide)⟩, ⟨(R62.out.dig DD101.out), Nat.le_trans B62.out (by decide)⟩⟩))
   go_upto_region 6 with fail
   refine wl ?_
   refine zI3 (Hp.start _) _ (.int .i64 ((rs.length : Nat) : Int)) _ ?_
   go_wp2_with fail
   go_loopg [56] (rs.length) (fun cq v105 wr => ∃ (i : Nat) (m : Nat) (es : List R1E) (A1 : Option Addr) (c1 : Nat), cq = rs.length - i /\ v105 = .int .i64 (i : Int) /\ (i <= rs.length) /\ (m = es.length /\ m <= 2 + tot (rs.take i)) /\ (es.map R1E.q = [(((a.2) : Int) : Rat), (((b.2) : Int) : Rat)] ++ evP a b (rs.take i)) /\ (∀ e, e ∈ es -> e.Ok 24 wr) /\ Hp w wr [.blk X1 24 [.int .i64 a.1, .int .i64 a.2], .blk X6 24 [.int .i64 b.1, .int .i64 b.2], .blk X42 24 [.int .i64 a.1, .int .i64 a.2, .int .i64 b.1, .int .i64 b.2], .blk X63 34 [.bool r61.n, .slice r61.p r61.l r61.c, .bool r61.m, .slice r61.p2 r61.l2 r61.c2], .blk Y64 34 [.bool r62.n, .slice r62.p r62.l r62.c, .bool r62.m, .slice r62.p2 r62.l2 r62.c2], .row 34 4 (.slice A1 m c1) (m) (List.flatMap R1E.cells es), .blk X83 27 [.slice A1 m c1], .blk X93 57 [.func (.func 20) #[] #[.pointer (some ⟨X63, 0, none⟩), .pointer (some ⟨Y64, 0, none⟩), .pointer (some ⟨X83, 0, none⟩)]]] /\ Dig w98 wr)
   case atStart => exact ⟨0, 2, [(⟨r61, (((a.2) : Int) : Rat)⟩ : R1E), (⟨r62, (((b.2) : Int) : Rat)⟩ : R1E)], some ⟨X79, 0, none⟩, 2, rfl, rfl, Nat.zero_le _, ⟨rfl, by simp [tot]⟩, rfl, HOE0.out, H99.out, Dig.refl _⟩
   obtain ⟨i, m, es, A1, c1, rfl, rfl, q_HKI, q_HM, q_HES, q_HOE, hh_, hd_⟩ := hrel
   generalize wr = w106 at *
   have HKI := zH q_HKI
   clear q_HKI
   have HM := zH q_HM
   clear q_HM
   have HES := zH q_HES
   clear q_HES
   have HOE := zH q_HOE
   clear q_HOE
   have H108 := zH hh_
   have D108 := zH hd_
   clear hh_ hd_ H99
   rcases emH (i < rs.length) with HLT | HLT
   ·have hlt := HLT.out
    obtain ⟨r, hri_⟩ : ∃ r, rs[i]? = some r := ⟨_, List.getElem?_eq_getElem hlt⟩
    have HRI := zH hri_
    have hrl := HR.out r (List.mem_of_getElem? hri_)
    obtain ⟨g, off, rfl, hp_⟩ := HA.out (by omega)
    obtain ⟨B, cb, h1_, A2_, cb2_, hv_, h2_⟩ := hp_ i r hri_
    injection hv_ with e1_ e2_ e3_
    subst e1_
    subst e3_
    have HRC := zH h1_
    have HPT := zH h2_
    clear hri_ h1_ h2_ hp_ e2_
    go_upto_region 7 with fail
    refine wl ?_
    refine zp (.bool true) (by exact ezl (e := (dec_t (by omega)))) ?_
    go_upto_region 8 with fail
    refine wl ?_
    refine zp (.pointer (some ⟨g, off + i, none⟩)) (by exact ezi (k := i) Tryz.underlying22 (l := hlt) (f := (show off + i = off + i * 1 by omega))) ?_
    refine ze g (off + i) (.slice B r.length cb) (range_one (H108.out.ext.get HRC.out)) ?_
    refine zI1 (Hp.start _) _ ?_
    go_upto_region 9 with fail
    refine wl ?_
    refine zI3 (Hp.start _) _ (.int .i64 ((r.length : Nat) : Int)) _ ?_
    have HT2 := zH (show tot (rs.take i) + r.length <= 4096 from by have h_ := tot_succ HRI.out; have h2_ := tot_take rs (i + 1); have h3_ := okR_tot HV.out; omega)
    go_wp2_with fail
    go_loopg [62] (r.length) (fun cq v116 wr => ∃ (k : Nat) (m2 : Nat) (es2 : List R1E) (A2 : Option Addr) (c2 : Nat), cq = r.length - k /\ v116 = .int .i64 (k : Int) /\ (k <= r.length) /\ (m2 = es2.length /\ m2 <= 2 + (tot (rs.take i) + k)) /\ (es2.map R1E.q = [(((a.2) : Int) : Rat), (((b.2) : Int) : Rat)] ++ evP a b (rs.take i) ++ (r.take k).flatMap (fun p => btw (((a.2) : Int) : Rat) (((b.2) : Int) : Rat) (p.2 : Rat))) /\ (∀ e, e ∈ es2 -> e.Ok 24 wr) /\ Hp w wr [.blk X1 24 [.int .i64 a.1, .int .i64 a.2], .blk X6 24 [.int .i64 b.1, .int .i64 b.2], .blk X42 24 [.int .i64 a.1, .int .i64 a.2, .int .i64 b.1, .int .i64 b.2], .blk X63 34 [.bool r61.n, .slice r61.p r61.l r61.c, .bool r61.m, .slice r61.p2 r61.l2 r61.c2], .blk Y64 34 [.bool r62.n, .slice r62.p r62.l r62.c, .bool r62.m, .slice r62.p2 r62.l2 r62.c2], .row 34 4 (.slice A2 m2 c2) (m2) (List.flatMap R1E.cells es2), .blk X83 27 [.slice A2 m2 c2], .blk X93 57 [.func (.func 20) #[] #[.pointer (some ⟨X63, 0, none⟩), .pointer (some ⟨Y64, 0, none⟩), .pointer (some ⟨X83, 0, none⟩)]]] /\ Dig w106 wr)
    case atStart => exact ⟨0, m, es, A1, c1, rfl, rfl, Nat.zero_le _, ⟨HM.out.1, HM.out.2⟩, (by rw [HES.out]; simp), (fun g_ hg_ => (HOE.out g_ hg_)), H108.out, Dig.refl _⟩
    obtain ⟨k, m2, es2, A2, c2, rfl, rfl, q_HKU, q_HM2, q_HES2, q_HOE2, hh_, hd_⟩ := hrel
    generalize wr = w117 at *
    have HKU := zH q_HKU
    clear q_HKU
    have HM2 := zH q_HM2
    clear q_HM2
    have HES2 := zH q_HES2
    clear q_HES2
    have HOE2 := zH q_HOE2
    clear q_HOE2
    have H119 := zH hh_
    have D119 := zH hd_
    clear hh_ hd_ H108
    rcases emH (k < r.length) with HLU | HLU
    ·have hlu := HLU.out
     have hr0 : r ≠ [] := by intro h_; rw [h_] at hlu; simp at hlu
     obtain ⟨gr, ofr, rfl, hpa_⟩ := HPT.out hr0
     have HPA := zH hpa_
     obtain ⟨p, hp_⟩ : ∃ p, r[k]? = some p := ⟨_, List.getElem?_eq_getElem hlu⟩
     have HPK := zH hp_
     have HPR := zH (ptAt_range hpa_ hp_)
     have HKP := zH (okR_ptk HV.out HRI.out hp_)
     have op := okP_out HKP.out
     clear hp_ hpa_
     go_upto_region 10 with fail
     refine wl ?_
     refine zp (.bool true) (by exact ezl (e := (dec_t (by omega)))) ?_
     go_upto_region 11 with fail
     refine wl ?_
     refine zp (.pointer (some ⟨gr, ofr + k * 2, none⟩)) (by exact ezi (k := k) Tryz.underlying36 (l := hlu) (f := rfl)) ?_
     refine zd gr (ofr + k * 2) [.int .i64 p.1, .int .i64 p.2] (range_ext HPR.out H119.out.ext) Tryz.underlying24 ?_
     refine aA' 24 [.int .i64 0, .int .i64 0] H119.out ?_
     intro X123 w124 H125 D125
     refine aS' 8 [.int .i64 p.1, .int .i64 p.2] H125.out ?_
     intro w128 H129 D129
     go_upto_region 12 with fail
     refine wp_region_held_drew (S := fun x => Fr (fun kz => kz = X83 \/ Value.ownBlock (.slice A2 m2 c2) = some kz) w128 x) kR (Fr.of_ext zb) (fun _ => ?_)
     have H131 := zH (H129.out.step (Ext.refl w128).drew)
     have D131 := zH (Dig.of_ext (w := w128) zb)
     refine md_ld1 (g := X93) (o := 0) (v := .func (.func 20) #[] #[.pointer (some ⟨X63, 0, none⟩), .pointer (some ⟨Y64, 0, none⟩), .pointer (some ⟨X83, 0, none⟩)]) (i := 0) (listed' := (bs 5 1)) rR kR kR kR (by intro _ _ _ h; exact h) rR (fun x hx => Fr.cell hx (show World.cell? w128 ⟨X93, 0, none⟩ = some (.func (.func 20) #[] #[.pointer (some ⟨X63, 0, none⟩), .pointer (some ⟨Y64, 0, none⟩), .pointer (some ⟨X83, 0, none⟩)]) from cell_of_range (H129.out.range (i := 7) rR 0 1)) (fun hk => hk.elim (H129.out.offBlk (i := 7) (j := 6) rR rR dC rR) (H129.out.offRow (i := 7) (j := 5) rR rR dC rR))) (by intro x hq; go_simp <;> with_reducible rfl) (Fr.of_ext zb) kR ?_
     try simp only [Act.put, zA, zB, zC]
     refine zx 1 (bs 5 3) (.pointer (some ⟨X123, 1, none⟩)) (Fr.of_ext zb) ?_
     refine md_ld1 (g := X123) (o := 1) (v := .int .i64 p.2) (i := 2) (listed' := (bs 5 7)) rR kR kR kR (by intro _ _ _ h; exact h) rR (fun x hx => Fr.cell hx (show World.cell? w128 ⟨X123, 1, none⟩ = some (.int .i64 p.2) from cell_of_range (H129.out.range (i := 8) rR 1 1)) (fun hk => hk.elim (H129.out.offBlk (i := 8) (j := 6) rR rR dC rR) (H129.out.offRow (i := 8) (j := 5) rR rR dC rR))) (by intro x hq; go_simp <;> with_reducible rfl) (Fr.of_ext zb) kR ?_
     try simp only [Act.put, zA, zB, zC]
     refine mC 3 (bs 5 15) (pFrom p.2 _ (by omega) (by omega)) ?_
     rintro e w134 ⟨c_, rfl, hc_, hx⟩
     have H136 := zH (H131.out.step hx)
     have D136 := zH (show Dig w128.drew w134 from Dig.of_ext hx)
     have S139 := zH (show Fr (fun kz => kz = X83 \/ Value.ownBlock (.slice A2 m2 c2) = some kz) w128 w134 from (Fr.of_ext zb).trans (Fr.of_ext hx))
     obtain ⟨r135, rfl, hr_⟩ := hc_
     have R135 := zH hr_
     have B135 := zH (rl_i64 p.2 (by omega) (by omega))
     clear hr_ hx
     refine zm S139.out ?_
     have DD142 := tD (tD (tD (tD (tD (tD DD101 D108) D119) D125) D129) D131) D136
     have DD143 := tD (tD (tD D125 D129) D131) D136
     refine mC 4 (bs 5 31) (put_any 24 dC r135 r61 r62 (((p.2) : Int) : Rat) (((a.2) : Int) : Rat) (((b.2) : Int) : Rat) X63 Y64 X83 A2 m2 c2 es2 w _ (H136.out.pick2 (ib := 6) (ir := 5) rR rR dC) R135.out (Nat.le_trans B135.out (by omega)) (R61.out.dig DD142.out) (R62.out.dig DD142.out) (Nat.le_trans B61.out (by omega)) (Nat.le_trans B62.out (by omega)) (H136.out.range (i := 3) rR 0 4) (H136.out.range (i := 4) rR 0 4) (fun h_ => h_.elim (H136.out.offBlk (i := 3) (j := 6) rR rR dC rR) (H136.out.offRow (i := 3) (j := 5) rR rR dC rR)) (fun h_ => h_.elim (H136.out.offBlk (i := 4) (j := 6) rR rR dC rR) (H136.out.offRow (i := 4) (j := 5) rR rR dC rR)) HM2.out.1 (by have h_ := HM2.out.2; have h2_ := HT2.out; omega) (fun g_ hg_ => (HOE2.out g_ hg_).dig DD143.out)) ?_
     rintro e w140 ⟨rfl, hkr_⟩
     unfold PutRet at hkr_
     obtain ⟨A141, c141, n141, es141, h1_, h2_, h3_, h4_, h5_, h6_, h7_, h8_⟩ := hkr_
     have HVK141 := zH h5_
     have HNK141 := zH (And.intro h6_ h7_)
     have HOK141 := zH h8_
     have HFK141 := zH h4_
     have HFP141 := zH h3_
     have H144 := zH (show Hp w w140 [.blk X1 24 [.int .i64 a.1, .int .i64 a.2], .blk X6 24 [.int .i64 b.1, .int .i64 b.2], .blk X42 24 [.int .i64 a.1, .int .i64 a.2, .int .i64 b.1, .int .i64 b.2], .blk X63 34 (rc r61), .blk Y64 34 (rc r62), ro 34 4 A141 n141 c141 R1E.cells es141, .blk X83 27 [.slice A141 n141 c141], .blk X93 57 [.func (.func 20) #[] #[.pointer (some ⟨X63, 0, none⟩), .pointer (some ⟨Y64, 0, none⟩), .pointer (some ⟨X83, 0, none⟩)]], .blk X123 24 [.int .i64 p.1, .int .i64 p.2]] from H136.out.call2 (ib := 6) (ir := 5) (e := .blk X83 27 [.slice A2 m2 c2]) (f := .row 34 4 (.slice A2 m2 c2) (m2) (List.flatMap R1E.cells es2)) (e' := .blk X83 27 [.slice A141 n141 c141]) (f' := .row 34 4 (.slice A141 n141 c141) (n141) (List.flatMap R1E.cells es141)) (by rfl) (by rfl) (by decide) h3_ (fun k_ hk_ => hk_.elim (fun h_ => .inl (by rw [h_]; rfl)) .inr) h1_ (fun k_ hk_ => .inl hk_) h4_)
     have D144 := zH (show Dig w134 w140 from h2_)
     clear h1_ h2_ h4_ h5_ h6_ h7_ h8_
     have hx := True.intro
     have S146 := zH (S139.out.trans (h3_))
     clear hx
     refine zm S146.out ?_
     refine wpAnyH_done kR ?_ _
     go_upto_region 13 with fail
     refine wl ?_
     refine zp (.int .i64 ((k + 1 : Nat) : Int)) (by exact ez1 (by omega)) ?_
     refine zq (.int .i64 ((k + 1 : Nat) : Int)) ?_
     have DD149 := tD (tD (tD (tD (tD D119 D125) D129) D131) D136) D144
     go_wp2_with fail
     go_roundg (r.length - (k + 1))
     case measure => exact (by omega)
     case rel => exact ⟨k + 1, n141, es141, A141, c141, rfl, (by go_num), hlu, ⟨HNK141.out.1, by have h_ := HNK141.out.2; have h2_ := HM2.out.2; omega⟩, (by rw [HVK141.out, HES2.out, ringP_snoc HPK.out, <- List.append_assoc]; rfl), (fun g_ hg_ => (HOK141.out g_ hg_)), H144.out.take 8, DD149.out⟩
    have hlu := HLU.out
    have hku := HKU.out
    obtain rfl : k = r.length := by omega
    go_upto_region 10 with fail
    refine wl ?_
    refine zp (.bool false) (by exact ezl (e := (dec_f (Int.lt_irrefl _)))) ?_
    go_upto_region 14 with fail
    refine wl ?_
    refine zp (.int .i64 ((i + 1 : Nat) : Int)) (by exact ez1 (by omega)) ?_
    refine zq (.int .i64 ((i + 1 : Nat) : Int)) ?_
    have DD153 := tD D108 D119
    go_wp2_with fail
    go_roundg (rs.length - (i + 1))
    case measure => exact (by omega)
    case rel => exact ⟨i + 1, m2, es2, A2, c2, rfl, (by go_num), hlt, ⟨HM2.out.1, by have h_ := HM2.out.2; have h2_ := tot_succ HRI.out; omega⟩, (by rw [HES2.out, List.take_length, evP_take HRI.out, List.append_assoc]), (fun g_ hg_ => (HOE2.out g_ hg_)), H119.out, DD153.out⟩
   have hlt := HLT.out
   have hki := HKI.out
   obtain rfl : i = rs.length := by omega
   go_upto_region 7 with fail
   refine wl ?_
   refine zp (.bool false) (by exact ezl (e := (dec_f (Int.lt_irrefl _)))) ?_
   go_upto_region 15 with fail
   refine wl ?_
   refine aA' 58 [.slice none 0 0] H108.out ?_
   intro X155 w156 H157 D157
   have H160 := zH (show Hp w w156 [.blk X1 24 [.int .i64 a.1, .int .i64 a.2], .blk X6 24 [.int .i64 b.1, .int .i64 b.2], .blk X42 24 [.int .i64 a.1, .int .i64 a.2, .int .i64 b.1, .int .i64 b.2], .blk X63 34 (rc r61), .blk Y64 34 (rc r62), ro 34 4 A1 m c1 R1E.cells es, .blk X83 27 [.slice A1 m c1], .blk X93 57 [.func (.func 20) #[] #[.pointer (some ⟨X63, 0, none⟩), .pointer (some ⟨Y64, 0, none⟩), .pointer (some ⟨X83, 0, none⟩)]], .blk X155 58 [.slice none 0 0], ro 59 4 none 0 0 edC ([])] from H157.out.addNil 59 4)
   go_upto_region 16 with fail
   refine wl ?_
   refine zI1 (Hp.start _) _ ?_
   refine zc (edges_any _ rs _ (HU.out.ext H160.out.ext) HN.out HR.out) ?_
   rintro e w162 ⟨Bx, ve, rfl, hB1, hB2, hcell, hR, hx⟩
   have HB1 := zH hB1
   have HB2 := zH hB2
   have HCL := zH hcell
   rw [if_pos HV.out] at hR
   have HRG := zH hR
   clear hB1 hcell hR
   have H163 := zH (H160.out.step hx)
   have D163 := zH (Dig.of_ext hx)
   clear hx
   refine zn ?_
   have hbo := H160.out.lt (i := 6) (k := X83) (by rfl) rfl
   have hbe := H160.out.lt (i := 8) (k := X155) (by rfl) rfl
   have hbr := fun k (hk : Value.ownBlock (.slice A1 m c1) = some k) => H160.out.lt (i := 5) (k := k) (by rfl) (by exact hk)
   have HRF := zH (show RingsO (fun k => ¬ (fun k => k = X83 \/ k = X155 \/ Value.ownBlock (.slice A1 m c1) = some k \/ w162.heap.size <= k) k) w162 ve rs from HRG.out.imp (fun k h hk => by rcases hk with rfl | rfl | hk | hk; omega; omega; have h2 := hbr k hk; omega; omega))
   have HWS := zH (show w.heap.size <= w162.heap.size from H163.out.ext.size)
   have hgb : ¬ (fun k => k = X83 \/ k = X155 \/ Value.ownBlock (.slice A1 m c1) = some k \/ w162.heap.size <= k) Bx := fun hk => by have h1 := HB1.out; have h9 := HB2.out; rcases hk with hk | hk | hk | hk; omega; omega; have h2 := hbr _ hk; omega; omega
   have DD165 := tD D157 D163
   have DD166 := tD (tD (tD DD101 D108) D157) D163
   have HOLD0 := zH (H163.out.lt (i := 0) (k := X1) (by rfl) rfl)
   have HOLD1 := zH (H163.out.lt (i := 1) (k := X6) (by rfl) rfl)
   have HOLD2 := zH (H163.out.lt (i := 2) (k := X42) (by rfl) rfl)
   go_wp2_with fail
   refine wpIn_wide.1 (edges_loop (n := 4) (by omega) (fun k => k = X83 \/ k = X155 \/ Value.ownBlock (.slice A1 m c1) = some k \/ w162.heap.size <= k) Bx ve rs rR HCL.out hgb HRF.out HN.out HV.out (fun k h => .inr (.inr (.inr h))) (EvI X1 X6 X42 X63 Y64 X83 X93 X155 a b r61 r62 (es.map R1E.q) A1 m c1 w w162) (evI_own X1 X6 X42 X63 Y64 X83 X93 X155 a b r61 r62 (es.map R1E.q) A1 m c1 w w162 HWS.out) ⟨A1, m, c1, es, none, 0, H163.out, Dig.refl _, fun k hk => .inl hk, by simp [Value.ownBlock], by simp [evC], HM.out.1, by have h1 := HM.out.2; have h2 := tot_take rs rs.length; have h3 := okR_tot HV.out; omega, (fun g_ hg_ => (HOE.out g_ hg_).dig DD165.out), Nat.le_refl _⟩ (EvA X1 X6 X93 X155 w162) (evA_own X1 X6 X93 X155 w162) ?assign ?body ?done)
   case assign =>
    intro l pre x W K hi hK
    obtain ⟨A, n, c, es2, A2, c2, hh, hd, hf1, hf2, hvl, hnl, hnp, hok, hsz⟩ := hi
    have HSZ := zH hsz
    have H0 := zH hh
    have HK := zH hK
    have HF := zH (And.intro hf1 (And.intro hf2 (And.intro hvl (And.intro hnl hnp))))
    have HOKS := zH hok
    have HD := zH hd
    clear hsz hh hK hf1 hf2 hok hvl hnl hnp hd
    unfold ptVal2
    simp only [zA, zB, zC]
    refine wpIn_seq ?_
    refine wpIn_region_plain kR (fun ⟨_, _, h⟩ => h) ?_
    refine aA 24 [.int .i64 0, .int .i64 0] H0.out ?_
    intro X167 w168 H170 hx hge
    have Q169 := zH (show W.heap.size <= X167 from Nat.le_trans (Fr.of_ext (G := fun kz => False) (Ext.refl W)).size hge)
    have D170 := zH (Dig.of_ext hx)
    have K172 := zH (show Fr (fun kz => False) W w168 from (Fr.of_ext (G := fun kz => False) (Ext.refl W)).trans (Fr.of_ext hx))
    clear hx hge
    refine aS 10 [.int .i64 x.1.1.1, .int .i64 x.1.1.2] H170.out ?_
    intro w174 H175 hd ho
    have D175 := zH (hd)
    have K177 := zH (K172.out.trans_new ho (fun j hj => .inr (by injection hj with hj; rw [<- hj]; exact Q169.out)))
    clear hd ho
    refine wpIn_region_plain kR (fun ⟨_, _, h⟩ => h) ?_
    refine aA 24 [.int .i64 0, .int .i64 0] H175.out ?_
    intro X178 w179 H181 hx hge
    have Q180 := zH (Nat.le_trans K177.out.size hge)
    have D181 := zH (Dig.of_ext hx)
    have K183 := zH (K177.out.trans (Fr.of_ext hx))
    clear hx hge
    refine aS 11 [.int .i64 x.1.2.1, .int .i64 x.1.2.2] H181.out ?_
    intro w185 H186 hd ho
    have D186 := zH (hd)
    have K188 := zH (K183.out.trans_new ho (fun j hj => .inr (by injection hj with hj; rw [<- hj]; exact Q180.out)))
    clear hd ho
    refine HK.out _ _ (KeepsFrom.of_fr K188.out (fun _ h => h.elim)) (K188.out.imp (fun _ h => h.elim)) ⟨A, n, c, es2, A2, c2, H186.out.take 10, HD.out.trans (((D170.out.trans D175.out).trans D181.out).trans D186.out), HF.out.1, HF.out.2.1, HF.out.2.2.1, HF.out.2.2.2.1, HF.out.2.2.2.2, fun e he => (HOKS.out e he).dig (((D170.out.trans D175.out).trans D181.out).trans D186.out), Nat.le_trans HSZ.out K188.out.size⟩ (evA_mk (H186.out.blk (i := 10) rR) (H186.out.blk (i := 11) rR) ?_ (Nat.le_trans HSZ.out Q169.out) (Nat.le_trans HSZ.out Q180.out) rR)
    exact fun e => H186.out.apart 10 11 _ _ (by rfl) (by rfl) (by decide) X167 (by rfl) (by rw [e]; rfl)
   case body =>
    intro l pre x a' W hi hax hlen
    obtain ⟨A, n, c, es2, A2, c2, hh, hd, hf1, hf2, hvl, hnl, hnp, hok, hsz⟩ := hi
    obtain ⟨J, Xp, Xq, hba, hbb, hne, hga, hgb2, rfl⟩ := hax
    have HSZ := zH hsz
    have HD := zH hd
    have HF1 := zH hf1
    have HF2 := zH hf2
    have HVL := zH hvl
    have HNL := zH hnl
    have HNP := zH hnp
    have HOKS := zH hok
    have HOX := zH x.2
    have H0 := zH (show Hp w W [.blk X1 24 [.int .i64 a.1, .int .i64 a.2], .blk X6 24 [.int .i64 b.1, .int .i64 b.2], .blk X42 24 [.int .i64 a.1, .int .i64 a.2, .int .i64 b.1, .int .i64 b.2], .blk X63 34 (rc r61), .blk Y64 34 (rc r62), ro 34 4 A n c R1E.cells es2, .blk X83 27 [.slice A n c], .blk X93 57 [.func (.func 20) #[] #[.pointer (some ⟨X63, 0, none⟩), .pointer (some ⟨Y64, 0, none⟩), .pointer (some ⟨X83, 0, none⟩)]], .blk X155 58 [.slice A2 pre.length c2], ro 59 4 A2 pre.length c2 edC (pre.map Subtype.val), .blk Xp 24 [.int .i64 x.1.1.1, .int .i64 x.1.1.2], .blk Xq 24 [.int .i64 x.1.2.1, .int .i64 x.1.2.2]] from hh.addTyp3 hba hbb hne HWS.out hga hgb2 (by simp [NoUL]) (by simp [NoUL]) (by simp only [List.forall_mem_cons, List.not_mem_nil, false_imp_iff, implies_true, and_true]; exact ⟨.inr (fun k hk => by injection hk with hk; rw [<- hk]; exact HOLD0.out), .inr (fun k hk => by injection hk with hk; rw [<- hk]; exact HOLD1.out), .inr (fun k hk => by injection hk with hk; rw [<- hk]; exact HOLD2.out), .inl (by simp [Ent.typ]), .inl (by simp [Ent.typ]), .inl (by simp [Ent.typ]), .inl (by simp [Ent.typ]), .inl (by simp [Ent.typ]), .inl (by simp [Ent.typ]), .inl (by simp [Ent.typ])⟩))
    have HLEN := zH hlen
    obtain ⟨o2, ho2_⟩ : ∃ o2, o2 = Value.ownBlock (.slice A2 pre.length c2) := ⟨_, rfl⟩
    have HO2 := zH ho2_
    clear ho2_
    have HLO := zH (R61.out.dig ((DD166.out).trans HD.out))
    have HHI := zH (R62.out.dig ((DD166.out).trans HD.out))
    have HFR := zH (show Fr (fun kz => kz = X83 \/ kz = X155 \/ Value.ownBlock (.slice A n c) = some kz \/ o2 = some kz) W W from Fr.of_ext (Ext.refl W))
    clear hh hd hf1 hf2 hvl hnl hnp hok hsz hba hbb hne hga hgb2
    gi_upto_region 19 with fail
    refine wpIn_region_plain kR (fun ⟨_, _, h⟩ => h) ?_
    refine zI4 H0.out _ _ _ _ ?_
    refine aL 2 3 [.int .i64 a.1, .int .i64 b.1] H0.out ?_
    intro X191 w192 H193 hx hge
    have D193 := zH (Dig.of_ext hx)
    have K195 := zH (HFR.out.trans (Fr.of_ext hx))
    clear hx hge
    refine zI2 (Hp.start _) _ _ ?_
    refine wpList_nil ?_
    skip
    gi_wp2_with fail
    gi_loopg [83] (2) (fun cq v198 wr => ∃ (kx : Nat) (A3 : Option Addr) (n3 : Nat) (c3 : Nat) (es3 : List R1E), cq = 2 - kx /\ v198 = .int .i64 (kx : Int) /\ (kx <= 2) /\ (n3 = es3.length /\ n3 <= n + kx) /\ (es3.map R1E.q = (es.map R1E.q) ++ evC a b [] (pre.map Subtype.val) ++ yatP a b x.1 kx) /\ (∀ e, e ∈ es3 -> e.Ok 24 wr) /\ ((∀ k, Value.ownBlock (.slice A3 n3 c3) = some k -> Value.ownBlock (.slice A n c) = some k \/ W.heap.size <= k)) /\ (Fr (fun kz => kz = X83 \/ kz = X155 \/ Value.ownBlock (.slice A n c) = some kz \/ o2 = some kz) W wr) /\ Hp w wr [.blk X1 24 [.int .i64 a.1, .int .i64 a.2], .blk X6 24 [.int .i64 b.1, .int .i64 b.2], .blk X42 24 [.int .i64 a.1, .int .i64 a.2, .int .i64 b.1, .int .i64 b.2], .blk X63 34 [.bool r61.n, .slice r61.p r61.l r61.c, .bool r61.m, .slice r61.p2 r61.l2 r61.c2], .blk Y64 34 [.bool r62.n, .slice r62.p r62.l r62.c, .bool r62.m, .slice r62.p2 r62.l2 r62.c2], .row 34 4 (.slice A3 n3 c3) (n3) (List.flatMap R1E.cells es3), .blk X83 27 [.slice A3 n3 c3], .blk X93 57 [.func (.func 20) #[] #[.pointer (some ⟨X63, 0, none⟩), .pointer (some ⟨Y64, 0, none⟩), .pointer (some ⟨X83, 0, none⟩)]], .blk X155 58 [.slice A2 pre.length c2], .row 59 4 (.slice A2 pre.length c2) (pre.length) (List.flatMap edC (pre.map Subtype.val)), .blk Xp 24 [.int .i64 x.1.1.1, .int .i64 x.1.1.2], .blk Xq 24 [.int .i64 x.1.2.1, .int .i64 x.1.2.2], .blk X191 3 [.int .i64 a.1, .int .i64 b.1]] /\ Dig w192 wr)
    case atStart => exact ⟨0, A, n, c, es2, rfl, rfl, (by omega), ⟨HNL.out, by omega⟩, (by rw [HVL.out]; simp [yatP]), (fun g_ hg_ => (HOKS.out g_ hg_).dig D193.out), (fun k hk => .inl hk), K195.out, H193.out, Dig.refl _⟩
    obtain ⟨kx, A3, n3, c3, es3, rfl, rfl, q_HKX, q_HM3, q_HES3, q_HOE3, q_HO3, q_HFR, hh_, hd_⟩ := hrel
    generalize wr = w199 at *
    have HKX := zH q_HKX
    clear q_HKX
    have HM3 := zH q_HM3
    clear q_HM3
    have HES3 := zH q_HES3
    clear q_HES3
    have HOE3 := zH q_HOE3
    clear q_HOE3
    have HO3 := zH q_HO3
    clear q_HO3
    have HFR := zH q_HFR
    clear q_HFR
    have H201 := zH hh_
    have D201 := zH hd_
    clear hh_ hd_ H193
    rcases emH (kx < 2) with HKT | HKT
    ·obtain ⟨xv, hxv⟩ : ∃ xv, xv = if kx = 0 then a.1 else b.1 := ⟨_, rfl⟩
     have HXV := zH hxv
     clear hxv
     have hxb : -1048576 <= xv /\ xv <= 1048576 := by rw [HXV.out]; split <;> omega
     have HXB := zH hxb
     clear hxb
     gi_upto_region 20 with fail
     refine wpIn_region_plain kR (fun ⟨_, _, h⟩ => h) ?_
     refine zp (.bool true) (by exact ezl (e := (dec_t (by have ob0 := HLEN.out; have ob1 := HKT.out; omega)))) ?_
     refine wpList_nil ?_
     gi_upto_region 21 with fail
     refine wpIn_region_plain kR (fun ⟨_, _, h⟩ => h) ?_
     refine zp (.pointer (some ⟨X191, kx, none⟩)) (by exact ezi (k := kx) Tryz.underlying48 (l := (by have h_ := HKT.out; omega)) (f := (show kx = 0 + kx * 1 by omega))) ?_
     refine ze X191 kx (.int .i64 xv) (by rw [HXV.out]; exact lit2_get H201.out (i := 12) rR kx HKT.out) ?_
     refine zq (.int .i64 xv) ?_
     refine wpList_nil ?_
     rcases emH (yatC x.1.1 x.1.2 xv) with HYC | HYC
     ·gi_upto_region 22 with fail
      refine wpIn_region_plain kR (fun ⟨_, _, h⟩ => h) ?_
      refine zd Xp (0) [.int .i64 x.1.1.1, .int .i64 x.1.1.2] (H201.out.range (i := 10) rR 0 2) Tryz.underlying24 ?_
      refine zd Xq (0) [.int .i64 x.1.2.1, .int .i64 x.1.2.2] (H201.out.range (i := 11) rR 0 2) Tryz.underlying24 ?_
      refine qV (.int .i64 xv) ?_
      refine zc (((yat_any x.1.1 x.1.2 xv _ (by have h_ := HXB.out; omega)).mono (fun _ _ h_ => AtRet.yes h_ HYC.out))) ?_
      rintro e w208 ⟨r209, rfl, hr_, hx⟩
      have H210 := zH (H201.out.step hx)
      have D210 := zH (Dig.of_ext hx)
      have K212 := zH (HFR.out.trans (Fr.of_ext hx))
      have R209 := zH hr_
      have B209 := zH (rl_yat (x := xv) HYC.out.1 HYC.out.2.1 HXB.out)
      clear hr_ hx
      refine zn ?_
      refine zI3 (Hp.start _) _ _ (.bool true) ?_
      refine aA 34 rz H210.out ?_
      intro X216 w217 H219 hx hge
      have Q218 := zH (Nat.le_trans K212.out.size hge)
      have D219 := zH (Dig.of_ext hx)
      have K221 := zH (K212.out.trans (Fr.of_ext hx))
      clear hx hge
      refine aS 13 (rc r209) H219.out ?_
      intro w223 H224 hd ho
      have D224 := zH (hd)
      have K226 := zH (K221.out.trans_new ho (fun j hj => .inr (by injection hj with hj; rw [<- hj]; exact Q218.out)))
      clear hd ho
      refine zq (.bool true) ?_
      refine wpList_nil ?_
      gi_upto_region 23 with fail
      refine wpIn_region_plain kR (fun ⟨_, _, h⟩ => h) ?_
      refine zq (.bool true) ?_
      refine wpList_nil ?_
      gi_upto_region 24 with fail
      refine wpIn_region_plain kR (fun ⟨_, _, h⟩ => h) ?_
      refine zI2 H224.out _ _ ?_
      have DD231 := tD D219 D224
      have DD232 := tD (tD (tD (tD D193 D201) D210) D219) D224
      have DD233 := tD (tD D210 D219) D224
      refine zc (put_any 24 dC r209 r61 r62 (yatQ x.1.1 x.1.2 xv) (((a.2) : Int) : Rat) (((b.2) : Int) : Rat) X63 Y64 X83 A3 n3 c3 es3 w _ (H224.out.pick2 (ib := 6) (ir := 5) rR rR dC) (R209.out.dig DD231.out) (Nat.le_trans B209.out (by omega)) (HLO.out.dig DD232.out) (HHI.out.dig DD232.out) (Nat.le_trans B61.out (by omega)) (Nat.le_trans B62.out (by omega)) (H224.out.range (i := 3) rR 0 4) (H224.out.range (i := 4) rR 0 4) (fun h_ => h_.elim (H224.out.offBlk (i := 3) (j := 6) rR rR dC rR) (H224.out.offRow (i := 3) (j := 5) rR rR dC rR)) (fun h_ => h_.elim (H224.out.offBlk (i := 4) (j := 6) rR rR dC rR) (H224.out.offRow (i := 4) (j := 5) rR rR dC rR)) HM3.out.1 (by have h_ := HM3.out.2; have h2_ := HNP.out; have h3_ := HLEN.out; have h4_ := HKT.out; omega) (fun g_ hg_ => (HOE3.out g_ hg_).dig DD233.out)) ?_
      rintro e w229 ⟨rfl, hkr_⟩
      unfold PutRet at hkr_
      obtain ⟨A230, c230, n230, es230, h1_, h2_, h3_, h4_, h5_, h6_, h7_, h8_⟩ := hkr_
      have HVK230 := zH h5_
      have HNK230 := zH (And.intro h6_ h7_)
      have HOK230 := zH h8_
      have HFK230 := zH h4_
      have HFP230 := zH h3_
      have H234 := zH (show Hp w w229 [.blk X1 24 [.int .i64 a.1, .int .i64 a.2], .blk X6 24 [.int .i64 b.1, .int .i64 b.2], .blk X42 24 [.int .i64 a.1, .int .i64 a.2, .int .i64 b.1, .int .i64 b.2], .blk X63 34 (rc r61), .blk Y64 34 (rc r62), ro 34 4 A230 n230 c230 R1E.cells es230, .blk X83 27 [.slice A230 n230 c230], .blk X93 57 [.func (.func 20) #[] #[.pointer (some ⟨X63, 0, none⟩), .pointer (some ⟨Y64, 0, none⟩), .pointer (some ⟨X83, 0, none⟩)]], .blk X155 58 [.slice A2 pre.length c2], ro 59 4 A2 pre.length c2 edC (pre.map Subtype.val), .blk Xp 24 [.int .i64 x.1.1.1, .int .i64 x.1.1.2], .blk Xq 24 [.int .i64 x.1.2.1, .int .i64 x.1.2.2], .blk X191 3 [.int .i64 a.1, .int .i64 b.1], .blk X216 34 (rc r209)] from H224.out.call2 (ib := 6) (ir := 5) (e := .blk X83 27 [.slice A3 n3 c3]) (f := .row 34 4 (.slice A3 n3 c3) (n3) (List.flatMap R1E.cells es3)) (e' := .blk X83 27 [.slice A230 n230 c230]) (f' := .row 34 4 (.slice A230 n230 c230) (n230) (List.flatMap R1E.cells es230)) (by rfl) (by rfl) (by decide) h3_ (fun k_ hk_ => hk_.elim (fun h_ => .inl (by rw [h_]; rfl)) .inr) h1_ (fun k_ hk_ => .inl hk_) h4_)
      have D234 := zH (show Dig w223 w229 from h2_)
      have K236 := zH (K226.out.trans_fr HFP230.out (fun k hk => hk.elim (fun h => .inl (.inl h)) (fun hk => (HO3.out k hk).elim (fun h => .inl (.inr (.inr (.inl h)))) .inr)))
      clear h1_ h2_ h4_ h5_ h6_ h7_ h8_
      have hx := True.intro
      clear hx
      refine zn ?_
      refine wpList_nil ?_
      gi_upto_region 25 with fail
      refine wpIn_region_plain kR (fun ⟨_, _, h⟩ => h) ?_
      refine zp (.int .i64 ((kx + 1 : Nat) : Int)) (by exact ez1 (by have ob0 := HLEN.out; have ob1 := HKT.out; have ob2 := HXB.out; omega)) ?_
      refine zq (.int .i64 ((kx + 1 : Nat) : Int)) ?_
      refine wpList_nil ?_
      have DD239 := tD (tD (tD (tD D201 D210) D219) D224) D234
      gi_wp2_with fail
      go_roundg (2 - (kx + 1))
      case measure => exact (by have ob0 := HLEN.out; have ob1 := HKT.out; have ob2 := HXB.out; have ob4 := (show kx < 2 from HKT.out); omega)
      case rel => exact ⟨kx + 1, A230, n230, c230, es230, rfl, (by go_num), (by have h_ := HKT.out; omega), ⟨HNK230.out.1, by have h_ := HNK230.out.2; have h2_ := HM3.out.2; omega⟩, (by rw [HVK230.out, HES3.out, yatP_succ _ _ _ _ HKT.out, <- HXV.out, yatL_yes HYC.out, List.append_assoc]; simp [btw]), (fun g_ hg_ => (HOK230.out g_ hg_)), (fun k_ hk_ => (HFK230.out k_ hk_).elim (fun h_ => HO3.out k_ h_) (fun h_ => .inr (Nat.le_trans K226.out.size h_))), K236.out, H234.out.take 13, DD239.out⟩
     gi_upto_region 22 with fail
     refine wpIn_region_plain kR (fun ⟨_, _, h⟩ => h) ?_
     refine zd Xp (0) [.int .i64 x.1.1.1, .int .i64 x.1.1.2] (H201.out.range (i := 10) rR 0 2) Tryz.underlying24 ?_
     refine zd Xq (0) [.int .i64 x.1.2.1, .int .i64 x.1.2.2] (H201.out.range (i := 11) rR 0 2) Tryz.underlying24 ?_
     refine qV (.int .i64 xv) ?_
     refine zc (((yat_any x.1.1 x.1.2 xv _ (by have h_ := HXB.out; omega)).mono (fun _ _ h_ => AtRet.no h_ HYC.out))) ?_
     rintro e w241 ⟨rfl, hx⟩
     have H242 := zH (H201.out.step hx)
     have D242 := zH (Dig.of_ext hx)
     have K244 := zH (HFR.out.trans (Fr.of_ext hx))
     clear hx
     refine zn ?_
     refine zI3 (Hp.start _) _ _ (.bool false) ?_
     refine aA 34 rz H242.out ?_
     intro X248 w249 H251 hx hge
     have Q250 := zH (Nat.le_trans K244.out.size hge)
     have D251 := zH (Dig.of_ext hx)
     have K253 := zH (K244.out.trans (Fr.of_ext hx))
     clear hx hge
     refine aS 13 rz H251.out ?_
     intro w255 H256 hd ho
     have D256 := zH (hd)
     have K258 := zH (K253.out.trans_new ho (fun j hj => .inr (by injection hj with hj; rw [<- hj]; exact Q250.out)))
     clear hd ho
     refine zq (.bool false) ?_
     refine wpList_nil ?_
     gi_upto_region 23 with fail
     refine wpIn_region_plain kR (fun ⟨_, _, h⟩ => h) ?_
     refine zq (.bool false) ?_
     refine wpList_nil ?_
     gi_upto_region 25 with fail
     refine wpIn_region_plain kR (fun ⟨_, _, h⟩ => h) ?_
     refine zp (.int .i64 ((kx + 1 : Nat) : Int)) (by exact ez1 (by have ob0 := HLEN.out; have ob1 := HKT.out; have ob2 := HXB.out; omega)) ?_
     refine zq (.int .i64 ((kx + 1 : Nat) : Int)) ?_
     refine wpList_nil ?_
     have DD263 := tD (tD D242 D251) D256
     have DD264 := tD (tD (tD D201 D242) D251) D256
     gi_wp2_with fail
     go_roundg (2 - (kx + 1))
     case measure => exact (by have ob0 := HLEN.out; have ob1 := HKT.out; have ob2 := HXB.out; have ob4 := (show kx < 2 from HKT.out); omega)
     case rel => exact ⟨kx + 1, A3, n3, c3, es3, rfl, (by go_num), (by have h_ := HKT.out; omega), ⟨HM3.out.1, by have h_ := HM3.out.2; omega⟩, (by rw [HES3.out, yatP_succ _ _ _ _ HKT.out, <- HXV.out, yatL_no HYC.out]; simp), (fun g_ hg_ => (HOE3.out g_ hg_).dig DD263.out), HO3.out, K258.out, H256.out.take 13, DD264.out⟩
    obtain rfl : kx = 2 := by have h_ := HKX.out; have h2_ := HKT.out; omega
    gi_upto_region 20 with fail
    refine wpIn_region_plain kR (fun ⟨_, _, h⟩ => h) ?_
    refine zp (.bool false) (by exact ezl (e := (dec_f dC))) ?_
    refine wpList_nil ?_
    gi_upto_region 26 with fail
    refine wpIn_region_plain kR (fun ⟨_, _, h⟩ => h) ?_
    refine zI3 H201.out _ (.int .i64 ((pre.length : Nat) : Int)) _ ?_
    refine wpList_nil ?_
    skip
    gi_wp2_with fail
    gi_loopg [101] (pre.length) (fun cq v268 wr => ∃ (i2 : Nat) (A4 : Option Addr) (n4 : Nat) (c4 : Nat) (es4 : List R1E), cq = pre.length - i2 /\ v268 = .int .i64 (i2 : Int) /\ (i2 <= pre.length) /\ (n4 = es4.length /\ n4 <= n + 2 + i2) /\ (es4.map R1E.q = (es.map R1E.q) ++ evC a b [] (pre.map Subtype.val) ++ ((yatL x.1 a.1).flatMap (btw a.2 b.2) ++ (yatL x.1 b.1).flatMap (btw a.2 b.2)) ++ ((pre.map Subtype.val).take i2).flatMap (fun o => (segL o x.1).flatMap (btw a.2 b.2))) /\ (∀ e, e ∈ es4 -> e.Ok 24 wr) /\ ((∀ k, Value.ownBlock (.slice A4 n4 c4) = some k -> Value.ownBlock (.slice A n c) = some k \/ W.heap.size <= k)) /\ (Fr (fun kz => kz = X83 \/ kz = X155 \/ Value.ownBlock (.slice A n c) = some kz \/ o2 = some kz) W wr) /\ Hp w wr [.blk X1 24 [.int .i64 a.1, .int .i64 a.2], .blk X6 24 [.int .i64 b.1, .int .i64 b.2], .blk X42 24 [.int .i64 a.1, .int .i64 a.2, .int .i64 b.1, .int .i64 b.2], .blk X63 34 [.bool r61.n, .slice r61.p r61.l r61.c, .bool r61.m, .slice r61.p2 r61.l2 r61.c2], .blk Y64 34 [.bool r62.n, .slice r62.p r62.l r62.c, .bool r62.m, .slice r62.p2 r62.l2 r62.c2], .row 34 4 (.slice A4 n4 c4) (n4) (List.flatMap R1E.cells es4), .blk X83 27 [.slice A4 n4 c4], .blk X93 57 [.func (.func 20) #[] #[.pointer (some ⟨X63, 0, none⟩), .pointer (some ⟨Y64, 0, none⟩), .pointer (some ⟨X83, 0, none⟩)]], .blk X155 58 [.slice A2 pre.length c2], .row 59 4 (.slice A2 pre.length c2) (pre.length) (List.flatMap edC (pre.map Subtype.val)), .blk Xp 24 [.int .i64 x.1.1.1, .int .i64 x.1.1.2], .blk Xq 24 [.int .i64 x.1.2.1, .int .i64 x.1.2.2], .blk X191 3 [.int .i64 a.1, .int .i64 b.1]] /\ Dig w199 wr)
    case atStart => exact ⟨0, A3, n3, c3, es3, rfl, rfl, Nat.zero_le _, ⟨HM3.out.1, HM3.out.2⟩, (by rw [HES3.out]; simp [yatP]), (fun g_ hg_ => (HOE3.out g_ hg_)), HO3.out, HFR.out, H201.out, Dig.refl _⟩
    obtain ⟨i2, A4, n4, c4, es4, rfl, rfl, q_HI4, q_HM4, q_HES4, q_HOE4, q_HO4, q_HFR, hh_, hd_⟩ := hrel
    generalize wr = w269 at *
    have HI4 := zH q_HI4
    clear q_HI4
    have HM4 := zH q_HM4
    clear q_HM4
    have HES4 := zH q_HES4
    clear q_HES4
    have HOE4 := zH q_HOE4
    clear q_HOE4
    have HO4 := zH q_HO4
    clear q_HO4
    have HFR := zH q_HFR
    clear q_HFR
    have H271 := zH hh_
    have D271 := zH hd_
    clear hh_ hd_ H201
    rcases emH (i2 < pre.length) with HLT4 | HLT4
    ·have hlt := HLT4.out
     obtain ⟨o, ho_⟩ : ∃ o, pre[i2]? = some o := ⟨_, List.getElem?_eq_getElem hlt⟩
     have HOO := zH o.2
     have HPO := zH (show (pre.map Subtype.val)[i2]? = some o.1 by rw [List.getElem?_map, ho_]; rfl)
     skip
     have HTK := zH (show (pre.map Subtype.val).take (i2 + 1) = (pre.map Subtype.val).take i2 ++ [o.1] by rw [List.take_add_one, HPO.out]; rfl)
     clear ho_
     obtain ⟨ge, hge_⟩ := RowN.form (H271.out.row (i := 9) (by rfl)) |>.elim (fun A_ h_ => h_.elim (fun c_ h2_ => (show ∃ ge, A2 = some ⟨ge, 0, none⟩ from by obtain ⟨e_, h3_⟩ := h2_; injection e_ with e1_ e2_ e3_; subst e1_; exact h3_ (by omega))))
     subst hge_
     gi_upto_region 27 with fail
     refine wpIn_region_plain kR (fun ⟨_, _, h⟩ => h) ?_
     refine zp (.bool true) (by exact ezl (e := (dec_t (by have ob0 := HLEN.out; omega)))) ?_
     refine wpList_nil ?_
     gi_upto_region 28 with fail
     refine wpIn_region_plain kR (fun ⟨_, _, h⟩ => h) ?_
     refine zp (.pointer (some ⟨ge, i2 * 4, none⟩)) (by exact ezi (k := i2) Tryz.underlying58 (l := hlt) (f := (Nat.zero_add _).symm)) ?_
     refine zd ge (i2 * 4) [.int .i64 o.1.1.1, .int .i64 o.1.1.2, .int .i64 o.1.2.1, .int .i64 o.1.2.2] (H271.out.elem (f := edC) (i := 9) rR edC_len HPO.out) Tryz.underlying59 ?_
     refine aA 59 [.int .i64 0, .int .i64 0, .int .i64 0, .int .i64 0] H271.out ?_
     intro X275 w276 H278 hx hge
     have Q277 := zH (show W.heap.size <= X275 from Nat.le_trans HFR.out.size hge)
     have D278 := zH (Dig.of_ext hx)
     have K280 := zH (HFR.out.trans (Fr.of_ext hx))
     clear hx hge
     refine aS 13 [.int .i64 o.1.1.1, .int .i64 o.1.1.2, .int .i64 o.1.2.1, .int .i64 o.1.2.2] H278.out ?_
     intro w282 H283 hd ho
     have D283 := zH (hd)
     have K285 := zH (K280.out.trans_new ho (fun j hj => .inr (by injection hj with hj; rw [<- hj]; exact Q277.out)))
     clear hd ho
     refine wpList_nil ?_
     rcases emH (segN o.1.1 o.1.2 x.1.1 x.1.2 = 1) with HSG | HSG
     ·gi_upto_region 29 with fail
      refine wpIn_region_plain kR (fun ⟨_, _, h⟩ => h) ?_
      refine zI1 (Hp.start _) _ ?_
      refine zd X275 (0) [.int .i64 o.1.1.1, .int .i64 o.1.1.2] (H283.out.range (i := 13) rR 0 2) Tryz.underlying24 ?_
      refine zI1 (Hp.start _) _ ?_
      refine zd X275 (2) [.int .i64 o.1.2.1, .int .i64 o.1.2.2] (H283.out.range (i := 13) rR 2 2) Tryz.underlying24 ?_
      refine zI2 H283.out _ _ ?_
      refine zc (((segments_any o.1.1 o.1.2 x.1.1 x.1.2 _ HOO.out.1 HOO.out.2 HOX.out.1 HOX.out.2).mono (fun _ _ h_ => SegRet.yes h_ HSG.out))) ?_
      rintro e w289 ⟨r290, s290, rfl, hr_, hs_, hx⟩
      have H291 := zH (H283.out.step hx)
      have D291 := zH (Dig.of_ext hx)
      have K293 := zH (K285.out.trans (Fr.of_ext hx))
      have R290 := zH hr_
      have S290 := zH hs_
      have C290 := zH (rl_segXY HOO.out.1 HOO.out.2 HOX.out.1 HOX.out.2).2
      clear hr_ hs_ hx
      refine zn ?_
      refine zI4 (Hp.start _) _ _ _ _ ?_
      refine aA 34 rz H291.out ?_
      intro X298 w299 H301 hx hge
      have Q300 := zH (Nat.le_trans K293.out.size hge)
      have D301 := zH (Dig.of_ext hx)
      have K303 := zH (K293.out.trans (Fr.of_ext hx))
      clear hx hge
      refine aA 34 rz H301.out ?_
      intro X305 w306 H308 hx hge
      have Q307 := zH (Nat.le_trans K303.out.size hge)
      have D308 := zH (Dig.of_ext hx)
      have K310 := zH (K303.out.trans (Fr.of_ext hx))
      clear hx hge
      refine aS 14 (rc r290) H308.out ?_
      intro w312 H313 hd ho
      have D313 := zH (hd)
      have K315 := zH (K310.out.trans_new ho (fun j hj => .inr (by injection hj with hj; rw [<- hj]; exact Q300.out)))
      clear hd ho
      refine aS 15 (rc s290) H313.out ?_
      intro w316 H317 hd ho
      have D317 := zH (hd)
      have K319 := zH (K315.out.trans_new ho (fun j hj => .inr (by injection hj with hj; rw [<- hj]; exact Q307.out)))
      clear hd ho
      refine zq (.int .i64 1) ?_
      refine wpList_nil ?_
      gi_upto_region 30 with fail
      refine wpIn_region_plain kR (fun ⟨_, _, h⟩ => h) ?_
      refine zq (.int .i64 1) ?_
      refine zp (.bool true) (by exact ezq (e := (dec_t rfl))) ?_
      refine wpList_nil ?_
      gi_upto_region 31 with fail
      refine wpIn_region_plain kR (fun ⟨_, _, h⟩ => h) ?_
      refine zI2 H317.out _ _ ?_
      have DD325 := tD (tD (tD D301 D308) D313) D317
      have DD326 := tD (tD (tD (tD (tD (tD (tD (tD (tD D193 D201) D271) D278) D283) D291) D301) D308) D313) D317
      have DD327 := tD (tD (tD (tD (tD (tD D278 D283) D291) D301) D308) D313) D317
      refine zc (put_any 24 dC s290 r61 r62 (segY o.1.1 o.1.2 x.1.1 x.1.2) (((a.2) : Int) : Rat) (((b.2) : Int) : Rat) X63 Y64 X83 A4 n4 c4 es4 w _ (H317.out.pick2 (ib := 6) (ir := 5) rR rR dC) (S290.out.dig DD325.out) (Nat.le_trans C290.out (by omega)) (HLO.out.dig DD326.out) (HHI.out.dig DD326.out) (Nat.le_trans B61.out (by omega)) (Nat.le_trans B62.out (by omega)) (H317.out.range (i := 3) rR 0 4) (H317.out.range (i := 4) rR 0 4) (fun h_ => h_.elim (H317.out.offBlk (i := 3) (j := 6) rR rR dC rR) (H317.out.offRow (i := 3) (j := 5) rR rR dC rR)) (fun h_ => h_.elim (H317.out.offBlk (i := 4) (j := 6) rR rR dC rR) (H317.out.offRow (i := 4) (j := 5) rR rR dC rR)) HM4.out.1 (by have h_ := HM4.out.2; have h2_ := HNP.out; have h3_ := HLEN.out; omega) (fun g_ hg_ => (HOE4.out g_ hg_).dig DD327.out)) ?_
      rintro e w323 ⟨rfl, hkr_⟩
      unfold PutRet at hkr_
      obtain ⟨A324, c324, n324, es324, h1_, h2_, h3_, h4_, h5_, h6_, h7_, h8_⟩ := hkr_
      have HVK324 := zH h5_
      have HNK324 := zH (And.intro h6_ h7_)
      have HOK324 := zH h8_
      have HFK324 := zH h4_
      have HFP324 := zH h3_
      have H328 := zH (show Hp w w323 [.blk X1 24 [.int .i64 a.1, .int .i64 a.2], .blk X6 24 [.int .i64 b.1, .int .i64 b.2], .blk X42 24 [.int .i64 a.1, .int .i64 a.2, .int .i64 b.1, .int .i64 b.2], .blk X63 34 (rc r61), .blk Y64 34 (rc r62), ro 34 4 A324 n324 c324 R1E.cells es324, .blk X83 27 [.slice A324 n324 c324], .blk X93 57 [.func (.func 20) #[] #[.pointer (some ⟨X63, 0, none⟩), .pointer (some ⟨Y64, 0, none⟩), .pointer (some ⟨X83, 0, none⟩)]], .blk X155 58 [.slice (some ⟨ge, 0, none⟩) pre.length c2], ro 59 4 (some ⟨ge, 0, none⟩) pre.length c2 edC (pre.map Subtype.val), .blk Xp 24 [.int .i64 x.1.1.1, .int .i64 x.1.1.2], .blk Xq 24 [.int .i64 x.1.2.1, .int .i64 x.1.2.2], .blk X191 3 [.int .i64 a.1, .int .i64 b.1], .blk X275 59 [.int .i64 o.1.1.1, .int .i64 o.1.1.2, .int .i64 o.1.2.1, .int .i64 o.1.2.2], .blk X298 34 (rc r290), .blk X305 34 (rc s290)] from H317.out.call2 (ib := 6) (ir := 5) (e := .blk X83 27 [.slice A4 n4 c4]) (f := .row 34 4 (.slice A4 n4 c4) (n4) (List.flatMap R1E.cells es4)) (e' := .blk X83 27 [.slice A324 n324 c324]) (f' := .row 34 4 (.slice A324 n324 c324) (n324) (List.flatMap R1E.cells es324)) (by rfl) (by rfl) (by decide) h3_ (fun k_ hk_ => hk_.elim (fun h_ => .inl (by rw [h_]; rfl)) .inr) h1_ (fun k_ hk_ => .inl hk_) h4_)
      have D328 := zH (show Dig w316 w323 from h2_)
      have K330 := zH (K319.out.trans_fr HFP324.out (fun k hk => hk.elim (fun h => .inl (.inl h)) (fun hk => (HO4.out k hk).elim (fun h => .inl (.inr (.inr (.inl h)))) .inr)))
      clear h1_ h2_ h4_ h5_ h6_ h7_ h8_
      have hx := True.intro
      clear hx
      refine zn ?_
      refine wpList_nil ?_
      gi_upto_region 32 with fail
      refine wpIn_region_plain kR (fun ⟨_, _, h⟩ => h) ?_
      refine zp (.int .i64 ((i2 + 1 : Nat) : Int)) (by exact ez1 (by have ob0 := HLEN.out; omega)) ?_
      refine zq (.int .i64 ((i2 + 1 : Nat) : Int)) ?_
      refine wpList_nil ?_
      have DD333 := tD (tD (tD (tD (tD (tD (tD (tD D271 D278) D283) D291) D301) D308) D313) D317) D328
      gi_wp2_with fail
      go_roundg (pre.length - (i2 + 1))
      case measure => exact (by have ob0 := HLEN.out; omega)
      case rel => exact ⟨i2 + 1, A324, n324, c324, es324, rfl, (by go_num), hlt, ⟨HNK324.out.1, by have h_ := HNK324.out.2; have h2_ := HM4.out.2; omega⟩, (by rw [HVK324.out, HES4.out, HTK.out, List.flatMap_append, <- List.append_assoc]; simp [segL_yes HSG.out, btw]), (fun g_ hg_ => (HOK324.out g_ hg_)), (fun k_ hk_ => (HFK324.out k_ hk_).elim (fun h_ => HO4.out k_ h_) (fun h_ => .inr (Nat.le_trans K319.out.size h_))), K330.out, H328.out.take 13, DD333.out⟩
     gi_upto_region 29 with fail
     refine wpIn_region_plain kR (fun ⟨_, _, h⟩ => h) ?_
     refine zI1 (Hp.start _) _ ?_
     refine zd X275 (0) [.int .i64 o.1.1.1, .int .i64 o.1.1.2] (H283.out.range (i := 13) rR 0 2) Tryz.underlying24 ?_
     refine zI1 (Hp.start _) _ ?_
     refine zd X275 (2) [.int .i64 o.1.2.1, .int .i64 o.1.2.2] (H283.out.range (i := 13) rR 2 2) Tryz.underlying24 ?_
     refine zI2 H283.out _ _ ?_
     refine zc (((segments_any o.1.1 o.1.2 x.1.1 x.1.2 _ HOO.out.1 HOO.out.2 HOX.out.1 HOX.out.2).mono (fun _ _ h_ => SegRet.no h_ HSG.out))) ?_
     rintro e w336 ⟨rfl, hx⟩
     have H337 := zH (H283.out.step hx)
     have D337 := zH (Dig.of_ext hx)
     have K339 := zH (K285.out.trans (Fr.of_ext hx))
     clear hx
     refine zn ?_
     refine zI4 (Hp.start _) _ _ _ (.int .i64 (segN o.1.1 o.1.2 x.1.1 x.1.2)) ?_
     refine aA 34 rz H337.out ?_
     intro X344 w345 H347 hx hge
     have Q346 := zH (Nat.le_trans K339.out.size hge)
     have D347 := zH (Dig.of_ext hx)
     have K349 := zH (K339.out.trans (Fr.of_ext hx))
     clear hx hge
     refine aA 34 rz H347.out ?_
     intro X351 w352 H354 hx hge
     have Q353 := zH (Nat.le_trans K349.out.size hge)
     have D354 := zH (Dig.of_ext hx)
     have K356 := zH (K349.out.trans (Fr.of_ext hx))
     clear hx hge
     refine aS 14 rz H354.out ?_
     intro w358 H359 hd ho
     have D359 := zH (hd)
     have K361 := zH (K356.out.trans_new ho (fun j hj => .inr (by injection hj with hj; rw [<- hj]; exact Q346.out)))
     clear hd ho
     refine aS 15 rz H359.out ?_
     intro w362 H363 hd ho
     have D363 := zH (hd)
     have K365 := zH (K361.out.trans_new ho (fun j hj => .inr (by injection hj with hj; rw [<- hj]; exact Q353.out)))
     clear hd ho
     refine zq (.int .i64 (segN o.1.1 o.1.2 x.1.1 x.1.2)) ?_
     refine wpList_nil ?_
     gi_upto_region 30 with fail
     refine wpIn_region_plain kR (fun ⟨_, _, h⟩ => h) ?_
     refine zq (.int .i64 (segN o.1.1 o.1.2 x.1.1 x.1.2)) ?_
     refine zp (.bool false) (by exact ezq (e := (dec_f HSG.out))) ?_
     refine wpList_nil ?_
     gi_upto_region 32 with fail
     refine wpIn_region_plain kR (fun ⟨_, _, h⟩ => h) ?_
     refine zp (.int .i64 ((i2 + 1 : Nat) : Int)) (by exact ez1 (by have ob0 := HLEN.out; omega)) ?_
     refine zq (.int .i64 ((i2 + 1 : Nat) : Int)) ?_
     refine wpList_nil ?_
     have DD371 := tD (tD (tD (tD (tD (tD D278 D283) D337) D347) D354) D359) D363
     have DD372 := tD (tD (tD (tD (tD (tD (tD D271 D278) D283) D337) D347) D354) D359) D363
     gi_wp2_with fail
     go_roundg (pre.length - (i2 + 1))
     case measure => exact (by have ob0 := HLEN.out; omega)
     case rel => exact ⟨i2 + 1, A4, n4, c4, es4, rfl, (by go_num), hlt, ⟨HM4.out.1, by have h_ := HM4.out.2; omega⟩, (by rw [HES4.out, HTK.out, List.flatMap_append]; simp [segL_no HSG.out]), (fun g_ hg_ => (HOE4.out g_ hg_).dig DD371.out), HO4.out, K365.out, H363.out.take 13, DD372.out⟩
    have hlt := HLT4.out
    have hi4 := HI4.out
    obtain rfl : i2 = pre.length := by omega
    gi_upto_region 27 with fail
    refine wpIn_region_plain kR (fun ⟨_, _, h⟩ => h) ?_
    refine zp (.bool false) (by exact ezl (e := (dec_f (Int.lt_irrefl _)))) ?_
    refine wpList_nil ?_
    gi_upto_region 33 with fail
    refine wpIn_region_plain kR (fun ⟨_, _, h⟩ => h) ?_
    refine zI1 H271.out _ ?_
    refine zd Xp (0) [.int .i64 x.1.1.1, .int .i64 x.1.1.2] (H271.out.range (i := 10) rR 0 2) Tryz.underlying24 ?_
    refine zd Xq (0) [.int .i64 x.1.2.1, .int .i64 x.1.2.2] (H271.out.range (i := 11) rR 0 2) Tryz.underlying24 ?_
    refine zI1 (Hp.start _) _ ?_
    refine zp (w' := (w269.alloc (.cells ([.int .i64 x.1.1.1, .int .i64 x.1.1.2, .int .i64 x.1.2.1, .int .i64 x.1.2.2] : List Value).toArray 59))) (.slice (some ⟨w269.heap.size, 0, none⟩) 1 1) (by go_simp) ?_
    refine mv_app rR _ _ _ rR elPP rR H271.out (ix := 9) rR 1 1 [.int .i64 x.1.1.1, .int .i64 x.1.1.2, .int .i64 x.1.2.1, .int .i64 x.1.2.2] rR rfl (by simp [Value.oneCell']) (by simp [NoUL]) dC (by unfold maxLen; exact (by have ob0 := HLEN.out; omega)) (by have ob0 := HLEN.out; omega) ?_
    intro g376 cp377 w375 hf hh hd hg
    have Fg376 := zH hf
    clear hf
    rw [show List.flatMap edC (pre.map Subtype.val) ++ [.int .i64 x.1.1.1, .int .i64 x.1.1.2, .int .i64 x.1.2.1, .int .i64 x.1.2.2] = _ from flat_snoc edC _ x.1] at hh
    have H378 := hN hh
    have D378 := zH (hd)
    have K380 := zH (show Fr (fun kz => kz = X83 \/ kz = X155 \/ Value.ownBlock (.slice A n c) = some kz \/ o2 = some kz) W w375 from (HFR.out.trans (Fr.of_ext ((Ext.refl _).alloc _))).trans_new hg (fun j hj => .inl (.inr (.inr (.inr (HO2.out.trans hj))))))
    clear hh hd hg
    try simp only [Act.put, zA, zB, zC]
    refine aU 8 (.slice (some ⟨g376, 0, none⟩) (pre.length + 1) cp377) H378.out ?_
    intro w381 H382 hd ho
    have D382 := zH (hd)
    have K384 := zH (K380.out.trans_new ho (fun j hj => .inl (.inr (.inl (by injection hj with hj; exact hj.symm)))))
    clear hd ho
    refine wpList_nil ?_
    have DD385 := tD D378 D382
    gi_wp2
    exact ⟨(KeepsFrom.of_fr K384.out (fun k hk o ho => hk.elim (fun e => H0.out.cells (i := 6) (by rfl) (by rw [e]; rfl) o ho) (fun hk => hk.elim (fun e => H0.out.cells (i := 8) (by rfl) (by rw [e]; rfl) o ho) (fun hk => hk.elim (fun e => H0.out.cells (i := 5) (by rfl) (by exact e) o ho) (fun e => H0.out.cells (i := 9) (by rfl) (by exact HO2.out.symm.trans e) o ho))))), (K384.out.imp (fun k hk => hk.elim .inl (fun hk => hk.elim (fun e => .inr (.inl e)) (fun hk => hk.elim (fun e => (HF1.out k e).elim (fun h => .inr (.inr (.inl h))) (fun h => .inr (.inr (.inr h)))) (fun e => .inr (.inr (.inr (HF2.out k (HO2.out.symm.trans e))))))))), A4, n4, c4, es4, some ⟨g376, 0, none⟩, cp377, (by have h_ := H382.out.take 10; rw [show pre.length + 1 = (pre ++ [x]).length by simp, show List.map Subtype.val pre ++ [x.1] = (pre ++ [x]).map Subtype.val by simp] at h_; exact h_), HD.out.trans ((((D193.out.trans D201.out).trans D271.out).trans D378.out).trans D382.out), (fun k hk => (HO4.out k hk).elim (fun h => HF1.out k h) (fun h => .inr (Nat.le_trans HSZ.out h))), (fun k hk => by have e_ : g376 = k := (by simpa [Value.ownBlock] using hk); subst e_; exact Fg376.out.elim (fun q => HF2.out _ q) (fun q => Nat.le_trans HSZ.out (Nat.le_trans HFR.out.size q))), (by rw [HES4.out, List.take_of_length_le (by simp), List.map_append, List.map_cons, List.map_nil, evC_snoc, List.nil_append]; simp [evStep]), HM4.out.1, (by have h_ := HM4.out.2; have h2_ := HNP.out; have h3_ := HLEN.out; simp; omega), (fun g_ hg_ => (HOE4.out g_ hg_).dig DD385.out), Nat.le_trans HSZ.out K384.out.size⟩
   rintro D xs W hD hxs ⟨A, n, c, es2, A2, c2, hh, hd, hf1, hf2, hvl, hnl, hnp, hok, hsz⟩ hK
   have H0 := zH hh
   have HVL := zH hvl
   have HNL := zH hnl
   have HOKS := zH hok
   have HXS := zH hxs
   have HD := zH hK
   have HDD := zH hD
   have hnp4 : es2.length <= 90000000 := by have h1 : xs.length = (edgesV rs).length := (by rw [<- hxs, List.length_map]); have h2 := edgesV_len rs; have h3 := okR_tot HV.out; omega
   clear hh hd hf1 hf2 hvl hnl hnp hok hsz hxs hK hD
   go_upto_region 34 with fail
   refine wl ?_
   refine zI1 H0.out _ ?_
   refine zc (rising_any 24 dC (.slice A n c) es2 _ _ (by have h_ := H0.out.row (i := 5) rR; rw [<- HNL.out]; exact h_) H0.out.ext.size HOKS.out (by omega)) ?_
   rintro e w386 ⟨v3, es3, rfl, h2_, hg3_, h4_, h5_, h6_, h7_, h8_⟩
   have HGR := zH hg3_
   have HR3 := zH (And.intro h6_ (And.intro h7_ h8_))
   have HD3 := zH h4_
   have HS := zH (H0.out.turn (i := 5) (e := .row 34 4 (.slice A n c) (n) (List.flatMap R1E.cells es2)) (e' := .row 34 4 v3 es3.length (es3.flatMap R1E.cells)) (by rfl) (fun k h => h) hg3_ h2_ (fun k hk => .inl (by have h_ : v3.ownBlock = some k := hk; rw [h5_] at h_; exact h_)))
   clear h2_ hg3_ h4_ h5_ h6_ h7_ h8_
   have hx := True.intro
   clear hx
   refine zn ?_
   refine zq (v3) ?_
   go_wp2_with fail
   have hKs : w386.heap[D]? = some (.deferred (some [])) := (HGR.out.block D (Array.getElem?_eq_some_iff.1 HD.out).1 (fun e => by have h1 := H0.out.cells (i := 5) (by rfl) (by exact e.symm) _ HD.out; cases h1)).trans HD.out
   refine ⟨by simp, .inl ⟨_, _, rfl, run_takeDeferred hKs, ?_⟩⟩
   have hfin := HS.out.keptQ (grownBy_putObj' w386 D (.deferred none)) (fun k hk => by injection hk with hk; subst hk; exact ⟨Nat.le_trans HWS.out HDD.out, _, hKs, rfl⟩)
   have hdf := HD3.out.trans (Dig.keptQ (grownBy_putObj' w386 D (.deferred none)) (fun k hk => by injection hk with hk; subst hk; exact ⟨_, hKs, rfl⟩))
   refine ⟨_, results_tmp rfl _ _ _, v3, es3, rfl, hfin.row (i := 5) rR, HR3.out.1, fun q => (HR3.out.2.1 q).trans ?_, fun e he => (HOKS.out e (HR3.out.2.2 e he)).dig hdf, hfin.ext⟩
   rw [HVL.out, HES.out, HXS.out, List.take_length]
   unfold evL
   rw [if_pos ⟨HV.out, HOK.out.1, HOK.out.2, by have h_ := HLE.out; omega⟩]
  have HALL := zH (Bool.eq_false_iff.2 HB.out)
  go_upto_region 1 with fail
  refine wl ?_
  refine zI1 (Hp.start _) _ ?_
  refine zc (polyValid_any _ rs _ (HU.out.ext H8.out.ext) HN.out HR.out) ?_
  rintro e w389 ⟨rfl, hx⟩
  have H390 := zH (H8.out.step hx)
  clear hx
  refine ⟨.bool true, by rw [HV.out], ?_⟩
  try simp only [Act.put, zA, zB, zC]
  refine zI4 H390.out (.bool false) (.bool false) _ _ ?_
  refine aL' 2 24 [.int .i64 a.1, .int .i64 a.2, .int .i64 b.1, .int .i64 b.2] H390.out ?_
  intro X394 w395 H396 _
  refine zc (may_any (.slice (some ⟨X394, 0, none⟩) 2 2) [a, b] _ (ptsLit2 H396.out (i := 2) rR) (by simp)) ?_
  rintro e w398 ⟨rfl, hx⟩
  have H399 := zH (H396.out.step hx)
  clear hx
  refine ⟨.bool false, by rw [HALL.out], ?_⟩
  try simp only [Act.put, zA, zB, zC]
  refine zI8 (Hp.start _) (.bool true) (.bool true) (.bool true) _ _ _ _ _ ?_
  refine zq (.bool true) ?_
  go_upto_region 2 with fail
  refine wl ?_
  refine zI1 (Hp.start _) _ ?_
  go_wp2_with fail
  exact ⟨_, results_tmp rfl _ _ _, _, [], rfl, RowN.nil _ _ _ _, by simp, by rw [show evL a b rs = [] from if_neg (fun h => HB.out (okAll2.2 ⟨h.2.1, h.2.2.1⟩))]; simp, by simp, H399.out.ext⟩
 have HV := zH (Bool.eq_false_iff.2 HVQ.out)
 go_upto_region 1 with fail
 refine wl ?_
 refine zI1 (Hp.start _) _ ?_
 refine zc (polyValid_any _ rs _ (HU.out.ext H8.out.ext) HN.out HR.out) ?_
 rintro e w407 ⟨rfl, hx⟩
 have H408 := zH (H8.out.step hx)
 clear hx
 refine ⟨.bool false, by rw [HV.out], ?_⟩
 try simp only [Act.put, zA, zB, zC]
 refine zI8 (Hp.start _) (.bool true) (.bool true) _ _ _ _ _ (.bool true) ?_
 refine zI7 (Hp.start _) (.bool true) _ _ _ _ _ (.bool true) ?_
 go_upto_region 2 with fail
 refine wl ?_
 refine zI1 (Hp.start _) _ ?_
 go_wp2_with fail
 exact ⟨_, results_tmp rfl _ _ _, _, [], rfl, RowN.nil _ _ _ _, by simp, by rw [show evL a b rs = [] from if_neg (fun h => HVQ.out h.1)]; simp, by simp, H408.out.ext⟩
theorem same17I_any (n m : Bool) (u v : Value) (z : Int) (w : World) (hu : IntC w n u z) (hv : IntC w m v z) (hL : Nm.nl z.natAbs <= 1000000) :
    Calls Tryz.prog 31 #[.agg #[.bool n, u], .agg #[.bool m, v]] w fun e w' => e = .returned (.bool true) /\ Ext w w' := by
  obtain ⟨rfl, p, cp, rfl, _, _, h3⟩ := hu
  obtain ⟨rfl, q, cq, rfl, _, _, h4⟩ := hv
  unfold Nm.nl at hL
  generalize Nm.digs z.natAbs = xs at *
  generalize decide (z < 0) = s at *
  have H3 := zH h3
  have H4 := zH h4
  clear h3 h4
  have HG := zH (show ∀ x, Ext ((w.alloc (.cells #[.bool s, .slice p xs.length cp] 32)).alloc (.cells #[.bool s, .slice q xs.length cq] 32)) x ->
      x.cell? ⟨w.heap.size, 0, none⟩ = some (.bool s) /\ x.cell? ⟨w.heap.size, 1, none⟩ = some (.slice p xs.length cp) /\ x.cell? ⟨w.heap.size + 1, 0, none⟩ = some (.bool s) /\ x.cell? ⟨w.heap.size + 1, 1, none⟩ = some (.slice q xs.length cq) from fun x h =>
    ⟨h.get (by simp), h.get (by simp), h.get (by simp), h.get (by simp)⟩)
  have HW := zH (show Ext w ((w.alloc (.cells #[.bool s, .slice p xs.length cp] 32)).alloc (.cells #[.bool s, .slice q xs.length cq] 32)) from ((Ext.refl _).alloc _).alloc _)
  have hbb : (s != s) = false := by cases s <;> rfl
  go_enter Tryz.func31, Tryz.ntmps31
  go_wp2_with fail
  generalize ((w.alloc (.cells #[.bool s, .slice p xs.length cp] 32)).alloc (.cells #[.bool s, .slice q xs.length cq] 32)) = wa at *
  go_loopw [5] (fun i wr => ∃ k : Nat, k <= xs.length /\ i = .int .i64 k /\ Ext wa wr) (fun i _ => xs.length - (intOf i).toNat)
  case atStart => exact ⟨0, Nat.zero_le _, rfl, Ext.refl _⟩
  obtain ⟨k, hk, rfl, he⟩ := hrel
  have gl := HG.out _ he
  have HE := zH he
  clear he
  by_cases hlt : k < xs.length
  · obtain ⟨b, o, rfl, hb⟩ := H3.out (by omega)
    obtain ⟨b2, o2, rfl, hb2⟩ := H4.out (by omega)
    have c0 := (HW.out.trans HE.out).get (hb k hlt)
    have c1 := (HW.out.trans HE.out).get (hb2 k hlt)
    clear hb hb2
    generalize (xs.getD k 0 : Nat) = d at c0 c1
    go_wp2_with fail
    go_quiet (fail)
    go_wp2_with fail
    go_roundw
    case rel => exact ⟨k + 1, hlt, by go_num, HE.out.drewN _⟩
    case measure => simp [intOf]; omega
  go_wp2_with fail
  go_ret
  exact ⟨rfl, HW.out.trans HE.out⟩
theorem same17G_any (a b : RV) (z1 z2 : Int) (w : World) (ha1 : IntC w a.n (.slice a.p a.l a.c) z1) (ha2 : IntC w a.m (.slice a.p2 a.l2 a.c2) z2) (hb1 : IntC w b.n (.slice b.p b.l b.c) z1) (hb2 : IntC w b.m (.slice b.p2 b.l2 b.c2) z2) (hl1 : Nm.nl z1.natAbs <= 1000000) (hl2 : Nm.nl z2.natAbs <= 1000000) :
    Calls Tryz.prog 8 #[.agg #[.bool a.n, .slice a.p a.l a.c, .bool a.m, .slice a.p2 a.l2 a.c2], .agg #[.bool b.n, .slice b.p b.l b.c, .bool b.m, .slice b.p2 b.l2 b.c2]] w fun e w' => e = .returned (.bool true) /\ Ext w w' := by
  have H1 := zH (fun W (x : Ext w W) => same17I_any a.n b.n _ _ z1 W (ha1.ext x) (hb1.ext x) hl1)
  have H2 := zH (fun W (x : Ext w W) => same17I_any a.m b.m _ _ z2 W (ha2.ext x) (hb2.ext x) hl2)
  have HG := zH (show ∀ x, Ext ((w.alloc (.cells #[.bool a.n, .slice a.p a.l a.c, .bool a.m, .slice a.p2 a.l2 a.c2] 34)).alloc (.cells #[.bool b.n, .slice b.p b.l b.c, .bool b.m, .slice b.p2 b.l2 b.c2] 34)) x ->
      x.cell? ⟨w.heap.size, 0, none⟩ = some (.bool a.n) /\ x.cell? ⟨w.heap.size, 1, none⟩ = some (.slice a.p a.l a.c) /\ x.cell? ⟨w.heap.size, 2, none⟩ = some (.bool a.m) /\ x.cell? ⟨w.heap.size, 3, none⟩ = some (.slice a.p2 a.l2 a.c2) /\
      x.cell? ⟨w.heap.size + 1, 0, none⟩ = some (.bool b.n) /\ x.cell? ⟨w.heap.size + 1, 1, none⟩ = some (.slice b.p b.l b.c) /\ x.cell? ⟨w.heap.size + 1, 2, none⟩ = some (.bool b.m) /\ x.cell? ⟨w.heap.size + 1, 3, none⟩ = some (.slice b.p2 b.l2 b.c2) from fun x h =>
    ⟨h.get (by simp), h.get (by simp), h.get (by simp), h.get (by simp), h.get (by simp), h.get (by simp), h.get (by simp), h.get (by simp)⟩)
  have HW := zH (show Ext w ((w.alloc (.cells #[.bool a.n, .slice a.p a.l a.c, .bool a.m, .slice a.p2 a.l2 a.c2] 34)).alloc (.cells #[.bool b.n, .slice b.p b.l b.c, .bool b.m, .slice b.p2 b.l2 b.c2] 34)) from ((Ext.refl _).alloc _).alloc _)
  clear ha1 ha2 hb1 hb2
  go_enter Tryz.func8, Tryz.ntmps8
  go_wp2_with fail
  generalize ((w.alloc (.cells #[.bool a.n, .slice a.p a.l a.c, .bool a.m, .slice a.p2 a.l2 a.c2] 34)).alloc (.cells #[.bool b.n, .slice b.p b.l b.c, .bool b.m, .slice b.p2 b.l2 b.c2] 34)) = wa at *
  have gl := HG.out _ (Ext.refl _)
  go_wp2_with fail
  refine (H1.out _ HW.out).mono ?_
  rintro e wx ⟨rfl, hx1⟩
  clear gl
  have gl := HG.out _ hx1
  go_wp2_with fail
  refine (H2.out _ (HW.out.trans hx1)).mono ?_
  rintro e wy ⟨rfl, hx2⟩
  go_wp2_with fail
  go_ret
  exact ⟨rfl, HW.out.trans (hx1.trans hx2)⟩
theorem same17_any (a b : RV) (q : Rat) (L : Nat) (w : World) (ha : a.Is w q) (hb : b.Is w q) (hq : Nm.rl q <= L) (hL : L <= 1000000) :
    Calls Tryz.prog 8 #[.agg #[.bool a.n, .slice a.p a.l a.c, .bool a.m, .slice a.p2 a.l2 a.c2], .agg #[.bool b.n, .slice b.p b.l b.c, .bool b.m, .slice b.p2 b.l2 b.c2]] w fun e w' => e = .returned (.bool true) /\ Ext w w' :=
  same17G_any a b q.num (q.den : Int) w ha.1 ha.2 hb.1 hb.2 (by have := Nat.le_max_left (Nm.nl q.num.natAbs) (Nm.nl q.den); unfold Nm.rl at hq; omega) (by have := Nat.le_max_right (Nm.nl q.num.natAbs) (Nm.nl q.den); unfold Nm.rl at hq; simp only [Int.natAbs_natCast]; omega)
theorem loadVar_bool {w : World} {g : Nat} {b : Bool} (h : Blk w g 4 ([.bool b] : List Value).toArray) : (Go.loadVar 4 ⟨g, 0, none⟩).run Tryz.prog w = .ok (.bool b) w := by
  have hq : w.cell? ⟨g, 0, none⟩ = some (.bool b) := h.cell 0
  have ha : (isAgg 4).run Tryz.prog w = .ok false w := by kernel_rfl
  unfold Go.loadVar
  simp only [Sem.run_bind, ha, Result.andThen]
  go_simp <;> rfl
theorem frame_ex {f : (Nat -> Value) -> Act} {a : Act} (h : a = f (fun q => a.tmps.getD q undef)) : ∃ J, a = f J := ⟨_, h⟩
def exSq : List Ring := [[(0, 0), (4, 0), (4, 4), (0, 4)]]
def exBow : List Ring := [[(0, 0), (2, 2), (2, 0), (0, 2)]]
def exTri : List Ring := [[(0, 0), (4, 0), (0, 4)]]
def exDeg : List Ring := [[(0, 0), (1, 0), (1, 0)]]
theorem q17FromInts (a b : Int) (w : World) (h1 : -9223372036854775808 <= a) (h2 : a <= 9223372036854775807) (h3 : -9223372036854775808 <= b) (h4 : b <= 9223372036854775807) (hb : b ≠ 0) :
    Calls Tryz.prog 39 #[.int .i64 a, .int .i64 b] w fun e w' => ∃ c, e = .returned (.tuple #[.agg c, .int .i64 0]) /\ NIs w' c ((a : Rat) / (b : Rat)) /\ Ext w w' := by
  refine (r3fromInts_any a b w h1 h2 h3 h4 hb).mono fun e w' h => ?_
  obtain ⟨c, rfl, h3, h4⟩ := RetRE.v h
  exact ⟨_, rfl, ⟨c, rfl, by rw [<- Rat.divInt_eq_div]; exact h3⟩, h4⟩
theorem ringLit {w0 w : World} {m : List Ent} {i j X1 X2 : Nat} (h : Hp w0 w m) (ps : List (Int × Int)) (h1 : m[i]? = some (.blk X1 24 (ps.flatMap fun p => [.int .i64 p.1, .int .i64 p.2])))
  (h2 : m[j]? = some (.blk X2 36 [.slice (some ⟨X1, 0, none⟩) ps.length ps.length])) : RingsV w (.slice (some ⟨X2, 0, none⟩) 1 1) [ps] := by
 refine ⟨_, 1, rfl, fun _ => ⟨X2, 0, rfl, fun i r hr => ?_⟩⟩
 have hi : i = 0 := by have := (List.getElem?_eq_some_iff.1 hr).1; simp at this; omega
 subst hi
 have hr2 : r = ps := by simpa using hr.symm
 subst hr2
 refine ⟨_, r.length, h.cell h2 0 rfl, ⟨_, r.length, rfl, fun _ => ⟨X1, 0, rfl, fun i hi => ?_⟩⟩⟩
 have hp : r[i]? = some r[i] := List.getElem?_eq_getElem hi
 have hg : r.getD i (0, 0) = r[i] := by simp [hi]
 rw [hg]
 have h3 := h.cell h1 (i * 2 + 0) (flat_get (f := fun p : Int × Int => ([.int .i64 p.1, .int .i64 p.2] : List Value)) (fun _ => rfl) r i r[i] hp 0 _ rfl)
 have h4 := h.cell h1 (i * 2 + 1) (flat_get (f := fun p : Int × Int => ([.int .i64 p.1, .int .i64 p.2] : List Value)) (fun _ => rfl) r i r[i] hp 1 _ rfl)
 rw [Nat.add_zero] at h3
 rw [Nat.zero_add]
 exact ⟨h3, h4⟩
theorem ex_cr : crAll (edsV exBow) = [((1 : Rat), (1 : Rat))] := by decide +kernel
theorem ex_on : onV (edsV exBow) ((1 : Rat), (1 : Rat)) = [0, 2] := by decide +kernel
theorem ex_bow : simB exBow = false := by decide +kernel
theorem ex_tri : simB exTri = true := by decide +kernel
theorem ex_isx {w w' : World} {e : Ending} (h : IsxRet exBow w e w') : ∃ (g1 c1 g2 c2 go co : Nat) (pe : R2E), e = .returned (.tuple #[.slice (some ⟨g1, 0, none⟩) 1 c1, .slice (some ⟨g2, 0, none⟩) 1 c2]) /\ w'.rangeAt g1 0 pe.cells /\ pe.a.Is w' (((1 : Int) : Rat) / ((1 : Int) : Rat)) /\
  w'.rangeAt g2 0 [.slice (some ⟨go, 0, none⟩) 2 co] /\ w'.rangeAt go 0 [.int .i64 0, .int .i64 2] /\ Ext w w' := by
 obtain ⟨v1, v2, ps, os, rfl, h1, h2, h3, h4, h5, h6, h7, hx⟩ := h
 have hp : ps.map R2E.vl = [((1 : Rat), (1 : Rat))] := strict_unique (lt := fun x y => cmp2 x y < 0) (fun a h => by rw [cmp2_eq.2 rfl] at h; exact absurd h (by decide)) (fun a b c h1 h2 => cmp2_tr (fun h => by rw [cmp2_lt] at h h1; obtain ⟨a1, a2⟩ := a; obtain ⟨b1, b2⟩ := b; simp only at h h1; grind) h2) h2 (by simp) (fun z => (h3 z).trans (by rw [ex_cr]))
 cases ps with
 | nil => simp at hp
 | cons pe tl =>
  simp only [List.map_cons, List.cons.injEq, List.map_eq_nil_iff] at hp
  obtain ⟨hp, rfl⟩ := hp
  cases os with
  | nil => simp at h6
  | cons o tl =>
   simp only [List.map_cons, List.map_nil, List.cons.injEq, List.map_eq_nil_iff] at h6
   obtain ⟨h6, rfl⟩ := h6
   rw [hp, ex_on] at h6
   have h8 := h7 o (by simp)
   obtain ⟨oA, oc, ol⟩ := o
   simp only at h6
   subst h6
   unfold OnE.Ok at h8
   obtain ⟨A1, c1, rfl, e1⟩ := h1.form
   obtain ⟨g1, rfl⟩ := e1 (by simp)
   obtain ⟨A2, c2, rfl, e2⟩ := h5.form
   obtain ⟨g2, rfl⟩ := e2 (by simp)
   obtain ⟨A3, c3, e3, e4⟩ := h8.form
   obtain ⟨go, rfl⟩ := e4 (by simp)
   injection e3 with e3 e5 e6
   subst e3
   have h9 := (h4 pe (by simp)).1
   have h10 : pe.p = ((1 : Int) : Rat) / ((1 : Int) : Rat) := (congrArg Prod.fst hp).trans (by decide +kernel)
   rw [h10] at h9
   exact ⟨g1, c1, g2, c2, go, oc, pe, rfl, h1.rangeAt 0 _ (fun j v hj => by simpa using hj), h9, h5.rangeAt 0 _ (fun j v hj => by simpa [OnE.cells] using hj), h8.rangeAt 0 _ (fun j v hj => by simpa [iC] using hj), hx⟩
theorem ex_evL : (∀ x, x ∈ evL (1, 1) (3, 3) exSq -> x = 1 \/ x = 3) /\ (1 : Rat) ∈ evL (1, 1) (3, 3) exSq /\ (3 : Rat) ∈ evL (1, 1) (3, 3) exSq := by decide +kernel
theorem ex_ev {w w' : World} {e : Ending} (h : EvRet (1, 1) (3, 3) exSq w e w') : ∃ (A : Option Addr) (c : Nat), e = .returned (.slice A 2 c) /\ Ext w w' := by
 obtain ⟨v, es, rfl, h1, h2, h3, h4, hx⟩ := h
 have hq : es.map R1E.q = [(1 : Rat), 3] := strict_unique (lt := fun x y : Rat => x < y) (fun a h => by grind) (fun a b c h1 h2 => by grind) h2 (by simp; decide) (fun z => (h3 z).trans ⟨fun h => by have := ex_evL.1 z h; simpa using this, fun h => by
  have h5 : z = 1 \/ z = 3 := by simpa using h
  rcases h5 with rfl | rfl
  ·exact ex_evL.2.1
  exact ex_evL.2.2⟩)
 have hl : es.length = 2 := by have := congrArg List.length hq; simpa using this
 rw [hl] at h1
 obtain ⟨A, c, rfl, _⟩ := h1.form
 exact ⟨A, c, rfl, hx⟩
theorem pt17_any (x y : Int) (w : World) : Calls Tryz.prog 10 #[.int .i64 x, .int .i64 y] w fun e w' => e = .returned (.agg #[.int .i64 x, .int .i64 y]) /\ Ext w w' := by
 go_enter Tryz.func10, Tryz.ntmps10
 have H0 := zH (Hp.start w)
 go_upto_region 0 with fail
 refine wl ?_
 refine aA' 24 [.int .i64 0, .int .i64 0] H0.out ?_
 intro X1 w2 H3 _
 go_upto_region 1 with fail
 refine wl ?_
 refine zI3 (Hp.start _) (.int .i64 x) (.int .i64 y) _ ?_
 refine aS' 0 [.int .i64 x, .int .i64 y] H3.out ?_
 intro w9 H10 _
 go_wp2_with fail
 refine bodyPost_ret (v := .agg #[.int .i64 x, .int .i64 y]) ?_ rfl ⟨rfl, H10.out.ext⟩
 exact results_cell1 rfl rfl ((H10.out.blk (i := 0) rR).loadVar rfl rfl rR)
theorem frac17_any (n d : Int) (w : World) (h1 : -9223372036854775808 <= n /\ n <= 9223372036854775807) (h2 : -9223372036854775808 <= d /\ d <= 9223372036854775807) (hd : d ≠ 0) : Calls Tryz.prog 13 #[.int .i64 n, .int .i64 d] w fun e w' => ∃ r : RV, e = .returned (.agg #[.bool r.n, .slice r.p r.l r.c, .bool r.m, .slice r.p2 r.l2 r.c2]) /\ r.Is w' (((n : Int) : Rat) / ((d : Int) : Rat)) /\ Ext w w' := by
 go_enter Tryz.func13, Tryz.ntmps13
 have H0 := zH (Hp.start w)
 go_upto_region 0 with fail
 refine wl ?_
 refine aA' 34 rz H0.out ?_
 intro X12 w13 H14 _
 go_upto_region 1 with fail
 refine wl ?_
 refine qV (.int .i64 n) ?_
 refine zq (.int .i64 d) ?_
 refine zc (q17FromInts n d _ h1.1 h1.2 h2.1 h2.2 hd) ?_
 rintro e w19 ⟨c_, rfl, hc_, hx⟩
 have H20 := zH (H14.out.step hx)
 obtain ⟨r, rfl, hr_⟩ := hc_
 have RF := zH hr_
 clear hr_ hx
 refine zn ?_
 refine zI3 (Hp.start _) _ _ _ ?_
 refine aA' 34 rz H20.out ?_
 intro X25 w26 H27 D27
 refine aS' 1 (rc r) H27.out ?_
 intro w30 H31 D31
 refine zq (.int .i64 0) ?_
 go_upto_region 2 with fail
 refine wl ?_
 refine zI1 H31.out _ ?_
 refine aS' 0 (rc r) H31.out ?_
 intro w34 H35 D35
 have DD37 := tD (tD D27 D31) D35
 go_wp2_with fail
 refine bodyPost_ret (v := .agg #[.bool r.n, .slice r.p r.l r.c, .bool r.m, .slice r.p2 r.l2 r.c2]) ?_ rfl ⟨r, rfl, (RF.out.dig DD37.out), H35.out.ext⟩
 exact results_cell1 rfl rfl ((H35.out.blk (i := 0) rR).loadVar rfl rfl rR)
end Go.Proofs.YthdapkpmikeehacGreat
namespace Go.Proofs.YthdapkpmikeehacGreat
open Go.RowKit
attribute [local go_sem ↓] Go.wp_at_zero Go.wp_at_succ run_max_ii run_min_ii
open Go.RowKit Go.Shelf
theorem edges_loopX {n p0 p1 : Nat} {g : Operand} {assign body : Code} {Q : Exit -> Act -> World -> Prop} {a : Act} {W1 : World} (hn : 2 <= n) (G : Nat -> Prop) (Bx : Nat) (u : Value) (rs : List Ring)
  (hg : a.eval g = .func (.func 49) #[] #[.pointer (some ⟨Bx, 0, none⟩)]) (hcb : W1.cell? ⟨Bx, 0, none⟩ = some u) (hGb : ¬ G Bx) (hR : RingsO (fun k => ¬ G k) W1 u rs) (hrs : rs.length <= 100000) (hok : okR rs = true)
  (hG : ∀ k, W1.heap.size <= k -> G k)
  (I : List OkE -> World -> Prop) (Ix : Code -> List OkE -> World -> Prop) (hI : OwnFrom W1.heap.size I) (hIx : ∀ c, OwnFrom W1.heap.size (Ix c)) (h0 : I [] W1) (Ax : OkE -> Act -> World -> Prop) (hAx : ∀ x a', OwnFrom W1.heap.size (fun (_ : Unit) W => Ax x a' W))
  (hassign : ∀ (l : Nat) (pre : List OkE) (x : OkE) (W : World) (K : Act -> World -> Prop), I pre W -> (∀ a' W', KeepsFrom W1.heap.size W W' -> Fr G W W' -> I pre W' -> Ax x a' W' -> K a' W') ->
   assign.wpIn (Fence.wide.inRound l) (n - 1 - 1) Tryz.prog (Exit.then K (fun _ _ _ => False)) { tmps := (a.tmps.setIfInBounds p0 (ptVal2 x.1.1)).setIfInBounds p1 (ptVal2 x.1.2), defers := [] } W)
  (hbody : ∀ (l : Nat) (pre : List OkE) (x : OkE) (a' : Act) (W : World), I pre W -> Ax x a' W -> pre.length < 4096 ->
   body.wpIn (Fence.wide.inRound l) (n - 1 - 1) Tryz.prog (ownPostG W1.heap.size (Fr G) I Ix (pre ++ [x]) W) a' W)
  (hdone : ∀ (D : Nat) (xs : List OkE) (W : World), W1.heap.size <= D -> xs.map Subtype.val = edgesV rs -> I xs W -> W.heap[D]? = some (.deferred (some [])) -> Q .normal { a with defers := { target := .collected D, args := #[] } :: a.defers } W)
  (hstop : ∀ (D : Nat) (c : Code) (pre : List OkE) (W : World), W1.heap.size <= D -> pre.map Subtype.val <+: edgesV rs -> Ix c pre W -> W.heap[D]? = some (.deferred (some [])) -> c.wpIn Fence.wide n Tryz.prog Q { a with defers := { target := .collected D, args := #[] } :: a.defers } W) :
  (Code.rangeFunc g #[p0, p1] assign body).wpIn Fence.wide n Tryz.prog Q a W1 := by
 have hseq : SeqStopsK Fence.wide (n - 1) Tryz.prog 49 #[.pointer (some ⟨Bx, 0, none⟩)] encE (Fr G) (fun xs => xs.map Subtype.val = edgesV rs) (fun pre => pre.map Subtype.val <+: edgesV rs) 4096 W1 := by
  intro l J Jx W hW hJa hJxa hY hJ0
  have hx : Ext W1 W := hW
  have hRW := hR.ext hx
  have hrl : ∀ r, r ∈ rs -> r.length <= 4096 := fun r hr => by
   obtain ⟨k, hk⟩ := List.mem_iff_getElem?.1 hr
   have h1 := tot_succ hk
   have h2 := tot_take rs (k + 1)
   have h3 := okR_tot hok
   omega
  have hN : (edgesV rs).length <= 4096 := Nat.le_trans (edgesV_len rs) (okR_tot hok)
  have hEx : ∀ (s : List OkE) (A B : World), J s A -> Ext A B -> J s B := fun s A B h x => hJa s A B none h (grown_of_ext _ x) (fun r e => by cases e)
  refine (edges1_in (n - 1) (by omega) l Bx 4096 G u rs (fun s W => ∃ xs : List OkE, xs.map Subtype.val = s /\ J xs W) (fun s W => ∃ xs : List OkE, xs.map Subtype.val = s /\ Jx xs W) W (hx.get hcb) hGb hRW hrl hrs
   (fun s A B h x => by obtain ⟨xs, h1, h2⟩ := h; exact ⟨xs, h1, hEx _ _ _ h2 x⟩) ?_ hN ⟨[], rfl, hJ0⟩).mono ?_
  ·rintro pre x W2 ⟨xs, rfl, h2⟩ hlen hmem
   refine (hY xs ⟨x, edges_ok hok x hmem⟩ W2 h2 (by simpa using hlen)).mono ?_
   rintro e W3 (⟨rfl, h3, h4⟩ | ⟨rfl, h3⟩)
   ·exact .inl ⟨rfl, ⟨_, by simp, h3⟩, h4⟩
   exact .inr ⟨rfl, ⟨_, by simp, h3⟩⟩
  rintro e W2 ⟨h1, ⟨ys, rfl, xs, h2, h3⟩ | ⟨pre, h2, xs, h3, h4⟩⟩
  ·exact ⟨h1, .inl ⟨xs, h2, h3⟩⟩
  exact ⟨h1, .inr ⟨xs, by show xs.map Subtype.val <+: edgesV rs; rw [h3]; exact h2, h4⟩⟩
 refine wpIn_rangeFunc_ownH rfl (by omega) (gf := 49) (lb := #[.pointer (some ⟨Bx, 0, none⟩)]) hg trivial (enters_of Tryz.func49 kR rfl)
  hseq (fun h k => Fr.trans h k) (fun W l o o' hl _ _ _ => Fr.putObj W l o' (.inl (hG l hl))) (Below.refl _ _) (fun _ => rfl) I Ix hI hIx h0 Ax hAx ?assign ?body ?done ?stop
 case assign =>
  intro l pre x W K hi hK
  have e : ((#[p0, p1] : Array Tmp).zip (encE x)).foldl (fun t (p, v) => t.setIfInBounds p v) a.tmps = (a.tmps.setIfInBounds p0 (ptVal2 x.1.1)).setIfInBounds p1 (ptVal2 x.1.2) := by simp [encE]
  rw [e]
  exact hassign l pre x W K hi hK
 case body => exact fun l pre x a' W _ _ hi ha hlt => hbody l pre x a' W hi ha hlt
 case done => exact fun D xs W hD hs hi hK => hdone D xs W hD hs hi hK
 case stop => exact fun D c pre W hD hp h hK => hstop D c pre W hD hp h hK
end Go.Proofs.YthdapkpmikeehacGreat
namespace Go.Proofs.YthdapkpmikeehacGreat
open Go.RowKit
attribute [local go_sem ↓] Go.wp_at_zero Go.wp_at_succ run_max_ii run_min_ii
theorem exq56 : segN (0, 0) (2, 2) (0, 2) (2, 0) = 1 := by decide +kernel
theorem exq57 : segX (0, 0) (2, 2) (0, 2) (2, 0) = (((1 : Int) : Rat) / ((1 : Int) : Rat)) := by decide +kernel
theorem exq58 : segY (0, 0) (2, 2) (0, 2) (2, 0) = (((1 : Int) : Rat) / ((1 : Int) : Rat)) := by decide +kernel
theorem exq103 : segN (0, 0) (3, 1) (0, 1) (3, 0) = 1 := by decide +kernel
theorem exq104 : segX (0, 0) (3, 1) (0, 1) (3, 0) = (((3 : Int) : Rat) / ((2 : Int) : Rat)) := by decide +kernel
theorem exq105 : segY (0, 0) (3, 1) (0, 1) (3, 0) = (((1 : Int) : Rat) / ((2 : Int) : Rat)) := by decide +kernel
theorem exq150 : segN (0, 0) (4, 0) (1, 0) (9, 0) = 2 := by decide +kernel
theorem exq189 : yatC (0, 0) (4, 2) 1 := ⟨by decide, by decide, by decide, by decide, by decide⟩
theorem exq190 : yatQ (0, 0) (4, 2) 1 = (((1 : Int) : Rat) / ((2 : Int) : Rat)) := by decide +kernel
theorem exq224 : xatC (0, 0) (4, 2) (((3 : Int) : Rat) / ((2 : Int) : Rat)) := ⟨by decide, by decide, by decide, by decide +kernel, by decide +kernel⟩
theorem exq225 : xatQ (0, 0) (4, 2) (((3 : Int) : Rat) / ((2 : Int) : Rat)) = (((3 : Int) : Rat) / ((1 : Int) : Rat)) := by decide +kernel
theorem example17_any (w : World) : Calls Tryz.prog 5 #[] w fun e w' => e = .returned (.bool true) /\ Ext w w' := by
 refine (callsIn_wide (n := 4)).1 ?_
 refine callsIn_of_wp_marks Tryz.func5 rfl trivial ?_ rfl
 simp only [Tryz.ntmps5, List.size_toArray, List.length_cons, List.length_nil, Nat.reduceAdd, Nat.reduceSub, Array.replicate_succ, Array.replicate_zero, List.push_toArray, List.append_toArray, List.nil_append, List.cons_append]
 refine wpIn_wide.2 ?_
 refine Go.Code.wp_mono bodyPostQ.m ?_
 have H0 := zH (Hp.start w)
 go_upto_region 0 with fail
 refine wl ?_
 refine aA' 4 [.bool false] H0.out ?_
 intro X38 w39 H40 _
 go_upto_region 1 with fail
 refine wl ?_
 refine aC H40.out (pt17_any 0 0 _) ?_
 intro w43 H44 _
 refine aC H44.out (pt17_any 2 2 _) ?_
 intro w46 H47 _
 refine aC H47.out (pt17_any 0 2 _) ?_
 intro w49 H50 _
 refine aC H50.out (pt17_any 2 0 _) ?_
 intro w52 H53 _
 refine zc (((segments_any (0, 0) (2, 2) (0, 2) (2, 0) _ dC dC dC dC).mono (fun _ _ h_ => SegRet.yes h_ exq56))) ?_
 rintro e w55 ⟨r59, s59, rfl, hr_, hs_, hx⟩
 have H60 := zH (H53.out.step hx)
 rw [exq57] at hr_
 rw [exq58] at hs_
 have R59 := zH hr_
 have S59 := zH hs_
 clear hr_ hs_ hx
 refine zn ?_
 refine zI4 (Hp.start _) _ _ _ _ ?_
 refine aA' 34 rz H60.out ?_
 intro X66 w67 H68 D68
 refine aA' 34 rz H68.out ?_
 intro X71 w72 H73 D73
 refine aA' 3 [.int .i64 0] H73.out ?_
 intro X76 w77 H78 D78
 refine aS' 1 (rc r59) H78.out ?_
 intro w81 H82 D82
 refine aS' 2 (rc s59) H82.out ?_
 intro w84 H85 D85
 refine aU' 3 (.int .i64 1) H85.out ?_
 intro w87 H88 D88
 go_upto_region 2 with fail
 refine wl ?_
 refine aC H88.out (pt17_any 0 0 _) ?_
 intro w90 H91 D91
 refine aC H91.out (pt17_any 3 1 _) ?_
 intro w93 H94 D94
 refine aC H94.out (pt17_any 0 1 _) ?_
 intro w96 H97 D97
 refine aC H97.out (pt17_any 3 0 _) ?_
 intro w99 H100 D100
 refine zc (((segments_any (0, 0) (3, 1) (0, 1) (3, 0) _ dC dC dC dC).mono (fun _ _ h_ => SegRet.yes h_ exq103))) ?_
 rintro e w102 ⟨r106, s106, rfl, hr_, hs_, hx⟩
 have H107 := zH (H100.out.step hx)
 have D107 := zH (Dig.of_ext hx)
 rw [exq104] at hr_
 rw [exq105] at hs_
 have R106 := zH hr_
 have S106 := zH hs_
 clear hr_ hs_ hx
 refine zn ?_
 refine zI4 (Hp.start _) _ _ _ _ ?_
 refine aA' 34 rz H107.out ?_
 intro X113 w114 H115 D115
 refine aA' 34 rz H115.out ?_
 intro X118 w119 H120 D120
 refine aA' 3 [.int .i64 0] H120.out ?_
 intro X123 w124 H125 D125
 refine aS' 4 (rc r106) H125.out ?_
 intro w128 H129 D129
 refine aS' 5 (rc s106) H129.out ?_
 intro w131 H132 D132
 refine aU' 6 (.int .i64 1) H132.out ?_
 intro w134 H135 D135
 go_upto_region 3 with fail
 refine wl ?_
 refine aC H135.out (pt17_any 0 0 _) ?_
 intro w137 H138 D138
 refine aC H138.out (pt17_any 4 0 _) ?_
 intro w140 H141 D141
 refine aC H141.out (pt17_any 1 0 _) ?_
 intro w143 H144 D144
 refine aC H144.out (pt17_any 9 0 _) ?_
 intro w146 H147 D147
 refine aC H147.out (((segments_any (0, 0) (4, 0) (1, 0) (9, 0) _ dC dC dC dC).mono (fun _ _ h_ => by have h2_ := SegRet.no h_ (by rw [exq150]; decide); rw [exq150] at h2_; exact h2_))) ?_
 intro w149 H151 D151
 refine zI4 (Hp.start _) _ _ _ _ ?_
 refine aA' 34 rz H151.out ?_
 intro X157 w158 H159 D159
 refine aA' 34 rz H159.out ?_
 intro X162 w163 H164 D164
 refine aA' 3 [.int .i64 0] H164.out ?_
 intro X167 w168 H169 D169
 refine aS' 7 rz H169.out ?_
 intro w172 H173 D173
 refine aS' 8 rz H173.out ?_
 intro w175 H176 D176
 refine aU' 9 (.int .i64 2) H176.out ?_
 intro w178 H179 D179
 go_upto_region 4 with fail
 refine wl ?_
 refine aC H179.out (pt17_any 0 0 _) ?_
 intro w181 H182 D182
 refine aC H182.out (pt17_any 4 2 _) ?_
 intro w184 H185 D185
 refine zc (((yat_any (0, 0) (4, 2) 1 _ dC).mono (fun _ _ h_ => AtRet.yes h_ exq189))) ?_
 rintro e w187 ⟨r188, rfl, hr_, hx⟩
 have H191 := zH (H185.out.step hx)
 have D191 := zH (Dig.of_ext hx)
 rw [exq190] at hr_
 have R188 := zH hr_
 clear hr_ hx
 refine zn ?_
 refine zI3 (Hp.start _) _ _ (.bool true) ?_
 refine aA' 34 rz H191.out ?_
 intro X196 w197 H198 D198
 refine aA' 4 [.bool false] H198.out ?_
 intro X201 w202 H203 D203
 refine aS' 10 (rc r188) H203.out ?_
 intro w206 H207 D207
 refine aU' 11 (.bool true) H207.out ?_
 intro w209 H210 D210
 go_upto_region 5 with fail
 refine wl ?_
 refine aC H210.out (pt17_any 0 0 _) ?_
 intro w212 H213 D213
 refine aC H213.out (pt17_any 4 2 _) ?_
 intro w215 H216 D216
 refine zc (frac17_any 3 2 _ dC dC dC) ?_
 rintro e w218 ⟨r219, rfl, hr_, hx⟩
 have H220 := zH (H216.out.step hx)
 have D220 := zH (Dig.of_ext hx)
 have R219 := zH hr_
 have B219 := zH (rl_qq 3 2 (by decide) (by decide))
 clear hr_ hx
 refine zn ?_
 refine zc (((xatf_any 8 (0, 0) (4, 2) r219 (((3 : Int) : Rat) / ((2 : Int) : Rat)) _ (RV.Is.isIn R219.out B219.out) dC ⟨by decide, by decide⟩ ⟨by decide, by decide⟩).mono (fun _ _ h_ => AtRet.yes h_ exq224))) ?_
 rintro e w222 ⟨r223, rfl, hr_, hx⟩
 have H226 := zH (H220.out.step hx)
 have D226 := zH (Dig.of_ext hx)
 rw [exq225] at hr_
 have R223 := zH hr_
 clear hr_ hx
 refine zn ?_
 refine zI3 (Hp.start _) _ _ (.bool true) ?_
 refine aA' 34 rz H226.out ?_
 intro X231 w232 H233 D233
 refine aA' 4 [.bool false] H233.out ?_
 intro X236 w237 H238 D238
 refine aS' 12 (rc r223) H238.out ?_
 intro w241 H242 D242
 refine aU' 13 (.bool true) H242.out ?_
 intro w244 H245 D245
 go_upto_region 6 with fail
 refine wl ?_
 refine aC H245.out (pt17_any 0 0 _) ?_
 intro w247 H248 D248
 refine aC H248.out (pt17_any 4 0 _) ?_
 intro w250 H251 D251
 refine aC H251.out (pt17_any 4 4 _) ?_
 intro w253 H254 D254
 refine aC H254.out (pt17_any 0 4 _) ?_
 intro w256 H257 D257
 refine aL' 4 24 [.int .i64 0, .int .i64 0, .int .i64 4, .int .i64 0, .int .i64 4, .int .i64 4, .int .i64 0, .int .i64 4] H257.out ?_
 intro X259 w260 H261 D261
 refine aL' 1 36 [.slice (some ⟨X259, 0, none⟩) 4 4] H261.out ?_
 intro X263 w264 H265 D265
 refine aC H265.out (pt17_any 1 1 _) ?_
 intro w267 H268 D268
 refine aC H268.out (pt17_any 3 3 _) ?_
 intro w270 H271 D271
 refine zc (((eventYs_any (.slice (some ⟨X263, 0, none⟩) 1 1) exSq (1, 1) (3, 3) _ (ringLit (i := 14) (j := 15) H271.out [(0, 0), (4, 0), (4, 4), (0, 4)] rR rR) dC dC).mono (fun _ _ h_ => ex_ev h_))) ?_
 rintro e w273 ⟨Al, cl, rfl, hx⟩
 have H274 := zH (H271.out.step hx)
 have D274 := zH (Dig.of_ext hx)
 clear hx
 refine zn ?_
 refine aA' 27 [.slice none 0 0] H274.out ?_
 intro X276 w277 H278 D278
 refine aU' 16 (.slice Al 2 cl) H278.out ?_
 intro w281 H282 D282
 go_upto_region 7 with fail
 refine wl ?_
 refine aC H282.out (pt17_any 0 0 _) ?_
 intro w284 H285 D285
 refine aC H285.out (pt17_any 2 2 _) ?_
 intro w287 H288 D288
 refine aC H288.out (pt17_any 2 0 _) ?_
 intro w290 H291 D291
 refine aC H291.out (pt17_any 0 2 _) ?_
 intro w293 H294 D294
 refine aL' 4 24 [.int .i64 0, .int .i64 0, .int .i64 2, .int .i64 2, .int .i64 2, .int .i64 0, .int .i64 0, .int .i64 2] H294.out ?_
 intro X296 w297 H298 D298
 refine aL' 1 36 [.slice (some ⟨X296, 0, none⟩) 4 4] H298.out ?_
 intro X300 w301 H302 D302
 refine zI1 (Hp.start _) _ ?_
 go_upto_region 8 with fail
 refine wl ?_
 refine zI1 (Hp.start _) _ ?_
 refine zc (((intersections_any (some ⟨X300, 0, none⟩) 1 [[(0, 0), (2, 2), (2, 0), (0, 2)]] _ (ringLit (i := 17) (j := 18) H302.out [(0, 0), (2, 2), (2, 0), (0, 2)] rR rR) dC dC dC).mono (fun _ _ h_ => ex_isx h_))) ?_
 rintro e w306 ⟨g1, c1, g2, c2, go, co, pe, rfl, hp_, hi_, ho_, hn_, hx⟩
 have H307 := zH (H302.out.step hx)
 have D307 := zH (Dig.of_ext hx)
 have HRP := zH hp_
 have HRI := zH hi_
 have HRO := zH ho_
 have HRN := zH hn_
 clear hp_ hi_ ho_ hn_ hx
 refine zn ?_
 refine zI5 (Hp.start _) _ _ _ _ _ ?_
 go_upto_region 9 with fail
 refine zy ?_
 have H314 := zH (H307.out.step (Ext.refl w306).drew)
 have D314 := zH (Dig.of_ext (w := w306) zb)
 refine zJ2 (Hp.start _) zb (bs 44 3) 0 1 _ _ ?_
 refine zu 2 (bs 44 7) (v := .bool false) zb ?_ (hv := by intro w hSw; exact ezn (e := (dec_f (by omega))))
 refine zJ3 (Hp.start _) zb (bs 44 63) 3 4 5 (.bool false) _ _ ?_
 refine zu 6 (bs 44 127) (v := .bool false) zb ?_ (hv := by intro w hSw; exact ezn (e := (dec_f (by omega))))
 refine zJ3 (Hp.start _) zb (bs 44 1023) 7 8 9 (.bool false) (.bool false) _ ?_
 refine zu 10 (bs 44 2047) (v := .pointer (some ⟨g2, 0 * 1, none⟩)) zb ?_ (hv := by intro w hSw; exact ezi (k := 0) Tryz.underlying45 (l := dC) (f := (Nat.zero_add _).symm))
 refine zf 11 (bs 44 4095) g2 (0 * 1) (.slice (some ⟨go, 0, none⟩) 2 co) HRO.out zb ?_
 refine zx 12 (bs 44 8191) (.int .i64 2) zb ?_
 refine zu 13 (bs 44 16383) (v := .bool false) zb ?_ (hv := by intro w hSw; exact ezn (e := (dec_f (by omega))))
 refine zJ3 (Hp.start _) zb (bs 44 131071) 14 15 16 (.bool false) (.bool false) _ ?_
 refine zu 17 (bs 44 262143) (v := .pointer (some ⟨g2, 0 * 1, none⟩)) zb ?_ (hv := by intro w hSw; exact ezi (k := 0) Tryz.underlying45 (l := dC) (f := (Nat.zero_add _).symm))
 refine zf 18 (bs 44 524287) g2 (0 * 1) (.slice (some ⟨go, 0, none⟩) 2 co) HRO.out zb ?_
 refine zu 19 (bs 44 1048575) (v := .pointer (some ⟨go, 0 * 1, none⟩)) zb ?_ (hv := by intro w hSw; exact ezi (k := 0) Tryz.underlying48 (l := dC) (f := (Nat.zero_add _).symm))
 refine zf 20 (bs 44 2097151) go (0 * 1) (.int .i64 0) (range_part HRN.out 0 1) zb ?_
 refine zu 21 (bs 44 4194303) (v := .bool false) zb ?_ (hv := by intro w hSw; exact ezn (e := (dec_f (by omega))))
 refine zJ3 (Hp.start _) zb (bs 44 33554431) 22 23 24 (.bool false) (.bool false) _ ?_
 refine zu 25 (bs 44 67108863) (v := .pointer (some ⟨g2, 0 * 1, none⟩)) zb ?_ (hv := by intro w hSw; exact ezi (k := 0) Tryz.underlying45 (l := dC) (f := (Nat.zero_add _).symm))
 refine zf 26 (bs 44 134217727) g2 (0 * 1) (.slice (some ⟨go, 0, none⟩) 2 co) HRO.out zb ?_
 refine zu 27 (bs 44 268435455) (v := .pointer (some ⟨go, 1 * 1, none⟩)) zb ?_ (hv := by intro w hSw; exact ezi (k := 1) Tryz.underlying48 (l := dC) (f := (Nat.zero_add _).symm))
 refine zf 28 (bs 44 536870911) go (1 * 1) (.int .i64 2) (range_part HRN.out 1 1) zb ?_
 refine zu 29 (bs 44 1073741823) (v := .bool false) zb ?_ (hv := by intro w hSw; exact ezn (e := (dec_f (by omega))))
 refine zJ3 (Hp.start _) zb (bs 44 8589934591) 30 31 32 (.bool false) (.bool false) _ ?_
 refine zu 33 (bs 44 17179869183) (v := .pointer (some ⟨g1, 0 * 8, none⟩)) zb ?_ (hv := by intro w hSw; exact ezi (k := 0) Tryz.underlying44 (l := dC) (f := (Nat.zero_add _).symm))
 refine zJ1 (Hp.start _) zb (bs 44 34359738367) 34 _ ?_
 refine zg 35 (bs 44 68719476735) g1 (0 * 8) (rc pe.a) (range_part HRP.out 0 4) Tryz.underlying34 zb ?_
 refine mC 36 (bs 44 137438953471) (frac17_any 1 1 _ dC dC dC) ?_
 rintro e w346 ⟨r347, rfl, hr_, hx⟩
 have H348 := zH (H314.out.step hx)
 have D348 := zH (show Dig w306.drew w346 from Dig.of_ext hx)
 have S350 := zH (zb.trans hx)
 have R347 := zH hr_
 have B347 := zH (rl_qq 1 1 (by decide) (by decide))
 clear hr_ hx
 refine zm S350.out ?_
 have DD352 := tD D314 D348
 refine mC 37 (bs 44 274877906943) (same17_any pe.a r347 (((1 : Int) : Rat) / ((1 : Int) : Rat)) 8 _ (HRI.out.dig DD352.out) R347.out B347.out dC) ?_
 rintro e w351 ⟨rfl, hx⟩
 have H353 := zH (H348.out.step hx)
 have D353 := zH (Dig.of_ext hx)
 have S355 := zH (S350.out.trans hx)
 clear hx
 refine zm S355.out ?_
 refine zJ4 (Hp.start _) S355.out (bs 44 4398046511103) 38 39 40 41 (.bool false) (.bool false) (.bool false) _ ?_
 refine mC 42 (bs 44 8796093022207) (isSimple_any (some ⟨X300, 0, none⟩) 1 [[(0, 0), (2, 2), (2, 0), (0, 2)]] _ (ringLit (i := 17) (j := 18) H353.out [(0, 0), (2, 2), (2, 0), (0, 2)] rR rR) dC dC dC) ?_
 rintro e w360 ⟨rfl, hx⟩
 have H361 := zH (H353.out.step hx)
 have D361 := zH (Dig.of_ext hx)
 have S363 := zH (S355.out.trans hx)
 clear hx
 refine ⟨.bool false, by rw [show simB [[(0, 0), (2, 2), (2, 0), (0, 2)]] = false from ex_bow], S363.out, ?_⟩
 try simp only [Act.put, zA, zB, zC]
 refine zx 43 (bs 44 17592186044415) (.bool false) S363.out ?_
 refine wpAnyH_done kR ?_ _
 go_upto_region 11 with fail
 refine wl ?_
 refine aC H361.out (pt17_any 0 0 _) ?_
 intro w365 H366 D366
 refine aC H366.out (pt17_any 4 0 _) ?_
 intro w368 H369 D369
 refine aC H369.out (pt17_any 0 4 _) ?_
 intro w371 H372 D372
 refine aL' 3 24 [.int .i64 0, .int .i64 0, .int .i64 4, .int .i64 0, .int .i64 0, .int .i64 4] H372.out ?_
 intro X374 w375 H376 D376
 refine aL' 1 36 [.slice (some ⟨X374, 0, none⟩) 3 3] H376.out ?_
 intro X378 w379 H380 D380
 refine zc (isSimple_any (some ⟨X378, 0, none⟩) 1 [[(0, 0), (4, 0), (0, 4)]] _ (ringLit (i := 19) (j := 20) H380.out [(0, 0), (4, 0), (0, 4)] rR rR) dC dC dC) ?_
 rintro e w382 ⟨rfl, hx⟩
 have H383 := zH (H380.out.step hx)
 have D383 := zH (Dig.of_ext hx)
 clear hx
 refine ⟨.bool true, by rw [show simB [[(0, 0), (4, 0), (0, 4)]] = true from ex_tri], ?_⟩
 try simp only [Act.put, zA, zB, zC]
 refine zq (.bool false) ?_
 go_upto_region 13 with fail
 refine wl ?_
 refine aC H383.out (pt17_any 0 0 _) ?_
 intro w386 H387 D387
 refine aC H387.out (pt17_any 1 0 _) ?_
 intro w389 H390 D390
 refine aC H390.out (pt17_any 1 0 _) ?_
 intro w392 H393 D393
 refine aL' 3 24 [.int .i64 0, .int .i64 0, .int .i64 1, .int .i64 0, .int .i64 1, .int .i64 0] H393.out ?_
 intro X395 w396 H397 D397
 refine aL' 1 36 [.slice (some ⟨X395, 0, none⟩) 3 3] H397.out ?_
 intro X399 w400 H401 D401
 refine zc (edges_any (.slice (some ⟨X399, 0, none⟩) 1 1) exDeg _ (ringLit (i := 21) (j := 22) H401.out [(0, 0), (1, 0), (1, 0)] rR rR) dC dC) ?_
 rintro e w403 ⟨Bx, ve, rfl, hB1, hB2, hcell, hR, hx⟩
 have HB1 := zH hB1
 have HB2 := zH hB2
 have HCL := zH hcell
 rw [if_pos (show okR exDeg = true by decide)] at hR
 have HRG := zH hR
 clear hB1 hB2 hcell hR
 have H404 := zH (H401.out.step hx)
 have D404 := zH (Dig.of_ext hx)
 clear hx
 refine zn ?_
 refine zI1 (Hp.start _) _ ?_
 go_upto_region 14 with fail
 refine wl ?_
 refine zI1 (Hp.start _) _ ?_
 refine zp (w' := w403) (.bool false) (by go_simp <;> kernel_rfl) ?_
 go_upto_region 16 with fail
 refine wl ?_
 refine zI1 (Hp.start _) _ ?_
 have hb0 := H401.out.lt (i := 0) (k := X38) (by rfl) rfl
 have HRF := zH (show RingsO (fun k_ => ¬ (fun j => j = X38 \/ w403.heap.size <= j) k_) w403 ve exDeg from HRG.out.imp (fun k_ h hk => by rcases hk with rfl | hk; omega; omega))
 have HWS := zH (show w.heap.size <= w403.heap.size from H404.out.ext.size)
 have hgb : ¬ (fun j => j = X38 \/ w403.heap.size <= j) Bx := fun hk => by have h1 := HB1.out; have h9 := HB2.out; rcases hk with hk | hk; omega; omega
 obtain ⟨J0, hJ0⟩ : ∃ J : List OkE -> World -> Prop, J = fun pre W => pre = [] /\ Hp w W [.blk X38 4 [.bool false], .blk X66 34 [.bool r59.n, .slice r59.p r59.l r59.c, .bool r59.m, .slice r59.p2 r59.l2 r59.c2], .blk X71 34 [.bool s59.n, .slice s59.p s59.l s59.c, .bool s59.m, .slice s59.p2 s59.l2 s59.c2], .blk X76 3 [.int .i64 1], .blk X113 34 [.bool r106.n, .slice r106.p r106.l r106.c, .bool r106.m, .slice r106.p2 r106.l2 r106.c2], .blk X118 34 [.bool s106.n, .slice s106.p s106.l s106.c, .bool s106.m, .slice s106.p2 s106.l2 s106.c2], .blk X123 3 [.int .i64 1], .blk X157 34 [.bool false, .slice none 0 0, .bool false, .slice none 0 0], .blk X162 34 [.bool false, .slice none 0 0, .bool false, .slice none 0 0], .blk X167 3 [.int .i64 2], .blk X196 34 [.bool r188.n, .slice r188.p r188.l r188.c, .bool r188.m, .slice r188.p2 r188.l2 r188.c2], .blk X201 4 [.bool true], .blk X231 34 [.bool r223.n, .slice r223.p r223.l r223.c, .bool r223.m, .slice r223.p2 r223.l2 r223.c2], .blk X236 4 [.bool true], .blk X259 24 [.int .i64 0, .int .i64 0, .int .i64 4, .int .i64 0, .int .i64 4, .int .i64 4, .int .i64 0, .int .i64 4], .blk X263 36 [.slice (some ⟨X259, 0, none⟩) 4 4], .blk X276 27 [.slice Al 2 cl], .blk X296 24 [.int .i64 0, .int .i64 0, .int .i64 2, .int .i64 2, .int .i64 2, .int .i64 0, .int .i64 0, .int .i64 2], .blk X300 36 [.slice (some ⟨X296, 0, none⟩) 4 4], .blk X374 24 [.int .i64 0, .int .i64 0, .int .i64 4, .int .i64 0, .int .i64 0, .int .i64 4], .blk X378 36 [.slice (some ⟨X374, 0, none⟩) 3 3], .blk X395 24 [.int .i64 0, .int .i64 0, .int .i64 1, .int .i64 0, .int .i64 1, .int .i64 0], .blk X399 36 [.slice (some ⟨X395, 0, none⟩) 3 3]] /\ Ext w403 W := ⟨_, rfl⟩
 obtain ⟨Jx, hJx⟩ : ∃ J : Code -> List OkE -> World -> Prop, J = fun c _ W => c = .ret /\ Blk W X38 4 ([.bool true] : List Value).toArray /\ Ext w W := ⟨_, rfl⟩
 obtain ⟨Ja, hJa⟩ : ∃ J : OkE -> Act -> World -> Prop, J = fun _ a' _ => ∃ J : Nat -> Value, a' = { tmps := #[.pointer (some ⟨X38, 0, none⟩), .pointer (some ⟨X66, 0, none⟩), .pointer (some ⟨X71, 0, none⟩), .pointer (some ⟨X76, 0, none⟩), .pointer (some ⟨X113, 0, none⟩), .pointer (some ⟨X118, 0, none⟩), .pointer (some ⟨X123, 0, none⟩), .pointer (some ⟨X157, 0, none⟩), .pointer (some ⟨X162, 0, none⟩), .pointer (some ⟨X167, 0, none⟩), .pointer (some ⟨X196, 0, none⟩), .pointer (some ⟨X201, 0, none⟩), .pointer (some ⟨X231, 0, none⟩), .pointer (some ⟨X236, 0, none⟩), .pointer (some ⟨X276, 0, none⟩), J 15, J 16, J 17, J 18, J 19, J 20, J 21, J 22, J 23, J 24, J 25, J 26, J 27, J 28, J 29, J 30, J 31, J 32, J 33, J 34, J 35, J 36, J 37, J 38, J 39, J 40, J 41, J 42, J 43, J 44, J 45, J 46, J 47, J 48, J 49, J 50, J 51, J 52, J 53, J 54, J 55, J 56, J 57, J 58, J 59, J 60, J 61, J 62, J 63, J 64, J 65, J 66, J 67, J 68, J 69, J 70, J 71, J 72, J 73, J 74, J 75, J 76, J 77, J 78, J 79, J 80, J 81, J 82, J 83, J 84, J 85, J 86, J 87, J 88, J 89, J 90, J 91, J 92, J 93, J 94, J 95, J 96, J 97, J 98, J 99, J 100, J 101, J 102, J 103, J 104, J 105, J 106, J 107, J 108, J 109, J 110, J 111, J 112, J 113, J 114, J 115, J 116, J 117, J 118, J 119, J 120, J 121, J 122, J 123, J 124, J 125, J 126, J 127, J 128, J 129, J 130, J 131, J 132, J 133, J 134, J 135, J 136, J 137, J 138, J 139, J 140, J 141, J 142, J 143, J 144, J 145, J 146, J 147, J 148, J 149, J 150, J 151, J 152, J 153, J 154, J 155, J 156, J 157, J 158, J 159, J 160, J 161, J 162, J 163, J 164, J 165, J 166, J 167, J 168, J 169, J 170, J 171, J 172, J 173, J 174, J 175, J 176, J 177, J 178, J 179, J 180, J 181, J 182, J 183, J 184, J 185, J 186, J 187, J 188, J 189, J 190, J 191], defers := [] } := ⟨_, rfl⟩
 have DD412 := tD (tD (tD (tD (tD (tD (tD (tD (tD (tD (tD (tD (tD (tD (tD (tD (tD (tD (tD (tD (tD (tD (tD (tD (tD (tD (tD (tD (tD (tD (tD (tD (tD (tD (tD (tD (tD (tD (tD (tD (tD (tD (tD (tD (tD (tD (tD (tD (tD (tD (tD (tD (tD (tD (tD (tD (tD (tD (tD (tD (tD (tD (tD (tD (tD (tD (tD (tD (tD (tD (tD (tD (tD (tD (tD (tD D68 D73) D78) D82) D85) D88) D91) D94) D97) D100) D107) D115) D120) D125) D129) D132) D135) D138) D141) D144) D147) D151) D159) D164) D169) D173) D176) D179) D182) D185) D191) D198) D203) D207) D210) D213) D216) D220) D226) D233) D238) D242) D245) D248) D251) D254) D257) D261) D265) D268) D271) D274) D278) D282) D285) D288) D291) D294) D298) D302) D307) D314) D348) D353) D361) D366) D369) D372) D376) D380) D383) D387) D390) D393) D397) D401) D404
 have DD415 := tD (tD (tD (tD (tD (tD (tD (tD (tD (tD (tD (tD (tD (tD (tD (tD (tD (tD (tD (tD (tD (tD (tD (tD (tD (tD (tD (tD (tD (tD (tD (tD (tD (tD (tD (tD (tD (tD (tD (tD (tD (tD (tD (tD (tD (tD (tD (tD (tD (tD (tD (tD (tD (tD (tD (tD (tD (tD (tD (tD (tD (tD (tD (tD (tD D115 D120) D125) D129) D132) D135) D138) D141) D144) D147) D151) D159) D164) D169) D173) D176) D179) D182) D185) D191) D198) D203) D207) D210) D213) D216) D220) D226) D233) D238) D242) D245) D248) D251) D254) D257) D261) D265) D268) D271) D274) D278) D282) D285) D288) D291) D294) D298) D302) D307) D314) D348) D353) D361) D366) D369) D372) D376) D380) D383) D387) D390) D393) D397) D401) D404
 have DD418 := tD (tD (tD (tD (tD (tD (tD (tD (tD (tD (tD (tD (tD (tD (tD (tD (tD (tD (tD (tD (tD (tD (tD (tD (tD (tD (tD (tD (tD (tD (tD (tD (tD (tD (tD (tD (tD (tD (tD (tD (tD (tD (tD (tD (tD D198 D203) D207) D210) D213) D216) D220) D226) D233) D238) D242) D245) D248) D251) D254) D257) D261) D265) D268) D271) D274) D278) D282) D285) D288) D291) D294) D298) D302) D307) D314) D348) D353) D361) D366) D369) D372) D376) D380) D383) D387) D390) D393) D397) D401) D404
 have DD420 := tD (tD (tD (tD (tD (tD (tD (tD (tD (tD (tD (tD (tD (tD (tD (tD (tD (tD (tD (tD (tD (tD (tD (tD (tD (tD (tD (tD (tD (tD (tD (tD (tD (tD (tD (tD (tD D233 D238) D242) D245) D248) D251) D254) D257) D261) D265) D268) D271) D274) D278) D282) D285) D288) D291) D294) D298) D302) D307) D314) D348) D353) D361) D366) D369) D372) D376) D380) D383) D387) D390) D393) D397) D401) D404
 go_wp2_with fail
 refine wpIn_wide.1 (edges_loopX (n := 4) (by omega) (fun j => j = X38 \/ w403.heap.size <= j) Bx ve exDeg rR HCL.out hgb HRF.out dC dC (fun k_ h_ => .inr h_) J0 Jx ?own ?ownx (by rw [hJ0]; exact ⟨rfl, H404.out, Ext.refl _⟩) Ja (by rw [hJa]; exact fun _ _ _ _ _ _ h _ _ => h) ?assign ?body ?done ?stop)
 case own =>
  rw [hJ0]
  rintro s W W' row ⟨h1, h2, h3⟩ hg hr
  exact ⟨h1, h2.keptQ hg (fun k hk => ⟨Nat.le_trans HWS.out (hr k hk).1, (hr k hk).2⟩), Ext.grown h3 hg (fun k hk => (hr k hk).1)⟩
 case ownx =>
  rw [hJx]
  rintro c s W W' row ⟨h1, h2, h3⟩ hg hr
  exact ⟨h1, h2.kept hg (fun k hk => (hr k hk).2), Ext.grown h3 hg (fun k hk => Nat.le_trans HWS.out (hr k hk).1)⟩
 case assign =>
  intro l pre x W K hi hK
  skip
  gi_wp2
  refine hK _ _ (KeepsFrom.refl _ _) (Fr.of_ext (Ext.refl _)) hi ?_
  rw [hJa]
  exact frame_ex (by rfl)
 case body =>
  intro l pre x a' W hi hax hlen
  rw [hJ0] at hi
  rw [hJa] at hax
  obtain ⟨hpre, hh, hxx⟩ := hi
  obtain ⟨J, rfl⟩ := hax
  have H0 := zH hh
  have HXX := zH hxx
  clear hh hxx
  have RW411 := zH (R59.out.dig (DD412.out.trans (Dig.of_ext HXX.out)))
  have RW413 := zH (S59.out.dig (DD412.out.trans (Dig.of_ext HXX.out)))
  have RW414 := zH (R106.out.dig (DD415.out.trans (Dig.of_ext HXX.out)))
  have RW416 := zH (S106.out.dig (DD415.out.trans (Dig.of_ext HXX.out)))
  have RW417 := zH (R188.out.dig (DD418.out.trans (Dig.of_ext HXX.out)))
  have RW419 := zH (R223.out.dig (DD420.out.trans (Dig.of_ext HXX.out)))
  gi_upto_region 17 with fail
  refine wpIn_region_held_drew (S := fun x => Fr (fun kz => kz = X38) W x) kR kR (fun ⟨_, _, h⟩ => h) (Fr.of_ext zb) (fun _ => ?_)
  have H421 := zH (H0.out.step (Ext.refl W).drew)
  have D421 := zH (Dig.of_ext (w := W) zb)
  have K423 := zH (show Fr (fun kz => kz = X38) W W.drew from (Fr.of_ext (G := fun kz => kz = X38) (Ext.refl W)).trans (Fr.of_ext (Ext.refl W).drew))
  refine md_ld1 (g := X76) (o := 0) (v := .int .i64 1) (i := 0) (listed' := (bs 52 1)) rR kR kR kR (by intro _ _ _ h; exact h) rR (fun x hx => Fr.cell hx (show World.cell? W ⟨X76, 0, none⟩ = some (.int .i64 1) from cell_of_range (H0.out.range (i := 3) rR 0 1)) (H0.out.offBlk (i := 3) (j := 0) rR rR dC rR)) (by intro x hq; go_simp <;> with_reducible rfl) (Fr.of_ext zb) kR ?_
  try simp only [Act.put, zA, zB, zC]
  refine zu 1 (bs 52 3) (v := .bool true) (Fr.of_ext zb) ?_ (hv := by intro w hSw; exact ezq (e := (dec_t (by omega))))
  refine mX 2 (bs 52 7) (.bool true) (Fr.of_ext zb) ?_
  refine zr 3 (bs 52 15) X66 (0) [.bool r59.n, .slice r59.p r59.l r59.c, .bool r59.m, .slice r59.p2 r59.l2 r59.c2] (fun x hx => Fr.range hx (show World.rangeAt W X66 (0) [.bool r59.n, .slice r59.p r59.l r59.c, .bool r59.m, .slice r59.p2 r59.l2 r59.c2] from (H0.out.range (i := 1) rR 0 4)) (H0.out.offBlk (i := 1) (j := 0) rR rR dC rR)) Tryz.underlying34 (Fr.of_ext zb) ?_
  refine mC 4 (bs 52 31) (frac17_any 1 1 _ dC dC dC) ?_
  rintro e w426 ⟨r427, rfl, hr_, hx⟩
  have H428 := zH (H421.out.step hx)
  have D428 := zH (show Dig W.drew w426 from Dig.of_ext hx)
  have K430 := zH (K423.out.trans (Fr.of_ext hx))
  have S432 := zH (show Fr (fun kz => kz = X38) W w426 from (Fr.of_ext zb).trans (Fr.of_ext hx))
  have R427 := zH hr_
  have B427 := zH (rl_qq 1 1 (by decide) (by decide))
  clear hr_ hx
  refine zm S432.out ?_
  have DD434 := tD D421 D428
  refine mC 5 (bs 52 63) (same17_any r59 r427 (((1 : Int) : Rat) / ((1 : Int) : Rat)) 8 _ (RW411.out.dig DD434.out) R427.out B427.out dC) ?_
  rintro e w433 ⟨rfl, hx⟩
  have H435 := zH (H428.out.step hx)
  have D435 := zH (Dig.of_ext hx)
  have K437 := zH (K430.out.trans (Fr.of_ext hx))
  have S439 := zH (S432.out.trans (Fr.of_ext hx))
  clear hx
  refine zm S439.out ?_
  refine zx 6 (bs 52 127) (.bool true) S439.out ?_
  refine mX 7 (bs 52 255) (.bool true) S439.out ?_
  refine zr 8 (bs 52 511) X71 (0) [.bool s59.n, .slice s59.p s59.l s59.c, .bool s59.m, .slice s59.p2 s59.l2 s59.c2] (fun x hx => Fr.range hx (show World.rangeAt W X71 (0) [.bool s59.n, .slice s59.p s59.l s59.c, .bool s59.m, .slice s59.p2 s59.l2 s59.c2] from (H0.out.range (i := 2) rR 0 4)) (H0.out.offBlk (i := 2) (j := 0) rR rR dC rR)) Tryz.underlying34 S439.out ?_
  refine mC 9 (bs 52 1023) (frac17_any 1 1 _ dC dC dC) ?_
  rintro e w442 ⟨r443, rfl, hr_, hx⟩
  have H444 := zH (H435.out.step hx)
  have D444 := zH (Dig.of_ext hx)
  have K446 := zH (K437.out.trans (Fr.of_ext hx))
  have S448 := zH (S439.out.trans (Fr.of_ext hx))
  have R443 := zH hr_
  have B443 := zH (rl_qq 1 1 (by decide) (by decide))
  clear hr_ hx
  refine zm S448.out ?_
  have DD450 := tD (tD DD434 D435) D444
  refine mC 10 (bs 52 2047) (same17_any s59 r443 (((1 : Int) : Rat) / ((1 : Int) : Rat)) 8 _ (RW413.out.dig DD450.out) R443.out B443.out dC) ?_
  rintro e w449 ⟨rfl, hx⟩
  have H451 := zH (H444.out.step hx)
  have D451 := zH (Dig.of_ext hx)
  have K453 := zH (K446.out.trans (Fr.of_ext hx))
  have S455 := zH (S448.out.trans (Fr.of_ext hx))
  clear hx
  refine zm S455.out ?_
  refine zx 11 (bs 52 4095) (.bool true) S455.out ?_
  refine zx 12 (bs 52 8191) (.bool true) S455.out ?_
  refine md_ld1 (g := X123) (o := 0) (v := .int .i64 1) (i := 13) (listed' := (bs 52 16383)) rR kR kR kR (by intro _ _ _ h; exact h) rR (fun x hx => Fr.cell hx (show World.cell? W ⟨X123, 0, none⟩ = some (.int .i64 1) from cell_of_range (H0.out.range (i := 6) rR 0 1)) (H0.out.offBlk (i := 6) (j := 0) rR rR dC rR)) (by intro x hq; go_simp <;> with_reducible rfl) S455.out kR ?_
  try simp only [Act.put, zA, zB, zC]
  refine zu 14 (bs 52 32767) (v := .bool true) S455.out ?_ (hv := by intro w hSw; exact ezq (e := (dec_t (by omega))))
  refine zx 15 (bs 52 65535) (.bool true) S455.out ?_
  refine mX 16 (bs 52 131071) (.bool true) S455.out ?_
  refine zr 17 (bs 52 262143) X113 (0) [.bool r106.n, .slice r106.p r106.l r106.c, .bool r106.m, .slice r106.p2 r106.l2 r106.c2] (fun x hx => Fr.range hx (show World.rangeAt W X113 (0) [.bool r106.n, .slice r106.p r106.l r106.c, .bool r106.m, .slice r106.p2 r106.l2 r106.c2] from (H0.out.range (i := 4) rR 0 4)) (H0.out.offBlk (i := 4) (j := 0) rR rR dC rR)) Tryz.underlying34 S455.out ?_
  refine mC 18 (bs 52 524287) (frac17_any 3 2 _ dC dC dC) ?_
  rintro e w461 ⟨r462, rfl, hr_, hx⟩
  have H463 := zH (H451.out.step hx)
  have D463 := zH (Dig.of_ext hx)
  have K465 := zH (K453.out.trans (Fr.of_ext hx))
  have S467 := zH (S455.out.trans (Fr.of_ext hx))
  have R462 := zH hr_
  have B462 := zH (rl_qq 3 2 (by decide) (by decide))
  clear hr_ hx
  refine zm S467.out ?_
  have DD469 := tD (tD DD450 D451) D463
  refine mC 19 (bs 52 1048575) (same17_any r106 r462 (((3 : Int) : Rat) / ((2 : Int) : Rat)) 8 _ (RW414.out.dig DD469.out) R462.out B462.out dC) ?_
  rintro e w468 ⟨rfl, hx⟩
  have H470 := zH (H463.out.step hx)
  have D470 := zH (Dig.of_ext hx)
  have K472 := zH (K465.out.trans (Fr.of_ext hx))
  have S474 := zH (S467.out.trans (Fr.of_ext hx))
  clear hx
  refine zm S474.out ?_
  refine zx 20 (bs 52 2097151) (.bool true) S474.out ?_
  refine mX 21 (bs 52 4194303) (.bool true) S474.out ?_
  refine zr 22 (bs 52 8388607) X118 (0) [.bool s106.n, .slice s106.p s106.l s106.c, .bool s106.m, .slice s106.p2 s106.l2 s106.c2] (fun x hx => Fr.range hx (show World.rangeAt W X118 (0) [.bool s106.n, .slice s106.p s106.l s106.c, .bool s106.m, .slice s106.p2 s106.l2 s106.c2] from (H0.out.range (i := 5) rR 0 4)) (H0.out.offBlk (i := 5) (j := 0) rR rR dC rR)) Tryz.underlying34 S474.out ?_
  refine mC 23 (bs 52 16777215) (frac17_any 1 2 _ dC dC dC) ?_
  rintro e w477 ⟨r478, rfl, hr_, hx⟩
  have H479 := zH (H470.out.step hx)
  have D479 := zH (Dig.of_ext hx)
  have K481 := zH (K472.out.trans (Fr.of_ext hx))
  have S483 := zH (S474.out.trans (Fr.of_ext hx))
  have R478 := zH hr_
  have B478 := zH (rl_qq 1 2 (by decide) (by decide))
  clear hr_ hx
  refine zm S483.out ?_
  have DD485 := tD (tD DD469 D470) D479
  refine mC 24 (bs 52 33554431) (same17_any s106 r478 (((1 : Int) : Rat) / ((2 : Int) : Rat)) 8 _ (RW416.out.dig DD485.out) R478.out B478.out dC) ?_
  rintro e w484 ⟨rfl, hx⟩
  have H486 := zH (H479.out.step hx)
  have D486 := zH (Dig.of_ext hx)
  have K488 := zH (K481.out.trans (Fr.of_ext hx))
  have S490 := zH (S483.out.trans (Fr.of_ext hx))
  clear hx
  refine zm S490.out ?_
  refine zx 25 (bs 52 67108863) (.bool true) S490.out ?_
  refine zx 26 (bs 52 134217727) (.bool true) S490.out ?_
  refine md_ld1 (g := X167) (o := 0) (v := .int .i64 2) (i := 27) (listed' := (bs 52 268435455)) rR kR kR kR (by intro _ _ _ h; exact h) rR (fun x hx => Fr.cell hx (show World.cell? W ⟨X167, 0, none⟩ = some (.int .i64 2) from cell_of_range (H0.out.range (i := 9) rR 0 1)) (H0.out.offBlk (i := 9) (j := 0) rR rR dC rR)) (by intro x hq; go_simp <;> with_reducible rfl) S490.out kR ?_
  try simp only [Act.put, zA, zB, zC]
  refine zu 28 (bs 52 536870911) (v := .bool true) S490.out ?_ (hv := by intro w hSw; exact ezq (e := (dec_t (by omega))))
  refine zx 29 (bs 52 1073741823) (.bool true) S490.out ?_
  refine zx 30 (bs 52 2147483647) (.bool true) S490.out ?_
  refine md_ld1 (g := X201) (o := 0) (v := .bool true) (i := 31) (listed' := (bs 52 4294967295)) rR kR kR kR (by intro _ _ _ h; exact h) rR (fun x hx => Fr.cell hx (show World.cell? W ⟨X201, 0, none⟩ = some (.bool true) from cell_of_range (H0.out.range (i := 11) rR 0 1)) (H0.out.offBlk (i := 11) (j := 0) rR rR dC rR)) (by intro x hq; go_simp <;> with_reducible rfl) S490.out kR ?_
  try simp only [Act.put, zA, zB, zC]
  refine zx 32 (bs 52 8589934591) (.bool true) S490.out ?_
  refine mX 33 (bs 52 17179869183) (.bool true) S490.out ?_
  refine zr 34 (bs 52 34359738367) X196 (0) [.bool r188.n, .slice r188.p r188.l r188.c, .bool r188.m, .slice r188.p2 r188.l2 r188.c2] (fun x hx => Fr.range hx (show World.rangeAt W X196 (0) [.bool r188.n, .slice r188.p r188.l r188.c, .bool r188.m, .slice r188.p2 r188.l2 r188.c2] from (H0.out.range (i := 10) rR 0 4)) (H0.out.offBlk (i := 10) (j := 0) rR rR dC rR)) Tryz.underlying34 S490.out ?_
  refine mC 35 (bs 52 68719476735) (frac17_any 1 2 _ dC dC dC) ?_
  rintro e w498 ⟨r499, rfl, hr_, hx⟩
  have H500 := zH (H486.out.step hx)
  have D500 := zH (Dig.of_ext hx)
  have K502 := zH (K488.out.trans (Fr.of_ext hx))
  have S504 := zH (S490.out.trans (Fr.of_ext hx))
  have R499 := zH hr_
  have B499 := zH (rl_qq 1 2 (by decide) (by decide))
  clear hr_ hx
  refine zm S504.out ?_
  have DD506 := tD (tD DD485 D486) D500
  refine mC 36 (bs 52 137438953471) (same17_any r188 r499 (((1 : Int) : Rat) / ((2 : Int) : Rat)) 8 _ (RW417.out.dig DD506.out) R499.out B499.out dC) ?_
  rintro e w505 ⟨rfl, hx⟩
  have H507 := zH (H500.out.step hx)
  have D507 := zH (Dig.of_ext hx)
  have K509 := zH (K502.out.trans (Fr.of_ext hx))
  have S511 := zH (S504.out.trans (Fr.of_ext hx))
  clear hx
  refine zm S511.out ?_
  refine zx 37 (bs 52 274877906943) (.bool true) S511.out ?_
  refine zx 38 (bs 52 549755813887) (.bool true) S511.out ?_
  refine md_ld1 (g := X236) (o := 0) (v := .bool true) (i := 39) (listed' := (bs 52 1099511627775)) rR kR kR kR (by intro _ _ _ h; exact h) rR (fun x hx => Fr.cell hx (show World.cell? W ⟨X236, 0, none⟩ = some (.bool true) from cell_of_range (H0.out.range (i := 13) rR 0 1)) (H0.out.offBlk (i := 13) (j := 0) rR rR dC rR)) (by intro x hq; go_simp <;> with_reducible rfl) S511.out kR ?_
  try simp only [Act.put, zA, zB, zC]
  refine zx 40 (bs 52 2199023255551) (.bool true) S511.out ?_
  refine mX 41 (bs 52 4398046511103) (.bool true) S511.out ?_
  refine zr 42 (bs 52 8796093022207) X231 (0) [.bool r223.n, .slice r223.p r223.l r223.c, .bool r223.m, .slice r223.p2 r223.l2 r223.c2] (fun x hx => Fr.range hx (show World.rangeAt W X231 (0) [.bool r223.n, .slice r223.p r223.l r223.c, .bool r223.m, .slice r223.p2 r223.l2 r223.c2] from (H0.out.range (i := 12) rR 0 4)) (H0.out.offBlk (i := 12) (j := 0) rR rR dC rR)) Tryz.underlying34 S511.out ?_
  refine mC 43 (bs 52 17592186044415) (frac17_any 3 1 _ dC dC dC) ?_
  rintro e w516 ⟨r517, rfl, hr_, hx⟩
  have H518 := zH (H507.out.step hx)
  have D518 := zH (Dig.of_ext hx)
  have K520 := zH (K509.out.trans (Fr.of_ext hx))
  have S522 := zH (S511.out.trans (Fr.of_ext hx))
  have R517 := zH hr_
  have B517 := zH (rl_qq 3 1 (by decide) (by decide))
  clear hr_ hx
  refine zm S522.out ?_
  have DD524 := tD (tD DD506 D507) D518
  refine mC 44 (bs 52 35184372088831) (same17_any r223 r517 (((3 : Int) : Rat) / ((1 : Int) : Rat)) 8 _ (RW419.out.dig DD524.out) R517.out B517.out dC) ?_
  rintro e w523 ⟨rfl, hx⟩
  have H525 := zH (H518.out.step hx)
  have K527 := zH (K520.out.trans (Fr.of_ext hx))
  have S529 := zH (S522.out.trans (Fr.of_ext hx))
  clear hx
  refine zm S529.out ?_
  refine zx 45 (bs 52 70368744177663) (.bool true) S529.out ?_
  refine zx 46 (bs 52 140737488355327) (.bool true) S529.out ?_
  refine md_ld1 (g := X276) (o := 0) (v := .slice Al 2 cl) (i := 47) (listed' := (bs 52 281474976710655)) rR kR kR kR (by intro _ _ _ h; exact h) rR (fun x hx => Fr.cell hx (show World.cell? W ⟨X276, 0, none⟩ = some (.slice Al 2 cl) from cell_of_range (H0.out.range (i := 16) rR 0 1)) (H0.out.offBlk (i := 16) (j := 0) rR rR dC rR)) (by intro x hq; go_simp <;> with_reducible rfl) S529.out kR ?_
  try simp only [Act.put, zA, zB, zC]
  refine zx 48 (bs 52 562949953421311) (.int .i64 2) S529.out ?_
  refine zu 49 (bs 52 1125899906842623) (v := .bool true) S529.out ?_ (hv := by intro w hSw; exact ezq (e := (dec_t (by omega))))
  refine zx 50 (bs 52 2251799813685247) (.bool true) S529.out ?_
  refine md_st1 (i := 51) (listed' := (bs 52 4503599627370495)) rR kR rR kR _ _ _ rR H525.out (ix := 0) rR 0 (.bool true) rR rR (by simp) kR (by simp [Value.cells]) (by simp [Value.oneCell']) (by simp [NoUL]) ?_
  intro w535 hh hd ho
  have H536 := hN hh
  have K538 := zH (K527.out.trans_new ho (fun j hj => .inl (by injection hj with hj; exact hj.symm)))
  have S539 := zH (Fr.trans_new S529.out ho (fun j hj => .inl (by simpa using hj.symm)))
  clear hh hd ho
  refine ⟨S539.out, ?_⟩
  (try simp only [Act.put])
  refine wpAnyH_done kR ?_ _
  gi_wp2
  have hkx := K538.out
  refine ⟨KeepsFrom.of_fr hkx (fun k_ hk_ o_ ho_ => H0.out.cells (i := 0) rR (by rw [show k_ = X38 from hk_]; rfl) o_ ho_), ?_⟩
  rw [hJx]
  exact ⟨rfl, H536.out.blk (i := 0) (by rfl), H536.out.ext⟩
 case done =>
  rintro D xs W hD hxs hi hK
  rw [hJ0] at hi
  obtain ⟨rfl, _⟩ := hi
  exact absurd hxs (by decide)
 rintro D c pre W hD hp hi hK
 rw [hJx] at hi
 obtain ⟨rfl, h1, h2⟩ := hi
 refine wpIn_wide.2 ?_
 go_wp2_with fail
 refine ⟨by simp, .inl ⟨_, _, rfl, run_takeDeferred hK, ?_⟩⟩
 refine ⟨_, results_cell1 rfl rfl (loadVar_bool (h1.kept (grownBy_putObj' W D (.deferred none)) (fun k hk => by injection hk with hk; subst hk; exact ⟨_, hK, rfl⟩))), rfl, Ext.grown h2 (grownBy_putObj' W D (.deferred none)) (fun k hk => by injection hk with hk; subst hk; exact Nat.le_trans HWS.out hD)⟩
end Go.Proofs.YthdapkpmikeehacGreat
namespace Go.Proofs.YthdapkpmikeehacGreat
open Go.RowKit
theorem lessB_iff {a b : Int × Int} : lessB a b = true ↔ a.2 < b.2 \/ (a.2 = b.2 /\ a.1 < b.1) := by
  unfold lessB
  simp
theorem less_or {a b : Int × Int} (h : ¬ lessB a b = true) (k : ¬ lessB b a = true) : a = b := by
  rw [lessB_iff] at h k
  exact Prod.ext (by omega) (by omega)
theorem less_asym {a b : Int × Int} (h : lessB a b = true) : ¬ lessB b a = true := by
  rw [lessB_iff] at h ⊢
  omega
theorem shL_swap (a b c d : Int × Int) : shL c d a b = shL a b c d := by
  unfold shL
  by_cases h : lessB (endL a b) (endL c d) = true
  · rw [if_pos h, if_neg (less_asym h)]
  by_cases k : lessB (endL c d) (endL a b) = true
  · rw [if_neg h, if_pos k]
  rw [if_neg h, if_neg k, less_or h k]
theorem shH_swap (a b c d : Int × Int) : shH c d a b = shH a b c d := by
  unfold shH
  by_cases h : lessB (endH a b) (endH c d) = true
  · rw [if_pos h, if_neg (less_asym h)]
  by_cases k : lessB (endH c d) (endH a b) = true
  · rw [if_neg h, if_pos k]
  rw [if_neg h, if_neg k, less_or h k]
theorem shared_swap (a b c d : Int × Int) : sharedV c d a b = sharedV a b c d := by unfold sharedV; rw [shL_swap, shH_swap]
theorem cr_neg {u v : Int × Int} : cr u v = - cr v u := by unfold cr; grind
theorem cast_neg_div (x y : Int) : (((-x : Int)) : Rat) / (((-y : Int)) : Rat) = (x : Rat) / (y : Rat) := by
  rw [Rat.intCast_neg, Rat.intCast_neg]
  by_cases h : (y : Rat) = 0
  · rw [h]; simp [Rat.div_def]
  grind
theorem segT_swap (a b c d : Int × Int) : segT c d a b = segS a b c d := by
  unfold segT segS
  rw [show cr (dv c a) (dv a b) = - cr (dv a c) (dv a b) by unfold cr dv; grind, show cr (dv c d) (dv a b) = - cr (dv a b) (dv c d) from cr_neg, cast_neg_div]
theorem segS_swap (a b c d : Int × Int) : segS c d a b = segT a b c d := by
  unfold segT segS
  rw [show cr (dv c a) (dv c d) = - cr (dv a c) (dv c d) by unfold cr dv; grind, show cr (dv c d) (dv a b) = - cr (dv a b) (dv c d) from cr_neg, cast_neg_div]
theorem dv_zero {a b : Int × Int} : dv a b = (0, 0) ↔ a = b := by
  unfold dv
  constructor
  · intro h; injection h with h1 h2; exact Prod.ext (by omega) (by omega)
  intro h; subst h; simp
theorem line_zero {a b c d : Int × Int} : lineV a b c d = (0, 0) ↔ a = b /\ c = d := by
  unfold lineV
  split
  · rename_i h; rw [dv_zero] at h; rw [dv_zero]; exact ⟨fun k => ⟨h, k⟩, fun k => k.2⟩
  rename_i h; exact ⟨fun k => absurd k h, fun k => absurd (dv_zero.2 k.1) h⟩
def offL (a b c d : Int × Int) : Prop := cr (lineV a b c d) (dv a c) ≠ 0 \/ (lineV a b c d = (0, 0) /\ a ≠ c)
theorem par_cr {u v z : Int × Int} (hu : u ≠ (0, 0)) (h : cr u v = 0) (k : cr u z = 0) : cr v z = 0 := by
  obtain ⟨u1, u2⟩ := u
  obtain ⟨v1, v2⟩ := v
  obtain ⟨z1, z2⟩ := z
  unfold cr at h k ⊢
  dsimp only at h k ⊢
  have hu2 : u1 ≠ 0 \/ u2 ≠ 0 := by
    by_cases e : u1 = 0
    · right; intro e2; exact hu (by rw [e, e2])
    exact .inl e
  rcases hu2 with e | e
  · have : u1 * (v1 * z2 - v2 * z1) = 0 := by grind
    exact (Int.mul_eq_zero.1 this).resolve_left e
  have : u2 * (v1 * z2 - v2 * z1) = 0 := by grind
  exact (Int.mul_eq_zero.1 this).resolve_left e
theorem offL_swap1 {a b c d : Int × Int} (h0 : cr (dv a b) (dv c d) = 0) (h : offL c d a b) : offL a b c d := by
 unfold offL at h ⊢
 rcases h with h | ⟨h1, h2⟩
 ·left
  intro k
  apply h
  have hz : cr (lineV a b c d) (dv c a) = 0 := by
   have : cr (lineV a b c d) (dv c a) = - cr (lineV a b c d) (dv a c) := by unfold cr dv; grind
   omega
  by_cases e1 : dv a b = (0, 0)
  ·have e3 : lineV a b c d = dv c d := if_pos e1
   rw [e3] at hz
   by_cases e2 : dv c d = (0, 0)
   ·rw [show lineV c d a b = dv a b from if_pos e2, e1]; unfold cr; simp
   rw [show lineV c d a b = dv c d from if_neg e2]; exact hz
  have e3 : lineV a b c d = dv a b := if_neg e1
  rw [e3] at hz
  by_cases e2 : dv c d = (0, 0)
  ·rw [show lineV c d a b = dv a b from if_pos e2]; exact hz
  rw [show lineV c d a b = dv c d from if_neg e2]; exact par_cr e1 h0 hz
 rw [line_zero] at h1
 exact .inr ⟨line_zero.2 ⟨h1.2, h1.1⟩, fun e => h2 e.symm⟩
theorem offL_swap {a b c d : Int × Int} (h0 : cr (dv a b) (dv c d) = 0) : offL c d a b ↔ offL a b c d :=
  ⟨offL_swap1 h0, offL_swap1 (by rw [cr_neg, h0]; rfl)⟩
theorem segN_l {a b c d : Int × Int} (h : cr (dv a b) (dv c d) = 0) : segN a b c d = (open Classical in if offL a b c d then 0 else (sharedV a b c d).2) := by
  unfold segN
  rw [if_neg (by simpa using h)]
  by_cases k : offL a b c d
  · rw [if_pos k]; exact if_pos k
  rw [if_neg k]; exact if_neg k
theorem segN_p {a b c d : Int × Int} (h : cr (dv a b) (dv c d) ≠ 0) : segN a b c d = if inU (segT a b c d) /\ inU (segS a b c d) then 1 else 0 := if_pos h
theorem segN_swap (a b c d : Int × Int) : segN c d a b = segN a b c d := by
  by_cases h : cr (dv a b) (dv c d) = 0
  · rw [segN_l h, segN_l (by rw [cr_neg, h]; rfl), shared_swap]
    by_cases k : offL a b c d
    · rw [if_pos k, if_pos ((offL_swap h).2 k)]
    rw [if_neg k, if_neg (fun e => k ((offL_swap h).1 e))]
  rw [segN_p h, segN_p (by rw [cr_neg]; omega), segT_swap a b c d, segS_swap a b c d]
  by_cases k : inU (segT a b c d) /\ inU (segS a b c d)
  · rw [if_pos k, if_pos k.symm]
  rw [if_neg k, if_neg (fun e => k e.symm)]
theorem cr_rat {u v : Int × Int} : ((cr u v : Int) : Rat) = (u.1 : Rat) * (v.2 : Rat) - (u.2 : Rat) * (v.1 : Rat) := by unfold cr; rw [Rat.intCast_sub, Rat.intCast_mul, Rat.intCast_mul]
theorem dv1 (a b : Int × Int) : (((dv a b).1 : Int) : Rat) = (b.1 : Rat) - (a.1 : Rat) := by unfold dv; rw [Rat.intCast_sub]
theorem dv2 (a b : Int × Int) : (((dv a b).2 : Int) : Rat) = (b.2 : Rat) - (a.2 : Rat) := by unfold dv; rw [Rat.intCast_sub]
theorem pt_swap {a b c d : Int × Int} (h : cr (dv a b) (dv c d) ≠ 0) :
  (c.1 : Rat) + segS a b c d * ((d.1 - c.1 : Int) : Rat) = (a.1 : Rat) + segT a b c d * ((b.1 - a.1 : Int) : Rat) /\ (c.2 : Rat) + segS a b c d * ((d.2 - c.2 : Int) : Rat) = (a.2 : Rat) + segT a b c d * ((b.2 - a.2 : Int) : Rat) := by
 have h2 : ((cr (dv a b) (dv c d) : Int) : Rat) ≠ 0 := fun e => h (by exact_mod_cast e)
 unfold segS segT
 rw [Rat.intCast_sub, Rat.intCast_sub, Rat.intCast_sub, Rat.intCast_sub]
 simp only [cr_rat, dv1, dv2] at h2 ⊢
 generalize (a.1 : Rat) = a1 at *
 generalize (a.2 : Rat) = a2 at *
 generalize (b.1 : Rat) = b1 at *
 generalize (b.2 : Rat) = b2 at *
 generalize (c.1 : Rat) = c1 at *
 generalize (c.2 : Rat) = c2 at *
 generalize (d.1 : Rat) = d1 at *
 generalize (d.2 : Rat) = d2 at *
 constructor <;> grind
theorem segY_swap {a b c d : Int × Int} : segY c d a b = segY a b c d := by
  unfold segY
  by_cases h : cr (dv a b) (dv c d) = 0
  · rw [if_neg (by rw [cr_neg, h]; decide), if_neg (by rw [h]; decide), shared_swap]
  rw [if_pos (by rw [cr_neg]; omega), if_pos h, segT_swap]
  exact (pt_swap h).2
end Go.Proofs.YthdapkpmikeehacGreat
namespace Go.Proofs.YthdapkpmikeehacGreat
def putQ : List Rat -> Rat -> List Rat
  | [], y => [y]
  | x :: l, y => if x < y then x :: putQ l y else if x = y then x :: l else y :: x :: l
theorem putQ_mem {y z : Rat} : ∀ {l : List Rat}, z ∈ putQ l y ↔ z = y \/ z ∈ l
  | [] => by simp [putQ]
  | x :: l => by
    unfold putQ
    split
    · rw [List.mem_cons, putQ_mem, List.mem_cons]
      constructor
      · rintro (h | h | h)
        · exact .inr (.inl h)
        · exact .inl h
        exact .inr (.inr h)
      rintro (h | h | h)
      · exact .inr (.inl h)
      · exact .inl h
      exact .inr (.inr h)
    split
    · rename_i h; subst h; simp
    simp
theorem putQ_srt {y : Rat} : ∀ {l : List Rat}, l.Pairwise (· < ·) -> (putQ l y).Pairwise (· < ·)
 | [], _ => by simp [putQ]
 | x :: l, h => by
  obtain ⟨h1, h2⟩ := List.pairwise_cons.1 h
  unfold putQ
  split
  ·rename_i hx
   refine List.pairwise_cons.2 ⟨fun z hz => ?_, putQ_srt h2⟩
   rcases putQ_mem.1 hz with e | e
   ·rw [e]; exact hx
   exact h1 z e
  split
  ·exact h
  rename_i hx hy
  have hlt : y < x := by
   have := Rat.not_lt.1 hx
   grind
  refine List.pairwise_cons.2 ⟨fun z hz => ?_, h⟩
  rcases List.mem_cons.1 hz with e | e
  ·rw [e]; exact hlt
  have := h1 z e; grind
theorem putQ_at {y : Rat} : ∀ {l : List Rat} {k : Nat}, (∀ i x, i < k -> l[i]? = some x -> x < y) -> (∀ x, l[k]? = some x -> ¬ x < y) -> k <= l.length -> putQ l y = if l[k]? = some y then l else l.take k ++ y :: l.drop k
 | [], k, _, _, hk => by
  have : k = 0 := by simpa using hk
  subst this; simp [putQ]
 | x :: l, 0, _, h2, _ => by
  unfold putQ
  rw [if_neg (h2 x rfl)]
  by_cases e : x = y
  ·subst e; simp
  rw [if_neg e, if_neg (by simpa using e)]; simp
 | x :: l, k + 1, h1, h2, hk => by
  unfold putQ
  rw [if_pos (h1 0 x (by omega) rfl)]
  have ih := putQ_at (l := l) (k := k) (y := y) (fun i z hi hz => h1 (i + 1) z (by omega) (by simpa using hz)) (fun z hz => h2 z (by simpa using hz)) (by simpa using hk)
  rw [ih, List.getElem?_cons_succ]
  split <;> simp
def outQ (lo hi : Rat) (l all : List Rat) : List Rat := all.foldl (fun o x => if lo < x /\ x < hi then putQ o x else o) l
theorem outQ_snoc {lo hi x : Rat} {l all : List Rat} : outQ lo hi l (all ++ [x]) = if lo < x /\ x < hi then putQ (outQ lo hi l all) x else outQ lo hi l all := by unfold outQ; rw [List.foldl_append]; rfl
theorem outQ_mem {lo hi z : Rat} : ∀ {all l : List Rat}, z ∈ outQ lo hi l all ↔ z ∈ l \/ (z ∈ all /\ lo < z /\ z < hi)
  | [], l => by simp [outQ]
  | x :: all, l => by
    show z ∈ outQ lo hi (if lo < x /\ x < hi then putQ l x else l) all ↔ _
    rw [outQ_mem]
    by_cases h : lo < x /\ x < hi
    · rw [if_pos h, putQ_mem, List.mem_cons]
      constructor
      · rintro ((e | e) | e)
        · subst e; exact .inr ⟨.inl rfl, h⟩
        · exact .inl e
        exact .inr ⟨.inr e.1, e.2⟩
      rintro (e | ⟨e | e, f⟩)
      · exact .inl (.inr e)
      · exact .inl (.inl e)
      exact .inr ⟨e, f⟩
    rw [if_neg h, List.mem_cons]
    constructor
    · rintro (e | e)
      · exact .inl e
      exact .inr ⟨.inr e.1, e.2⟩
    rintro (e | ⟨e | e, f⟩)
    · exact .inl e
    · subst e; exact absurd f h
    exact .inr ⟨e, f⟩
theorem outQ_srt {lo hi : Rat} : ∀ {all l : List Rat}, l.Pairwise (· < ·) -> (outQ lo hi l all).Pairwise (· < ·)
  | [], l, h => h
  | x :: all, l, h => by
    show (outQ lo hi (if lo < x /\ x < hi then putQ l x else l) all).Pairwise (· < ·)
    refine outQ_srt ?_
    split
    · exact putQ_srt h
    exact h
theorem outQ_first {lo hi : Rat} (h : lo < hi) (all : List Rat) : (outQ lo hi [lo, hi] all).head? = some lo /\ (outQ lo hi [lo, hi] all).getLast? = some hi := by
 have hs := outQ_srt (lo := lo) (hi := hi) (all := all) (l := [lo, hi]) (by simp [h])
 have hm : ∀ z, z ∈ outQ lo hi [lo, hi] all -> lo <= z /\ z <= hi := by
  intro z hz
  rcases outQ_mem.1 hz with e | ⟨_, e1, e2⟩
  ·simp at e
   rcases e with rfl | rfl
   ·exact ⟨Rat.le_refl, Rat.le_of_lt h⟩
   exact ⟨Rat.le_of_lt h, Rat.le_refl⟩
  exact ⟨Rat.le_of_lt e1, Rat.le_of_lt e2⟩
 have hl : lo ∈ outQ lo hi [lo, hi] all := outQ_mem.2 (.inl (by simp))
 have hh : hi ∈ outQ lo hi [lo, hi] all := outQ_mem.2 (.inl (by simp))
 generalize outQ lo hi [lo, hi] all = L at *
 constructor
 ·cases L with
  | nil => simp at hl
  | cons x l =>
   have h1 := (hm x (by simp)).1
   rcases List.mem_cons.1 hl with e | e
   ·rw [<- e]; rfl
   have := (List.pairwise_cons.1 hs).1 lo e; grind
 rcases List.eq_nil_or_concat L with e | ⟨l, x, e⟩
 ·rw [e] at hl; simp at hl
 rw [List.concat_eq_append] at e
 subst e
 rw [List.getLast?_concat]
 have h1 := (hm x (by simp)).2
 rcases List.mem_append.1 hh with e | e
 ·have := (List.pairwise_append.1 hs).2.2 hi e x (by simp); grind
 simp at e; rw [e]
def refStep (a b : Int × Int) (pre : List Edge) (x : Edge) : List Rat := pre.flatMap (fun o => segL x o) ++ yatL x a.1 ++ yatL x b.1
def refC (a b : Int × Int) : List Edge -> List Edge -> List Rat
  | _, [] => []
  | pre, x :: l => refStep a b pre x ++ refC a b (pre ++ [x]) l
theorem refC_snoc (a b : Int × Int) (x : Edge) : ∀ (l p : List Edge), refC a b p (l ++ [x]) = refC a b p l ++ refStep a b (p ++ l) x
  | [], p => by simp [refC]
  | y :: l, p => by
    have h := refC_snoc a b x l (p ++ [y])
    simp only [List.cons_append, refC]
    rw [h, List.append_assoc, List.append_assoc]
    rfl
def refP (rs : List Ring) : List Rat := rs.flatMap fun r => r.map fun p => (p.2 : Rat)
def refAll (a b : Int × Int) (rs : List Ring) : List Rat := refP rs ++ refC a b [] (edgesV rs)
theorem segL_swap (x o : Edge) : segL o x = segL x o := by unfold segL; rw [segN_swap, segY_swap]
theorem btw_mem {lo hi q z : Rat} : z ∈ btw lo hi q ↔ z = q /\ lo < z /\ z < hi := by
  unfold btw
  split
  · rename_i h; simp; intro e; rw [e]; exact h
  rename_i h; simp; intro e h1 h2; rw [e] at h1 h2; exact h ⟨h1, h2⟩
theorem bind_btw {lo hi z : Rat} {l : List Rat} : z ∈ l.flatMap (btw lo hi) ↔ z ∈ l /\ lo < z /\ z < hi := by
  rw [List.mem_flatMap]
  constructor
  · rintro ⟨q, h1, h2⟩; obtain ⟨e, h3⟩ := btw_mem.1 h2; rw [e] at h3 ⊢; exact ⟨h1, h3⟩
  rintro ⟨h1, h2⟩; exact ⟨z, h1, btw_mem.2 ⟨rfl, h2⟩⟩
theorem step_mem {a b : Int × Int} {pre : List Edge} {x : Edge} {z : Rat} : z ∈ evStep a b pre x ↔ z ∈ refStep a b pre x /\ (a.2 : Rat) < z /\ z < (b.2 : Rat) := by
 unfold evStep refStep
 rw [List.mem_append, List.mem_append, List.mem_append, List.mem_append, bind_btw, bind_btw, List.mem_flatMap, List.mem_flatMap]
 constructor
 ·rintro ((⟨h1, h2⟩ | ⟨h1, h2⟩) | ⟨o, h1, h2⟩)
  ·exact ⟨.inl (.inr h1), h2⟩
  ·exact ⟨.inr h1, h2⟩
  rw [bind_btw, segL_swap] at h2
  exact ⟨.inl (.inl ⟨o, h1, h2.1⟩), h2.2⟩
 rintro ⟨(⟨o, h1, h2⟩ | h1) | h1, h3⟩
 ·exact .inr ⟨o, h1, by rw [bind_btw, segL_swap]; exact ⟨h2, h3⟩⟩
 ·exact .inl (.inl ⟨h1, h3⟩)
 exact .inl (.inr ⟨h1, h3⟩)
theorem evC_mem {a b : Int × Int} {z : Rat} : ∀ {l p : List Edge}, z ∈ evC a b p l ↔ z ∈ refC a b p l /\ (a.2 : Rat) < z /\ z < (b.2 : Rat)
  | [], p => by simp [evC, refC]
  | x :: l, p => by
    unfold evC refC
    rw [List.mem_append, List.mem_append, step_mem, evC_mem]
    constructor
    · rintro (h | h)
      · exact ⟨.inl h.1, h.2⟩
      exact ⟨.inr h.1, h.2⟩
    rintro ⟨h | h, k⟩
    · exact .inl ⟨h, k⟩
    exact .inr ⟨h, k⟩
theorem evP_mem {a b : Int × Int} {rs : List Ring} {z : Rat} : z ∈ evP a b rs ↔ z ∈ refP rs /\ (a.2 : Rat) < z /\ z < (b.2 : Rat) := by
  unfold evP refP
  simp only [List.mem_flatMap, List.mem_map, btw_mem]
  constructor
  · rintro ⟨r, h1, p, h2, h3, h4⟩; exact ⟨⟨r, h1, p, h2, h3.symm⟩, h4⟩
  rintro ⟨⟨r, h1, p, h2, h3⟩, h4⟩; exact ⟨r, h1, p, h2, h3.symm, h4⟩
def refL (a b : Int × Int) (rs : List Ring) : List Rat := if evOk a b rs then outQ (a.2 : Rat) (b.2 : Rat) [(a.2 : Rat), (b.2 : Rat)] (refAll a b rs) else []
theorem ev_same {a b : Int × Int} {rs : List Ring} {l : List Rat} (h : l.Pairwise (· < ·)) (hm : ∀ x, x ∈ l ↔ x ∈ evL a b rs) : l = refL a b rs := by
 unfold refL
 unfold evL at hm
 by_cases k : evOk a b rs
 ·rw [if_pos k] at hm ⊢
  have hlt : (a.2 : Rat) < (b.2 : Rat) := by exact_mod_cast k.2.2.2
  refine strict_unique (lt := (· < ·)) (fun x => Rat.lt_irrefl) (fun x y z h1 h2 => by grind) h (outQ_srt (by simp [hlt])) (fun z => ?_)
  rw [hm, outQ_mem]
  unfold refAll
  rw [List.mem_append, List.mem_append, List.mem_append, evP_mem, evC_mem]
  constructor
  ·rintro ((e | e) | e)
   ·exact .inl e
   ·exact .inr ⟨.inl e.1, e.2⟩
   exact .inr ⟨.inr e.1, e.2⟩
  rintro (e | ⟨e | e, f⟩)
  ·exact .inl (.inl e)
  ·exact .inl (.inr ⟨e, f⟩)
  exact .inr ⟨e, f⟩
 rw [if_neg k] at hm ⊢
 cases l with
 | nil => rfl
 | cons x l => have := (hm x).1 (by simp); simp at this
end Go.Proofs.YthdapkpmikeehacGreat
namespace Go.Proofs.YthdapkpmikeehacGreat
open Go.RowKit
section
variable {P : Program} {ρ : Operand -> Value} {o : Oper} {w : World} {g n c k size : Nat} {z : Int} {t e : TypeId} {x y : Operand}
theorem ev_take17 (ho : o.op = .slice t x none (some y) none) (ht : P.underlying t = some (.slice e)) (hs : (P.info? e).map (·.size) = some size) (hx : ρ x = .slice (some ⟨g, 0, none⟩) n c) (hy : ρ y = .int .i64 z) (hz : z = (k : Int)) (hk : k <= c) :
  (execOp ρ o).run P w = .ok (.value (.slice (some ⟨g, 0, none⟩) k c)) w := by
 subst hz
 have hel : P.elem t = e := by simp [Program.elem, ht]
 have h1 : P.underlying t = some (.slice (P.elem t)) := by rw [hel]; exact ht
 unfold execOp
 simp only [ho, hx, hy, Option.map_some, Option.map_none, Sem.run_bind, run_sliceAt_slice _ _ _ _ _ _ h1, run_slice_h w t _ _ _ h1 .i64 (k : Int) (by omega) (by omega : (k : Int) <= (c : Int)), hel]
 cases hq : P.info? e with
 | none => simp [hq] at hs
 | some i =>
  have h2 : i.size = size := by simpa [hq] using hs
  simp [sizeOf, typeInfo, hq, h2, sliced, Addr.add]
def dropA17 (g c k size : Nat) : Option Addr := if c = k then some ⟨g, 0, none⟩ else some ⟨g, k * size, none⟩
theorem ev_drop17 (ho : o.op = .slice t x (some y) none none) (ht : P.underlying t = some (.slice e)) (hs : (P.info? e).map (·.size) = some size) (hx : ρ x = .slice (some ⟨g, 0, none⟩) n c) (hy : ρ y = .int .i64 z) (hz : z = (k : Int)) (hk : k <= n) :
  (execOp ρ o).run P w = .ok (.value (.slice (dropA17 g c k size) (n - k) (c - k))) w := by
 subst hz
 have hel : P.elem t = e := by simp [Program.elem, ht]
 have h1 : P.underlying t = some (.slice (P.elem t)) := by rw [hel]; exact ht
 unfold execOp
 simp only [ho, hx, hy, Option.map_some, Option.map_none, Sem.run_bind, run_sliceAt_slice _ _ _ _ _ _ h1, run_slice_l w t _ _ _ h1 .i64 (k : Int) (by omega) (by omega : (k : Int) <= (n : Int)), hel]
 cases hq : P.info? e with
 | none => simp [hq] at hs
 | some i =>
  have h2 : i.size = size := by simpa [hq] using hs
  by_cases q : c = k
  ·simp [sizeOf, typeInfo, hq, h2, sliced, dropA17, q]
  have q2 : (⟨g, 0, none⟩ : Addr).add (k * size) = ⟨g, k * size, none⟩ := by unfold Addr.add; split <;> simp_all
  simp [sizeOf, typeInfo, hq, h2, sliced, dropA17, q, q2]
end
section
variable {w : World} {b g n c : Nat} {T : TypeId} {es : List R1E}
theorem RowN.elem1 (h : RowN w b T 4 (.slice (some ⟨g, 0, none⟩) n c) n (es.flatMap R1E.cells)) {k : Nat} {e : R1E} (he : es[k]? = some e) : w.rangeAt g (k * 4) e.cells :=
  h.rangeAt _ _ (fun j v hj => flat_get R1E.len es k e he j v hj)
theorem RowN.capLe (h : RowN w b T 4 (.slice (some ⟨g, 0, none⟩) n c) n (es.flatMap R1E.cells)) : n <= c := by
  obtain ⟨_, ⟨h2, _⟩ | ⟨g', c', r, h2, _, _, h3, _⟩⟩ := h
  · cases h2
  injection h2 with _ _ e; rw [e]; exact h3
theorem ones1 (es : List R1E) : ∀ u, u ∈ es.flatMap R1E.cells -> u.oneCell' = true := by
  intro u hu
  obtain ⟨e, _, h⟩ := List.mem_flatMap.1 hu
  exact R1E.one e u h
theorem nou1 (es : List R1E) : NoUL (es.flatMap R1E.cells) := by
  intro u hu
  obtain ⟨e, _, h⟩ := List.mem_flatMap.1 hu
  exact R1E.nou e u h
theorem add_c (g o j : Nat) : (⟨g, o, none⟩ : Addr).add j = ⟨g, o + j, none⟩ := by unfold Addr.add; split <;> simp_all
theorem RowN.srcTake (h : RowN w b T 4 (.slice (some ⟨g, 0, none⟩) n c) n (es.flatMap R1E.cells)) (k : Nat) : 0 < k -> ∃ ad, some (⟨g, 0, none⟩ : Addr) = some ad /\ ∀ (j : Nat) (u : Value), ((es.take k).flatMap R1E.cells)[j]? = some u -> w.cell? (ad.add j) = some u := by
 intro _
 refine ⟨_, rfl, fun j u hu => ?_⟩
 rw [<- flat_take R1E.len] at hu
 have hj : j < k * 4 := by have := (List.getElem?_eq_some_iff.1 hu).1; rw [List.length_take] at this; omega
 rw [List.getElem?_take_of_lt hj] at hu
 have hr := h.rangeAt 0 (es.flatMap R1E.cells) (fun i v hv => by rw [Nat.zero_add]; exact hv) j u hu
 rw [add_c]
 exact hr
theorem RowN.srcDrop (h : RowN w b T 4 (.slice (some ⟨g, 0, none⟩) n c) n (es.flatMap R1E.cells)) (k : Nat) : 0 < n - k -> ∃ ad, dropA17 g c k 4 = some ad /\ ∀ (j : Nat) (u : Value), ((es.drop k).flatMap R1E.cells)[j]? = some u -> w.cell? (ad.add j) = some u := by
  intro hk
  have hc := h.capLe
  refine ⟨⟨g, k * 4, none⟩, if_neg (by omega), fun j u hu => ?_⟩
  rw [<- flat_drop R1E.len, List.getElem?_drop] at hu
  have hr := h.rangeAt 0 (es.flatMap R1E.cells) (fun i v hv => by rw [Nat.zero_add]; exact hv) (k * 4 + j) u hu
  rw [add_c]
  simpa using hr
end
theorem edgO_len (rs : List Ring) : (edgesOf rs).length <= 4096 := by
  unfold edgesOf
  refine Nat.le_trans (edgesV_len _) ?_
  split
  · rename_i h; exact okR_tot h
  decide
theorem edgO_ok (rs : List Ring) : ∀ e, e ∈ edgesOf rs -> okP e.1 /\ okP e.2 := by
  unfold edgesOf
  split
  · rename_i h; exact fun e he => edges_ok h e he
  intro e he; simp [edgesV] at he
theorem putQ_len {y : Rat} : ∀ {l : List Rat}, l.length <= (putQ l y).length /\ (putQ l y).length <= l.length + 1
  | [] => by simp [putQ]
  | x :: l => by
    have ih := putQ_len (y := y) (l := l)
    unfold putQ
    split
    · simp only [List.length_cons]; omega
    split <;> simp
theorem refP_take {rs : List Ring} {i : Nat} {r : Ring} (h : rs[i]? = some r) : refP (rs.take (i + 1)) = refP (rs.take i) ++ r.map fun p => (p.2 : Rat) := by
  unfold refP
  rw [List.take_add_one, h, List.flatMap_append]
  simp
theorem refR_take {r : Ring} {k : Nat} {p : Int × Int} (h : r[k]? = some p) : ((r.take (k + 1)).map fun p => (p.2 : Rat)) = ((r.take k).map fun p => (p.2 : Rat)) ++ [(p.2 : Rat)] := by
  rw [List.take_add_one, h, List.map_append]
  rfl
theorem segR_take {x o : Edge} {l : List Edge} {k : Nat} (h : l[k]? = some o) : ((l.take (k + 1)).flatMap fun o => segL x o) = ((l.take k).flatMap fun o => segL x o) ++ segL x o := by
  rw [List.take_add_one, h, List.flatMap_append]
  simp
theorem refC_take {a b : Int × Int} {l : List Edge} {i : Nat} {x : Edge} (h : l[i]? = some x) : refC a b [] (l.take (i + 1)) = refC a b [] (l.take i) ++ refStep a b (l.take i) x := by
  rw [List.take_add_one, h]
  have := refC_snoc a b x (l.take i) []
  rw [List.nil_append] at this
  exact this
theorem segL_t {x o : Edge} (h : segN x.1 x.2 o.1 o.2 = 1) : segL x o = [segY x.1 x.2 o.1 o.2] := if_pos h
theorem segL_f {x o : Edge} (h : ¬ segN x.1 x.2 o.1 o.2 = 1) : segL x o = [] := if_neg h
theorem yatL_t {x : Edge} {z : Int} (h : yatC x.1 x.2 z) : yatL x z = [yatQ x.1 x.2 z] := if_pos h
theorem yatL_f {x : Edge} {z : Int} (h : ¬ yatC x.1 x.2 z) : yatL x z = [] := if_neg h
theorem out_ends {lo hi : Rat} {all : List Rat} {es : List R1E} {p : Nat} (h : lo < hi) (hq : es.map R1E.q = outQ lo hi [lo, hi] all) (hl : es.length = p + 2) : (∃ e, es[0]? = some e /\ e.q = lo) /\ ∃ e, es[p + 1]? = some e /\ e.q = hi := by
 obtain ⟨h1, h2⟩ := outQ_first h all
 rw [<- hq] at h1 h2
 constructor
 ·refine ⟨_, List.getElem?_eq_getElem (by omega), ?_⟩
  rw [List.head?_eq_getElem?, List.getElem?_map, List.getElem?_eq_getElem (by omega)] at h1
  exact Option.some.inj h1
 refine ⟨_, List.getElem?_eq_getElem (by omega), ?_⟩
 rw [List.getLast?_eq_getElem?, List.length_map, hl, List.getElem?_map, show p + 2 - 1 = p + 1 by omega, List.getElem?_eq_getElem (by omega)] at h2
 exact Option.some.inj h2
section
variable {w0 w w' : World} {m : List Ent}
theorem Hp.orRow {i : Nat} {t : TypeId} {size n n' : Nat} {v v' : Value} {xs xs' : List Value} (h : Hp w0 w m) (hi : m[i]? = some (.row t size v n xs)) (x : Ext w w')
  (hor : (v' = v /\ n' = n /\ xs' = xs) \/ RowN w' w.heap.size t size v' n' xs') : Hp w0 w' (m.set i (.row t size v' n' xs')) := by
 rcases hor with ⟨rfl, rfl, rfl⟩ | hr
 ·have e : m.set i (.row t size v' n' xs') = m := by
   obtain ⟨hl, he⟩ := List.getElem?_eq_some_iff.1 hi
   rw [<- he]; exact List.set_getElem_self hl
  rw [e]; exact h.step x
 refine h.turn (r := none) hi (fun k hk => by cases hk) ⟨x.os, x.tape, x.output, x.size, fun k hk _ => x.block k hk⟩ ?_ (fun k hk => .inr (RowN.block hr k hk))
 obtain ⟨h1, h2 | ⟨g, cap, rest, a, b, c⟩⟩ := hr
 ·exact ⟨h1, .inl h2⟩
 exact ⟨h1, .inr ⟨g, cap, rest, a, Nat.le_trans h.ext.size b, c⟩⟩
end
end Go.Proofs.YthdapkpmikeehacGreat
