/- FlattenPath: Path of the program returns what Path of the reference returns, in memory of its own: the law's call returns true and changes nothing. -/
import Derived.Test.YtjkddchkjkocbaaM3
namespace Go.Proofs.Ytjkddchkjkocbaa.path
open Go.ChangeShapes Go.WideShapes Go.ChangeAt Go.RowKit
attribute [local go_sem ↓] Go.wp_at_zero Go.wp_at_succ run_eql_point run_neq_point run_max_ii run_min_ii

instance : Inhabited Sg := ⟨sg0⟩
theorem add_at (g off j : Nat) : (⟨g, off, none⟩ : Addr).add j = ⟨g, off + j, none⟩ := by
  unfold Addr.add
  by_cases hz : j = 0
  · rw [if_pos hz, hz]; rfl
  · rw [if_neg hz]
theorem cells_seg : Try.prog.cellsOf 35 = 7 := by kernel_rfl
section
variable {H : Type} {enc : TypeId × Value → H} {w : World} {base : Nat} {spare : Nat → Bool} {held : Bool}
theorem seg_open {fuel : Nat} {cs : List Value} {x : DataW H × List MemPlace} (h : DataW.trod enc Try.prog w base spare held fuel 35 cs = some x) :
    ∃ s : Sg, cs = [.int .i64 s.v, .int .i64 s.a.1, .int .i64 s.a.2, .int .i64 s.b.1, .int .i64 s.b.2, .int .i64 s.c.1, .int .i64 s.c.2] := by
  obtain ⟨y0, y1, y2, y3, n, _, hl, h0, h1, h2, h3⟩ := Joins.trod_struct4 Try.underlying35 h
  rw [cells_seg] at hl
  rw [cells_int] at h0
  rw [cells_pt] at h1 h2 h3
  obtain ⟨v, e0, _, _⟩ := DataW.trod_int Try.underlying3 h0
  obtain ⟨a, e1⟩ := pt_open h1
  obtain ⟨b, e2⟩ := pt_open h2
  obtain ⟨c, e3⟩ := pt_open h3
  match cs, hl with
  | [c0, c1, c2, c3, c4, c5, c6], _ =>
    simp at e0 e1 e2 e3
    refine ⟨⟨v, a, b, c⟩, ?_⟩
    rw [e0, e1.1, e1.2, e2.1, e2.2, e3.1, e3.2]
theorem segs_open {fuel : Nat} {cs : List Value} {x : DataW H × List MemPlace} (h : DataW.trod enc Try.prog w base spare held fuel 22 cs = some x) :
    ∃ (A : Option Addr) (l : List Sg) (cap : Nat), cs = [.slice A l.length cap] ∧ l.length ≤ maxLen ∧ SegsV w (.slice A l.length cap) l := by
  obtain ⟨A, len, cap, rfl, hl, hm, hx⟩ := slice_open Try.underlying22 (by rw [cells_seg]; decide) h
  by_cases h0 : 0 < len
  · obtain ⟨g, off, rfl, hx'⟩ := hx h0
    rw [cells_seg] at hx'
    obtain ⟨l, rfl, hl2⟩ := list_of (α := Sg) len (fun i s => ∀ j u, [Value.int .i64 s.v, .int .i64 s.a.1, .int .i64 s.a.2, .int .i64 s.b.1, .int .i64 s.b.2, .int .i64 s.c.1, .int .i64 s.c.2][j]? = some u → w.cell? ⟨g, off + i * 7 + j, none⟩ = some u) (fun i hi => by
      obtain ⟨cs', n, y, _, h2, h3⟩ := hx' i hi
      obtain ⟨s, rfl⟩ := seg_open h3
      exact ⟨s, h2⟩)
    refine ⟨_, l, cap, rfl, by omega, _, cap, rfl, fun _ => ⟨g, off, rfl, fun i hi => ?_⟩⟩
    have h := hl2 i sg0 hi
    generalize l.getD i sg0 = s at h ⊢
    obtain ⟨v, ⟨a1, a2⟩, ⟨b1, b2⟩, ⟨c1, c2⟩⟩ := s
    exact ⟨v, a1, a2, b1, b2, c1, c2, rfl, h 0 _ rfl, h 1 _ rfl, h 2 _ rfl, h 3 _ rfl, h 4 _ rfl, h 5 _ rfl, h 6 _ rfl⟩
  · obtain rfl : len = 0 := by omega
    exact ⟨A, [], cap, rfl, Nat.zero_le _, A, cap, rfl, fun hn => absurd rfl hn⟩
end

structure Shp (p : Nat → Prop) (w w' : World) : Prop where
  only : Only p w w'
  shape : ∀ b (t : TypeId) (cs : List Value), Blk w b t cs.toArray → ∃ cs' : List Value, cs'.length = cs.length ∧ Blk w' b t cs'.toArray
theorem Shp.refl (p : Nat → Prop) (w : World) : Shp p w w := ⟨Only.refl _ _, fun _ _ cs h => ⟨cs, rfl, h⟩⟩
theorem Shp.put {p : Nat → Prop} {w wr : World} {b o : Nat} {t : TypeId} {cs vs : List Value} (h : Shp p w wr) (hp : p b) (hb : Blk w b t cs.toArray) (ho : o + vs.length ≤ cs.length) : Shp p w (wr.setCells b o vs) := by
  have hown : Own b wr (wr.setCells b o vs) := Own.setCells_l vs o (Own.refl b wr)
  refine ⟨h.only.then (Only.of_own hown) (fun i _ e => e ▸ hp), fun k t2 cs2 hk => ?_⟩
  obtain ⟨c2, e2, h2⟩ := h.shape k t2 cs2 hk
  by_cases hkb : k = b
  · subst hkb
    have e : cs = cs2 := by
      have q : some (Obj.cells cs.toArray t (0, 0)) = some (Obj.cells cs2.toArray t2 (0, 0)) := hb.symm.trans hk
      injection q with q
      injection q with q
      simpa using q
    subst e
    refine ⟨_, ?_, h2.setPart o vs (by omega)⟩
    simp
    omega
  · exact ⟨c2, e2, h2.own hown hkb⟩
theorem Shp.drew {p : Nat → Prop} {w wr : World} (h : Shp p w wr) (n : Nat) : Shp p w (wr.drewN n) :=
  ⟨h.only.trans (Only.of_ext ((Ext.refl _).drewN n)), fun b t cs hb => by obtain ⟨c, e, k⟩ := h.shape b t cs hb; exact ⟨c, e, k.ext ((Ext.refl _).drewN n)⟩⟩
theorem Plys.at {w : World} {base : Nat} {v : Value} {L : List PlE} (h : Plys w base v L) {j : Nat} (hj : j < L.length) :
    ∃ g c b0 n cap t cs, v = .slice (some ⟨g, 0, none⟩) L.length c ∧ w.cell? ⟨g, j * 2, none⟩ = some (.slice (some ⟨b0, 0, none⟩) n cap) ∧ Blk w b0 t (List.toArray cs) ∧ n * 2 ≤ cs.length ∧ n ≤ maxLen ∧
      (∃ e, e ∈ L ∧ e.s.ownBlock = some b0) ∧ ∀ e, e ∈ L → e.s.ownBlock ≠ some g := by
  obtain ⟨e, he⟩ : ∃ e, L[j]? = some e := ⟨L[j], List.getElem?_eq_getElem hj⟩
  have hm : e ∈ L := List.mem_of_getElem? he
  obtain ⟨_, ⟨rfl, hz⟩ | ⟨gv, cap, rest, rfl, p1, p2, p3, p4, p5, p6⟩⟩ := h.row
  · omega
  · obtain ⟨q1, _⟩ := plCells_get L j e he
    have c1 := (p2.cell (j * 2)).trans (show _ = some e.s by rw [List.getElem?_toArray, List.getElem?_append_left (List.getElem?_eq_some_iff.1 q1).1]; exact q1)
    obtain ⟨b, hb, _⟩ := h.own e hm
    obtain ⟨hl, ⟨hs, hz⟩ | ⟨ge, ce, re, hs, k1, k2, k3, k4, k5, k6⟩⟩ := h.el e hm
    · rw [hs] at hb; simp [Value.ownBlock] at hb
    · rw [hs] at c1
      have hge : e.s.ownBlock = some ge := by rw [hs]; simp [Value.ownBlock]
      refine ⟨gv, cap, ge, _, ce, _, _, rfl, c1, k2, by rw [List.length_append]; omega, by omega, ⟨e, hm, hge⟩, fun e2 hm2 h2 => ?_⟩
      obtain ⟨b2, hb2, hb3⟩ := h.own e2 hm2
      rw [h2] at hb2
      injection hb2 with hb2
      subst hb2
      exact hb3 (by simp [Value.ownBlock])
theorem pst1_len (tol : Int) (st : Int × List (List (Int × Int) × Bool)) (s : Sg) : (pst1 tol st s).2.length ≤ st.2.length + 1 := by
  unfold pst1
  split
  · omega
  · split
    · simp
    · split
      · simp
      · simp only
        split <;> simp
theorem pathTo_len (tol : Int) (l : List Sg) : ∀ k, k ≤ l.length → (pathTo tol l k).2.length ≤ k
  | 0, _ => by simp [pathTo]
  | k + 1, h => by
    rw [pathTo_succ (by omega)]
    have h1 := pst1_len tol (pathTo tol l k) (l.getD k sg0)
    have h2 := pathTo_len tol l k (by omega)
    omega
theorem mem_total (ps : List (List (Int × Int) × Bool)) (p : List (Int × Int) × Bool) (h : p ∈ ps) : p.1.length ≤ total ps := by
  induction ps with
  | nil => simp at h
  | cons x xs ih =>
    have e : total (x :: xs) = x.1.length + total xs := by
      show List.foldl _ (0 + x.1.length) xs = _
      rw [foldl_len]
      omega
    rw [e]
    rcases List.mem_cons.1 h with rfl | h
    · omega
    · have := ih h; omega
theorem PathOut.small {tol : Int} {l : List Sg} {er : Int} {ps : List (List (Int × Int) × Bool)} (h : PathOut tol l er ps) (hn : l.length ≤ 300) : ps.length ≤ 300 ∧ ∀ p, p ∈ ps → p.1.length ≤ 100000 := by
  rcases h with ⟨_, _, rfl⟩ | ⟨_, _, _, rfl⟩ | ⟨_, _, _, _, rfl⟩ | ⟨_, _, _, _, _, rfl⟩ | ⟨_, _, _, h4, _, rfl⟩
  · simp
  · simp
  · simp
  · simp
  · refine ⟨Nat.le_trans (pathTo_len tol l _ (Nat.le_refl _)) hn, fun p hp => ?_⟩
    have := mem_total _ p hp
    omega

theorem infoSg : (Try.prog.info? 35).map (fun i => (i.zero, i.size, i.bytes)) = some (some (.agg #[.int .i64 0, .int .i64 0, .int .i64 0, .int .i64 0, .int .i64 0, .int .i64 0, .int .i64 0]), 7, 56) := by kernel_rfl
def sgCells (l : List Sg) : List Value := l.flatMap fun s => [.int .i64 s.v, .int .i64 s.a.1, .int .i64 s.a.2, .int .i64 s.b.1, .int .i64 s.b.2, .int .i64 s.c.1, .int .i64 s.c.2]
theorem sgCells_length (l : List Sg) : (sgCells l).length = l.length * 7 := by
  induction l with
  | nil => rfl
  | cons x xs ih => simp only [sgCells, List.flatMap_cons, List.length_append, List.length_cons, List.length_nil] at ih ⊢; omega
theorem sgCells_get (l : List Sg) (i j : Nat) (hi : i < l.length) (hj : j < 7) : (sgCells l)[i * 7 + j]? = [Value.int .i64 (l.getD i sg0).v, .int .i64 (l.getD i sg0).a.1, .int .i64 (l.getD i sg0).a.2, .int .i64 (l.getD i sg0).b.1, .int .i64 (l.getD i sg0).b.2, .int .i64 (l.getD i sg0).c.1, .int .i64 (l.getD i sg0).c.2][j]? := by
  induction l generalizing i with
  | nil => simp at hi
  | cons x xs ih =>
    unfold sgCells
    rw [List.flatMap_cons]
    cases i with
    | zero => rw [List.getElem?_append_left (by simp; omega)]; simp
    | succ i =>
      rw [List.getElem?_append_right (by simp; omega)]
      have := ih i (by simpa using hi)
      unfold sgCells at this
      rw [show (i + 1) * 7 + j - [Value.int .i64 x.v, .int .i64 x.a.1, .int .i64 x.a.2, .int .i64 x.b.1, .int .i64 x.b.2, .int .i64 x.c.1, .int .i64 x.c.2].length = i * 7 + j by simp; omega, this]
      simp [List.getD]
theorem sgCells_int (l : List Sg) : ∀ u, u ∈ sgCells l → ∃ n, u = .int .i64 n := by
  intro u hu
  obtain ⟨s, _, hu⟩ := List.mem_flatMap.1 hu
  simp at hu
  rcases hu with rfl | rfl | rfl | rfl | rfl | rfl | rfl <;> exact ⟨_, rfl⟩
theorem run_own (w : World) (A : Option Addr) (l : List Sg) (cap : Nat) (hu : SegsV w (.slice A l.length cap) l) (hn : l.length ≤ 300) :
    ∃ v w', (Builtin.append_ #[22, 22] 22 #[.slice (some ⟨w.heap.size, 0, none⟩) 0 0, .slice A l.length cap]).run Try.prog (w.alloc (.cells #[] 35)) = .ok v w' ∧ SegsV w' v l ∧ Ext w w' := by
  have hx0 : Ext w (w.alloc (.cells #[] 35)) := (Ext.refl w).alloc _
  by_cases hl : l = []
  · subst hl
    refine ⟨.slice (some ⟨w.heap.size, 0, none⟩) 0 0, _, ?_, ⟨_, 0, rfl, fun h => absurd rfl h⟩, hx0⟩
    obtain ⟨i0, hi, hz0, hz1, hz2⟩ := info_parts infoSg
    have hf : ∀ w0, (Builtin.firstCells i0.size 0 (.slice A 0 cap)).run Try.prog w0 = .ok #[] w0 := by
      intro w0
      cases A with
      | none => exact run_firstCells_none _ _ _ _ _
      | some a => exact run_firstCells_some _ i0.size 0 a 0 cap [] (by simp) (by simp)
    simp [Builtin.append_, run_underlying Try.underlying22, sizeOf, typeInfo, zeroValue, hi, hz0, Builtin.lenOf, hf, storeCells]
  · obtain ⟨A', c', e, ha⟩ := hu
    injection e with e1 e2 e3
    subst e1
    obtain ⟨g, off, rfl, hs⟩ := ha hl
    obtain ⟨i0, hi, hz0, hz1, hz2⟩ := info_parts infoSg
    have hpos : 0 < l.length := by cases l with | nil => exact absurd rfl hl | cons _ _ => simp
    obtain ⟨v', w', hr, h2, h3, _, gx, cx, rfl, hf⟩ := run_append_rowN (P := Try.prog) (w.alloc (.cells #[] 35)) w.heap.size 22 22 35 i0 _ 7 56 Try.underlying22 hi hz0 hz1 hz2 rfl (by decide)
      (by intro x hx k; simp [Value.cells] at hx; rcases hx with rfl | rfl | rfl | rfl | rfl | rfl | rfl <;> simp)
      (.slice (some ⟨w.heap.size, 0, none⟩) 0 0) 0 [] (RowN.empty w w.heap.size 35 7 (Nat.le_refl _)) ⟨g, off, none⟩ l.length cap (sgCells l) (sgCells_length l)
      (fun j u hj => by
        have hjl := (List.getElem?_eq_some_iff.1 hj).1
        rw [sgCells_length] at hjl
        have hi2 : j / 7 < l.length := by omega
        have hm2 : j % 7 < 7 := Nat.mod_lt _ (by decide)
        have hjj : j = j / 7 * 7 + j % 7 := by omega
        rw [add_at]
        refine hx0.get ?_
        obtain ⟨v, a1, a2, b1, b2, c1, c2, he, k0, k1, k2, k3, k4, k5, k6⟩ := hs _ hi2
        have q := sgCells_get l _ _ hi2 hm2
        rw [← hjj, hj, he] at q
        generalize hq : j / 7 = i at *
        generalize hr : j % 7 = r at *
        subst hjj
        match r, hm2 with
        | 0, _ => simp at q; rw [q]; exact k0
        | 1, _ => simp at q; rw [q, ← Nat.add_assoc]; exact k1
        | 2, _ => simp at q; rw [q, ← Nat.add_assoc]; exact k2
        | 3, _ => simp at q; rw [q, ← Nat.add_assoc]; exact k3
        | 4, _ => simp at q; rw [q, ← Nat.add_assoc]; exact k4
        | 5, _ => simp at q; rw [q, ← Nat.add_assoc]; exact k5
        | 6, _ => simp at q; rw [q, ← Nat.add_assoc]; exact k6)
      (fun u hu => by obtain ⟨n, rfl⟩ := sgCells_int l u hu; rfl)
      (fun u hu k => by obtain ⟨n, rfl⟩ := sgCells_int l u hu; simp)
      hpos (by simp only [maxLen]; omega) (by omega) (by simp)
    refine ⟨_, w', hr, ?_, ?_⟩
    · simp only [Nat.zero_add, List.nil_append] at h2 ⊢
      refine ⟨_, cx, rfl, fun _ => ⟨gx, 0, rfl, fun i hi => ?_⟩⟩
      obtain ⟨_, ⟨e, _⟩ | ⟨gv, cap2, rest, e, _, hb, _⟩⟩ := h2
      · cases e
      · injection e with e _ _
        injection e with e
        injection e with e
        subst e
        have hc : ∀ j, j < 7 → w'.cell? ⟨gx, i * 7 + j, none⟩ = [Value.int .i64 (l.getD i sg0).v, .int .i64 (l.getD i sg0).a.1, .int .i64 (l.getD i sg0).a.2, .int .i64 (l.getD i sg0).b.1, .int .i64 (l.getD i sg0).b.2, .int .i64 (l.getD i sg0).c.1, .int .i64 (l.getD i sg0).c.2][j]? := fun j hj => by
          rw [hb.cell, List.getElem?_toArray, List.getElem?_append_left (by rw [sgCells_length]; omega), sgCells_get l i j hi hj]
        generalize l.getD i sg0 = s at hc ⊢
        obtain ⟨v, ⟨a1, a2⟩, ⟨b1, b2⟩, ⟨c1, c2⟩⟩ := s
        rw [Nat.zero_add]
        exact ⟨v, a1, a2, b1, b2, c1, c2, rfl, hc 0 (by decide), hc 1 (by decide), hc 2 (by decide), hc 3 (by decide), hc 4 (by decide), hc 5 (by decide), hc 6 (by decide)⟩
    · refine hx0.grown h3 (fun k hk => ?_)
      simp [Value.ownBlock] at hk
      omega
theorem mv_app {P : Program} {ops : Array Oper} {rest : List Oper} {op : Oper} {a : Act} {w w' : World} {Q : Exit → Act → World → Prop} {v u v' : Value} (hw : Region.wanted op (yielded ops a.tmps) = true) (s x : Operand) (t : TypeId)
    (ho : op.op = .call { callee := .builtin .append, args := #[s, x], argTypes := #[t, t] }) (hs : a.eval s = v) (hx : a.eval x = u) (hr : (Builtin.append_ #[t, t] op.type #[v, u]).run P w = .ok v' w')
    (h : wpList P ops Q rest (a.put op.dst v') w') : wpList P ops Q (op :: rest) a w := by
  refine wpList_if hw ?_
  unfold Oper.wp execOp
  simp only [ho, resolve, invoke, builtin, Sem.run_bind, Sem.run_pure, Result.andThen_ok, List.map_toArray, List.map_cons, List.map_nil, hs, hx, hr]
  exact h
theorem run_neq_seg (v a b c d e f : Int) (w : World) :
    (binOp .neq 35 (.agg #[.int .i64 v, .int .i64 a, .int .i64 b, .int .i64 c, .int .i64 d, .int .i64 e, .int .i64 f]) (.agg #[.int .i64 v, .int .i64 a, .int .i64 b, .int .i64 c, .int .i64 d, .int .i64 e, .int .i64 f])).run Try.prog w = .ok (.bool false) w := by
  simp [go_sem]
attribute [local go_sem ↓] run_neq_seg
set_option maxRecDepth 20000 in
set_option maxHeartbeats 4000000 in
theorem walk (A : Option Addr) (l : List Sg) (cap : Nat) (tol : Int) (w : World) (hu : SegsV w (.slice A l.length cap) l) (hm : l.length ≤ maxLen) :
    Calls Try.prog 3 #[.slice A l.length cap, .int .i64 tol] w fun e w' => e = .returned (.bool true) ∧ Ext w w' := by
  by_cases hn : l.length ≤ 300
  · have hn2 : ¬ (300 : Int) < (l.length : Int) := by omega
    obtain ⟨vo, wo, hr, ho, hxo⟩ := run_own w A l cap hu hn
    have HU := zH (hu.ext hxo)
    have HO := zH ho
    have HR := zH hr
    have HX0 := zH hxo
    clear hu hr ho hxo hm
    go_enter Try.func3, Try.ntmps3
    go_upto_region 3 with fail
    refine wp_region_lit ?_
    refine mv_val (v := .slice (some ⟨w.heap.size, 0, none⟩) 0 0) (w' := w.alloc (.cells #[] 35)) (by rfl) (by go_simp) ?_
    (try simp only [Act.put, zA, zB, zC])
    refine mv_val (v := .slice A l.length cap) (w' := w.alloc (.cells #[] 35)) (by rfl) (by go_simp) ?_
    (try simp only [Act.put, zA, zB, zC])
    refine mv_app (by rfl) _ _ _ (by rfl) (by rfl) (by rfl) HR.out ?_
    (try simp only [Act.put, zA, zB, zC])
    refine mv_val (v := vo) (w' := wo) (by rfl) (by go_simp) ?_
    (try simp only [Act.put, zA, zB, zC])
    clear HR
    go_upto_region 5 with (go_at_call 5; refine (path_any _ l tol _ HO.out hn).mono ?_; rintro e w1 ⟨va, La, er, rfl, hpo, hpl, hx1⟩)
    go_upto_region 6 with (go_at_call 6; refine (rpath_any _ l tol _ (HU.out.ext hx1) hn).mono ?_; rintro e w2 ⟨vb, Lb, er2, rfl, hqo, hql, hx2⟩)
    obtain ⟨rfl, hpq⟩ := hpo.one hqo
    have HS := zH (same_any va vb (plOf La) w2 (hpl.reads.ext hx2) (by rw [hpq]; exact hql.reads) (PathOut.small hpo hn).1 (PathOut.small hpo hn).2)
    have hLn : La.length ≤ 300 := by have := (PathOut.small hpo hn).1; rwa [plOf_length] at this
    have HL := zH (hpl.ext hx2)
    have HX := zH (hx1.trans hx2)
    have her : (er != er) = false := by simp
    have her2 : (er == er) = true := by simp
    clear hpo hpl hx1 hqo hql hx2 hpq
    go_upto_region 8 with (go_at_call 7; refine HS.out.mono ?_; rintro e w3 ⟨rfl, hx3⟩)
    have HL3 := zH (HL.out.ext hx3)
    have HX3 := zH (HX.out.trans hx3)
    clear HL HX HS hx3
    obtain ⟨Aa, ca, rfl, hread⟩ := HL3.out.read
    clear hread
    go_wp2_with fail
    go_loopg [43] La.length (fun n i wr => ∃ k : Nat, k ≤ La.length ∧ n = La.length - k ∧ i = .int .i64 k ∧ Shp (fun k => ∃ e, e ∈ La ∧ e.s.ownBlock = some k) w3 wr)
    case atStart => exact ⟨0, Nat.zero_le _, rfl, rfl, Shp.refl _ _⟩
    case round =>
      obtain ⟨k, hk, rfl, rfl, hsh⟩ := hrel
      by_cases hlt : k < La.length
      · obtain ⟨g, c, b0, n0, cap0, t0, cs0, hv, hc, hb, hn0, hm0, hmem, hng⟩ := Plys.at HL3.out hlt
        injection hv with hv1 hv2 hv3
        subst hv1
        have hcr := hsh.only.get hc (fun ⟨e, he, h⟩ => hng e he h)
        have HB := zH hb
        have HN0 := zH hn0
        have HM := zH hmem
        have HNG := zH hng
        have HC := zH hc
        have hlt2 : (k : Int) < (La.length : Int) := by omega
        have hm1 : n0 ≤ 9223372036854775807 := by simp only [maxLen] at hm0; omega
        have HSH := zH hsh
        clear hb hn0 hmem hng hc hsh hm0 hv2 hv3
        go_wp2_with fail
        go_loopg [52] n0 (fun n i wx => ∃ q : Nat, q ≤ n0 ∧ n = n0 - q ∧ i = .int .i64 q ∧ Shp (fun k => ∃ e, e ∈ La ∧ e.s.ownBlock = some k) w3 wx)
        case atStart => exact ⟨0, Nat.zero_le _, rfl, rfl, HSH.out⟩
        case round =>
          clear hcr HSH
          obtain ⟨q, hq, rfl, rfl, hsh⟩ := hrel
          by_cases hql : q < n0
          · have hcr := hsh.only.get HC.out (fun ⟨e, he, h⟩ => HNG.out e he h)
            have hql2 : (q : Int) < (n0 : Int) := by omega
            obtain ⟨cs1, hl1, hb1⟩ := hsh.shape _ _ _ HB.out
            have hput := hsh.put (o := q * 2) (vs := [.int .i64 7, .int .i64 (-7)]) HM.out HB.out (by have := HN0.out; simp; omega)
            have HP := zH hput
            have hroom : q * 2 + 2 ≤ cs1.length := by have := HN0.out; omega
            clear hput hsh
            go_upto_region 14 with fail
            refine wp_region_lit ?_
            refine mv_val (v := .slice (some ⟨g, 0, none⟩) La.length ca) (w' := wr) (by rfl) (by go_simp <;> with_reducible rfl) ?_
            (try simp only [Act.put, zA, zB, zC])
            refine mv_val (v := .int .i64 k) (w' := wr) (by rfl) (by go_simp <;> with_reducible rfl) ?_
            (try simp only [Act.put, zA, zB, zC])
            refine mv_val (v := .pointer (some ⟨g, k * 2, none⟩)) (w' := wr) (by rfl) (by go_simp <;> with_reducible rfl) ?_
            (try simp only [Act.put, zA, zB, zC])
            refine mv_val (v := .pointer (some ⟨g, k * 2, none⟩)) (w' := wr) (by rfl) (by go_simp <;> with_reducible rfl) ?_
            (try simp only [Act.put, zA, zB, zC])
            refine mv_val (v := .slice (some ⟨b0, 0, none⟩) n0 cap0) (w' := wr) (by rfl) (by go_simp <;> with_reducible rfl) ?_
            (try simp only [Act.put, zA, zB, zC])
            refine mv_val (v := .int .i64 q) (w' := wr) (by rfl) (by go_simp <;> with_reducible rfl) ?_
            (try simp only [Act.put, zA, zB, zC])
            refine mv_val (v := .agg #[.int .i64 7, .int .i64 (-7)]) (w' := wr) (by rfl) (by go_simp <;> with_reducible rfl) ?_
            (try simp only [Act.put, zA, zB, zC])
            refine mv_val (v := .pointer (some ⟨b0, q * 2, none⟩)) (w' := wr) (by rfl) (by go_simp <;> with_reducible rfl) ?_
            (try simp only [Act.put, zA, zB, zC])
            refine wpList_if (by rfl) (wp_store_mid 33 _ _ (by rfl) b0 (q * 2) #[.int .i64 7, .int .i64 (-7)] (by rfl) (by rfl) (hb1.therePart _ _ hroom) (by kernel_rfl) (all_oneCell_toArray (by simp [Value.oneCell'])) ?_)
            (try simp only [Act.put, zA, zB, zC])
            go_wp2_with fail
            go_roundg (n0 - (q + 1))
            case measure => omega
            case rel => exact ⟨q + 1, hql, rfl, by go_num, HP.out⟩
          · obtain rfl : q = n0 := by omega
            have HSH := zH hsh
            have hge : ¬ (q : Int) < (q : Int) := by omega
            clear hsh
            go_wp2_with fail
            go_roundg (La.length - (k + 1))
            case measure => omega
            case rel => exact ⟨k + 1, hlt, rfl, by go_num, HSH.out⟩
      · obtain rfl : k = La.length := by omega
        have hge : ¬ (La.length : Int) < (La.length : Int) := by omega
        have HXR := zH (hsh.only.ext HX3.out (fun b hb => fun ⟨e, he, h⟩ => by have := (HL3.out.el e he).block b h; omega))
        clear hsh
        obtain ⟨Bo, co, rfl, hBo⟩ := HO.out
        obtain ⟨_, _, hA0, hA⟩ := HU.out
        injection hA0 with hA1 hA2 hA3
        subst hA1
        have HBO := zH hBo
        have HA := zH hA
        clear hBo hA hA2 hA3
        go_wp2_with fail
        go_loopg [67] l.length (fun n i wx => ∃ q : Nat, q ≤ l.length ∧ n = l.length - q ∧ i = .int .i64 q ∧ Ext wo wx)
        case atStart => exact ⟨0, Nat.zero_le _, rfl, rfl, HXR.out⟩
        case round =>
          obtain ⟨q, hq, rfl, rfl, hx⟩ := hrel
          by_cases hql : q < l.length
          · have hql2 : (q : Int) < (l.length : Int) := by omega
            obtain ⟨g1, o1, rfl, h1⟩ := HBO.out (by rintro rfl; simp at hql)
            obtain ⟨g2, o2, rfl, h2⟩ := HA.out (by rintro rfl; simp at hql)
            obtain ⟨v, a1, a2, b1, b2, c1, c2, he, p0, p1, p2, p3, p4, p5, p6⟩ := (h1.ext hx) q hql
            obtain ⟨v', a1', a2', b1', b2', c1', c2', he', r0, r1, r2, r3, r4, r5, r6⟩ := (h2.ext hx) q hql
            obtain ⟨rfl, ⟨rfl, rfl⟩, ⟨rfl, rfl⟩, rfl, rfl⟩ : v = v' ∧ (a1 = a1' ∧ a2 = a2') ∧ (b1 = b1' ∧ b2 = b2') ∧ c1 = c1' ∧ c2 = c2' := by simpa using he.symm.trans he'
            have HX4 := zH hx
            clear h1 h2 he he' hx HBO HA HO HU
            go_wp2_with fail
            go_quiet (fail)
            go_wp2_with fail
            go_roundg (l.length - (q + 1))
            case measure => omega
            case rel => exact ⟨q + 1, hql, rfl, by go_num, HX4.out.trans ((Ext.refl _).drewN _)⟩
          · obtain rfl : q = l.length := by omega
            have hge2 : ¬ (l.length : Int) < (l.length : Int) := by omega
            have HX4 := zH hx
            clear hx
            go_wp2_with (go_at_call 4; refine (example_any _).mono ?_; rintro e w5 ⟨rfl, hx5⟩)
            go_ret
            exact ⟨rfl, (HX0.out.trans HX4.out).trans hx5⟩
  · have hn2 : (300 : Int) < (l.length : Int) := by omega
    have hm2 : l.length ≤ 9223372036854775807 := by simp only [maxLen] at hm; omega
    clear hn hu hm
    go_enter Try.func3, Try.ntmps3
    go_wp2_with (go_at_call 4; refine (example_any _).mono ?_; rintro e w5 ⟨rfl, hx5⟩)
    go_ret
    exact ⟨rfl, hx5⟩
set_option maxRecDepth 100000 in
theorem lifted (os : Os) (started : os.Started) (H : Type) (enc : TypeId × Value → H) :
    ReturnsInHanded {} Try.checked os 3 .any (Rows.flattenPathSpec.pre6 enc Try.prog Try.f3 Rows.flattenPathRow.domain false) (Rows.flattenPathSpec.post enc Try.prog Try.f3 false true false false) := by
  refine returnsInHanded_of_change (C := Try.checked) own started (by kernel_rfl) Try.func3
    (ChangeSpec.witness6 (enc := enc) (C := Try.checked) false ⟨#[], #[.slice none 0 0, .int .i64 0], []⟩ 8 (by kernel_rfl) (by kernel_rfl) (by kernel_rfl) (by kernel_rfl)) ?_
  intro W base args ds gs before hval0 hW hcnd _
  have hval : ∀ (j : Nat) t v, Try.f3.params[j]? = some t → args[j]? = some v → Value.okWide Try.prog W .any base t v := hval0
  have hW' := hW
  obtain ⟨p, q, hA0, hV, rfl, hfz, hnd⟩ := hW
  have hA : DataW.TrodAll enc Try.prog W 0 (fun _ => true) true Try.f3.params.toList args.toList ds p := hA0
  rw [Try.params3] at hA hval
  obtain ⟨v0, vs0, d0, ds0, p0, q0, hargs, rfl, rfl, h0, r0⟩ := trodAll_cons hA
  obtain ⟨v1, vs1, d1, ds1, p1, q1, rfl, rfl, rfl, h1, r1⟩ := trodAll_cons r0
  obtain ⟨rfl, rfl, rfl⟩ := trodAll_nil r1
  obtain rfl : args = #[v0, v1] := by cases args; simp_all
  obtain ⟨rfl, rfl⟩ := trodVars_none hV
  have k0 := h0
  have lt0 : ∀ x ∈ p0, x.block < W.heap.size := by obtain ⟨m, hm⟩ := k0; exact DataW.trod_lt m _ _ _ hm
  obtain ⟨A, zl0, cap, rfl⟩ := okWide_slice Try.underlying22 (hval 0 22 v0 rfl rfl)
  obtain ⟨zA0, l, zc0, ze0, g0⟩ := (by obtain ⟨m, hm⟩ := h0; exact segs_open hm : ∃ zB zl zc, [Value.slice A zl0 cap] = [.slice zB (List.length zl) zc] ∧ zl.length ≤ maxLen ∧ SegsV W (.slice zB zl.length zc) zl)
  obtain ⟨rfl, rfl, rfl⟩ : A = zA0 ∧ zl0 = l.length ∧ cap = zc0 := by simpa using ze0
  obtain ⟨tol, rfl, rfl, rfl, w1⟩ := open_int Try.underlying3 (hval 1 3 v1 rfl rfl) h1
  clear hA0 hval0
  refine (walk A l cap tol W g0.2 g0.1).mono fun e W' ⟨he, hx⟩ => ?_
  subst he
  have bel := hx.below
  exact ⟨_, rfl, _, _, _, [], _, [], hW', trodAll_mk1 (shut_bool Try.underlying4 _), (trodAll_cons_mk (Below.trod laidOut (by kernel_rfl) (of_decide_eq_true (by kernel_rfl)) k0 bel lt0) (trodAll_cons_mk (shut_int Try.underlying3 w1) trodAll_mk0)), rfl, bel.frame _, fun h => by cases h⟩

theorem proved : Rows.FlattenPathSaid :=
  OpenClaim.holds_of_wide 3 Try.f3 rfl rfl rfl rfl rfl rfl rfl ⟨rfl, rfl, rfl, rfl, rfl⟩ rfl rfl rfl rfl rfl (by kernel_rfl) Try.func3 (by kernel_rfl)
    (of_decide_eq_true (by kernel_rfl)) (by unfold Func.isWrapper; first | (rw [if_pos (by decide +kernel)]; kernel_rfl) | (rw [if_neg (by decide +kernel)]; exact ⟨rfl, rfl⟩))
    (fun os started H enc _ => lifted os started H enc)
#print axioms proved
end Go.Proofs.Ytjkddchkjkocbaa.path
