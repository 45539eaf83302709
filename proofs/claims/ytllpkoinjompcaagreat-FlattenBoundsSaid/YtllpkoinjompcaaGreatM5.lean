/- Contracts that the claim stands on: XApp to XQBnd0. -/
import Derived.Deep.AppendLies
import Derived.Test.YtllpkoinjompcaaGreatM4
namespace Go.Proofs.YtllpkoinjompcaaGreat
open Go.RowKit

def NoUL (l : List Value) : Prop := ∀ x ∈ l, ∀ k : Int, x ≠ .int .u32 k
theorem NoUL.app {a b : List Value} (h : NoUL a) (k : NoUL b) : NoUL (a ++ b) := fun x hx => by
  rcases List.mem_append.1 hx with hx | hx
  · exact h x hx
  · exact k x hx
theorem NoUL.left {a b : List Value} (h : NoUL (a ++ b)) : NoUL a := fun x hx => h x (List.mem_append_left _ hx)
theorem NoUL.right {a b : List Value} (h : NoUL (a ++ b)) : NoUL b := fun x hx => h x (List.mem_append_right _ hx)
theorem NoUL.drop {a : List Value} (h : NoUL a) (n : Nat) : NoUL (a.drop n) := fun x hx => h x (List.mem_of_mem_drop hx)
theorem NoUL.arr {a : List Value} (h : NoUL a) : NoU a.toArray := noU_of _ h
theorem noUL_zero (z : Array Value) (n : Nat) (hs : 0 < z.size) (h : NoUL z.toList) : NoUL (Builtin.zeroCells z n).toList := by
  intro x hx k
  unfold Builtin.zeroCells at hx
  simp only [Array.toList_map, List.mem_map] at hx
  obtain ⟨i, _, rfl⟩ := hx
  have hlt : i % z.size < z.size := Nat.mod_lt _ hs
  rw [getElem!_pos z _ hlt]
  exact h _ (by simp) k

def RowN (w : World) (base : Nat) (e : TypeId) (size : Nat) (v : Value) (n : Nat) (xs : List Value) : Prop :=
  xs.length = n * size ∧ (v = .slice none 0 0 ∧ n = 0 ∨
    ∃ g cap rest, v = .slice (some ⟨g, 0, none⟩) n cap ∧ base ≤ g ∧ Blk w g e (xs ++ rest).toArray ∧ n ≤ cap ∧ cap ≤ maxLen ∧ xs.length + rest.length = cap * size ∧ NoUL (xs ++ rest))

theorem RowN.nil (w : World) (base : Nat) (e : TypeId) (size : Nat) : RowN w base e size (.slice none 0 0) 0 [] := ⟨by simp, .inl ⟨rfl, rfl⟩⟩
theorem RowN.empty (w : World) (base : Nat) (e : TypeId) (size : Nat) (hb : base ≤ w.heap.size) : RowN (w.alloc (.cells #[] e)) base e size (.slice (some ⟨w.heap.size, 0, none⟩) 0 0) 0 [] :=
  ⟨by simp, .inr ⟨w.heap.size, 0, [], rfl, hb, Blk.new w e #[], Nat.le_refl _, Nat.zero_le _, by simp, by intro x hx; simp at hx⟩⟩
theorem RowN.ext {w w' : World} {base : Nat} {e : TypeId} {size : Nat} {v : Value} {n : Nat} {xs : List Value} (h : RowN w base e size v n xs) (x : Ext w w') : RowN w' base e size v n xs := by
  obtain ⟨h1, h2 | ⟨g, cap, rest, a, b, c, d⟩⟩ := h
  · exact ⟨h1, .inl h2⟩
  · exact ⟨h1, .inr ⟨g, cap, rest, a, b, c.ext x, d⟩⟩
theorem RowN.alloc' {w : World} {base : Nat} {e : TypeId} {size : Nat} {v : Value} {n : Nat} {xs : List Value} (h : RowN w base e size v n xs) (o : Obj) : RowN (w.alloc o) base e size v n xs := h.ext ((Ext.refl w).alloc o)
theorem RowN.block {w : World} {base : Nat} {e : TypeId} {size : Nat} {v : Value} {n : Nat} {xs : List Value} (h : RowN w base e size v n xs) : ∀ k, v.ownBlock = some k → base ≤ k := by
  intro k hk
  obtain ⟨h1, ⟨rfl, _⟩ | ⟨g, cap, rest, rfl, b, _⟩⟩ := h
  · simp [Value.ownBlock] at hk
  · simp [Value.ownBlock] at hk; omega
theorem RowN.own {w w' : World} {base : Nat} {e : TypeId} {size : Nat} {v : Value} {n : Nat} {xs : List Value} (h : RowN w base e size v n xs) {X : Nat} (o : Own X w w') (hne : ∀ k, v.ownBlock = some k → k ≠ X) : RowN w' base e size v n xs := by
  obtain ⟨h1, h2 | ⟨g, cap, rest, rfl, b, c, d⟩⟩ := h
  · exact ⟨h1, .inl h2⟩
  · exact ⟨h1, .inr ⟨g, cap, rest, rfl, b, c.own o (hne g (by simp [Value.ownBlock])), d⟩⟩

theorem own_setRow (w : World) (g : Nat) (cs : Array Value) : Own g w (w.setRow g cs) :=
  ⟨rfl, rfl, rfl, by simp, fun k _ hk => setRow_other w g k _ (fun e => hk (by rw [e]))⟩

theorem run_append_rowN {P : Program} (w : World) (base : Nat) (t ty e : TypeId) (i : TypeInfo) (z : Value) (size bytes : Nat) (ht : P.underlying t = some (.slice e)) (hi : P.info? e = some i) (hz : i.zero = some z)
    (hsize : i.size = size) (hby : i.bytes = bytes) (hzs : z.cells.size = size) (hsz : 0 < size) (hzu : NoUL z.cells.toList)
    (v : Value) (n : Nat) (xs : List Value) (hown : RowN w base e size v n xs)
    (a : Addr) (m c : Nat) (news : List Value) (hl : news.length = m * size) (hnews : ∀ j u, news[j]? = some u → w.cell? (a.add j) = some u) (h1 : ∀ u ∈ news, u.oneCell' = true) (hnu : NoUL news)
    (hm : 0 < m) (h63 : n + m ≤ maxLen) (hbytes : (n + m) * bytes ≤ 140737488355328) (hbase : base ≤ w.heap.size) :
    ∃ v' w', (Builtin.append_ #[t, t] ty #[v, .slice (some a) m c]).run P w = .ok v' w' ∧ RowN w' base e size v' (n + m) (xs ++ news) ∧ w.grownBy w' v.ownBlock ∧
      (∀ (r : RV) (q : Rat), r.Is w q → r.Is w' q) ∧ ∃ g cap, v' = .slice (some ⟨g, 0, none⟩) (n + m) cap ∧ (v.ownBlock = some g ∨ w.heap.size ≤ g) := by
  subst hsize
  subst hby
  have hsmall : n + m ≤ 9223372036854775807 := by simp only [maxLen] at h63; omega
  have hlen : (xs ++ news).length = (n + m) * i.size := by rw [List.length_append, hown.1, hl, Nat.add_mul]
  have hzc : ∀ k, NoUL (Builtin.zeroCells z.cells k).toList := fun k => noUL_zero _ _ (by omega) hzu
  have grown : ∀ (old : Nat), old < n + m → NoUL xs → ∀ (row : Option Nat),
      RowN (w.drew.alloc (.cells (xs.toArray ++ news.toArray ++ Builtin.zeroCells z.cells (grownCap w (n + m) old e - (n + m))) e)) base e i.size
        (.slice (some ⟨w.heap.size, 0, none⟩) (n + m) (grownCap w (n + m) old e)) (n + m) (xs ++ news) ∧
      w.grownBy (w.drew.alloc (.cells (xs.toArray ++ news.toArray ++ Builtin.zeroCells z.cells (grownCap w (n + m) old e - (n + m))) e)) row ∧
      Ext w (w.drew.alloc (.cells (xs.toArray ++ news.toArray ++ Builtin.zeroCells z.cells (grownCap w (n + m) old e - (n + m))) e)) := by
    intro old ho hxu row
    have hge := grownCap_ge w (n + m) old e
    have hcm : grownCap w (n + m) old e ≤ maxLen := grownCap_le_maxLen w (n + m) old e h63
    refine ⟨⟨hlen, .inr ⟨w.heap.size, _, (Builtin.zeroCells z.cells (grownCap w (n + m) old e - (n + m))).toList, rfl, hbase, ?_, hge, hcm, ?_, (hxu.app hnu).app (hzc _)⟩⟩, ⟨rfl, rfl, rfl, by simp, fun k hk _ => Below.heap_alloc w.drew _ k hk⟩, ((Ext.refl w).drew).alloc _⟩
    · have h := Blk.new w.drew e (xs.toArray ++ news.toArray ++ Builtin.zeroCells z.cells (grownCap w (n + m) old e - (n + m)))
      have e2 : (xs ++ news ++ (Builtin.zeroCells z.cells (grownCap w (n + m) old e - (n + m))).toList).toArray = xs.toArray ++ news.toArray ++ Builtin.zeroCells z.cells (grownCap w (n + m) old e - (n + m)) := by
        apply Array.ext'; simp
      rw [e2]
      exact h
    · rw [hlen, Array.length_toList, size_zeroCells, hzs, ← Nat.add_mul]
      congr 1
      omega
  rcases hown.2 with ⟨rfl, rfl⟩ | ⟨g, cap, rest, rfl, hbg, hg, hnc, hcm, hcs, hnr⟩
  · have hx : xs = [] := List.eq_nil_of_length_eq_zero (by simpa using hown.1)
    subst hx
    have hr := run_append_nil (P := P) w t ty e i z ht hi hz a m c news hl hnews (by omega) (by omega) (by have hb := hbytes; simp only [Nat.zero_add] at hb; omega)
    have hgr := grown 0 (by omega) (by intro x hx; simp at hx) (Value.ownBlock (.slice none 0 0))
    simp only [Nat.zero_add, List.nil_append, Array.empty_append] at hgr ⊢
    exact ⟨_, _, hr, hgr.1, hgr.2.1, fun r q h => h.ext hgr.2.2, _, _, rfl, .inr (Nat.le_refl _)⟩
  · by_cases hroom : n + m ≤ cap
    · have hcur : (xs ++ rest).toArray.size = cap * i.size := by simp [hcs]
      have hfit : n * i.size + news.length ≤ (xs ++ rest).toArray.size := by rw [hl, hcur, ← Nat.add_mul]; exact Nat.mul_le_mul_right _ hroom
      have hr := run_append_room (P := P) w t ty e i ht hi g n cap _ hg a m c news hl hnews h1 hroom hfit
      have ho := own_setRow w g ((xs ++ rest).toArray.toList.take (n * i.size) ++ news ++ (xs ++ rest).toArray.toList.drop (n * i.size + news.length)).toArray
      have e1 : (xs ++ rest).toArray.toList.take (n * i.size) = xs := by rw [List.toList_toArray, ← hown.1]; exact List.take_left
      have e2 : (xs ++ rest).toArray.toList.drop (n * i.size + news.length) = rest.drop news.length := by
        rw [List.toList_toArray, ← hown.1, List.drop_append, List.drop_of_length_le (by omega), List.nil_append]
        congr 1
        omega
      rw [e1, e2] at hr ho
      refine ⟨_, _, hr, ⟨hlen, .inr ⟨g, cap, rest.drop news.length, rfl, hbg, setRow_heap w g _ _ e _ hg, hroom, hcm, ?_, (hnr.left.app hnu).app (hnr.right.drop _)⟩⟩, ?_, fun r q h => h.own hg hnr.arr ho, _, _, rfl, .inl (by simp [Value.ownBlock])⟩
      · rw [List.length_append, List.length_drop]
        have h5 : (xs ++ rest).toArray.size = xs.length + rest.length := by simp
        have h6 := hown.1
        omega
      · exact ho
    · have holds : ∀ j u, xs[j]? = some u → w.cell? ((⟨g, 0, none⟩ : Addr).add j) = some u := by
        intro j u hj
        have e3 : (⟨g, 0, none⟩ : Addr).add j = ⟨g, j, none⟩ := by unfold Addr.add; split <;> simp_all
        rw [e3, hg.cell j, List.getElem?_toArray, List.getElem?_append_left (List.getElem?_eq_some_iff.1 hj).1]
        exact hj
      have hr := run_append_grow (P := P) w t ty e i z ht hi hz ⟨g, 0, none⟩ n cap xs hown.1 holds a m c news hl hnews (by omega) (by omega) (growslice_fits (by omega) hbytes)
      have hgr := grown cap (by omega) hnr.left (Value.ownBlock (.slice (some ⟨g, 0, none⟩) n cap))
      exact ⟨_, _, hr, hgr.1, hgr.2.1, fun r q h => h.ext hgr.2.2, _, _, rfl, .inr (Nat.le_refl _)⟩

theorem wp_append_rowN {P : Program} {w : World} {o : Oper} {a : Act} {K : Act → World → Prop} {Q : Exit → Act → World → Prop} (s x : Operand) (t : TypeId)
    (ho : o.op = .call { callee := .builtin .append, args := #[s, x], argTypes := #[t, t] })
    (base : Nat) (e : TypeId) (i : TypeInfo) (z : Value) (size bytes : Nat) (ht : P.underlying t = some (.slice e)) (hi : P.info? e = some i) (hz : i.zero = some z)
    (hsize : i.size = size) (hby : i.bytes = bytes) (hzs : z.cells.size = size) (hsz : 0 < size) (hzu : NoUL z.cells.toList)
    (v : Value) (n : Nat) (xs : List Value) (hs : a.eval s = v) (hown : RowN w base e size v n xs)
    (ad : Addr) (m c : Nat) (news : List Value) (hx : a.eval x = .slice (some ad) m c) (hl : news.length = m * size) (hnews : ∀ j u, news[j]? = some u → w.cell? (ad.add j) = some u) (h1 : ∀ u ∈ news, u.oneCell' = true) (hnu : NoUL news)
    (hm : 0 < m) (h63 : n + m ≤ maxLen) (hbytes : (n + m) * bytes ≤ 140737488355328) (hbase : base ≤ w.heap.size)
    (h : ∀ g cap w', RowN w' base e size (.slice (some ⟨g, 0, none⟩) (n + m) cap) (n + m) (xs ++ news) → w.grownBy w' v.ownBlock → (∀ (r : RV) (q : Rat), r.Is w q → r.Is w' q) → K (a.put o.dst (.slice (some ⟨g, 0, none⟩) (n + m) cap)) w') : o.wp P a w K Q := by
  obtain ⟨v', w', hr, h2, h3, h4, g, cap, rfl, _⟩ := run_append_rowN (P := P) w base t o.type e i z size bytes ht hi hz hsize hby hzs hsz hzu v n xs hown ad m c news hl hnews h1 hnu hm h63 hbytes hbase
  unfold Oper.wp execOp
  simp only [ho, resolve, invoke, builtin, Sem.run_bind, Sem.run_pure, Result.andThen_ok, List.map_toArray, List.map_cons, List.map_nil, hs, hx, hr]
  exact h g cap w' h2 h3 h4
theorem wp_append_rowF {P : Program} {w : World} {o : Oper} {a : Act} {K : Act → World → Prop} {Q : Exit → Act → World → Prop} (s x : Operand) (t : TypeId)
    (ho : o.op = .call { callee := .builtin .append, args := #[s, x], argTypes := #[t, t] })
    (base : Nat) (e : TypeId) (i : TypeInfo) (z : Value) (size bytes : Nat) (ht : P.underlying t = some (.slice e)) (hi : P.info? e = some i) (hz : i.zero = some z)
    (hsize : i.size = size) (hby : i.bytes = bytes) (hzs : z.cells.size = size) (hsz : 0 < size) (hzu : NoUL z.cells.toList)
    (v : Value) (n : Nat) (xs : List Value) (hs : a.eval s = v) (hown : RowN w base e size v n xs)
    (ad : Addr) (m c : Nat) (news : List Value) (hx : a.eval x = .slice (some ad) m c) (hl : news.length = m * size) (hnews : ∀ j u, news[j]? = some u → w.cell? (ad.add j) = some u) (h1 : ∀ u ∈ news, u.oneCell' = true) (hnu : NoUL news)
    (hm : 0 < m) (h63 : n + m ≤ maxLen) (hbytes : (n + m) * bytes ≤ 140737488355328) (hbase : base ≤ w.heap.size)
    (h : ∀ g cap w', (v.ownBlock = some g ∨ w.heap.size ≤ g) → RowN w' base e size (.slice (some ⟨g, 0, none⟩) (n + m) cap) (n + m) (xs ++ news) → w.grownBy w' v.ownBlock → (∀ (r : RV) (q : Rat), r.Is w q → r.Is w' q) → K (a.put o.dst (.slice (some ⟨g, 0, none⟩) (n + m) cap)) w') : o.wp P a w K Q := by
  obtain ⟨v', w', hr, h2, h3, h4, g, cap, rfl, hf⟩ := run_append_rowN (P := P) w base t o.type e i z size bytes ht hi hz hsize hby hzs hsz hzu v n xs hown ad m c news hl hnews h1 hnu hm h63 hbytes hbase
  unfold Oper.wp execOp
  simp only [ho, resolve, invoke, builtin, Sem.run_bind, Sem.run_pure, Result.andThen_ok, List.map_toArray, List.map_cons, List.map_nil, hs, hx, hr]
  exact h g cap w' hf h2 h3 h4
theorem md_range {P : Program} {l : List Oper} {Q : Exit → Act → World → Prop} {md : Region.Mode} {S : World → Prop} {i : Nat} {oi : Oper} {fuel : Nat} {listed listed' : Array Bool} {a : Act} {w : World}
    (hi : l[i]? = some oi) (hs : Region.noSelect l.toArray = true) (hf : Region.free md l.toArray listed i = true) (hr : (Region.ready md l.toArray listed).contains i = true)
    (ty : TypeId) (x : Operand) (ho : oi.op = .load ty x) (g o : Nat) (cs : List Value) (d : TypeDesc)
    (hQ : ∀ c a w, Q (.panic c) (a.put oi.dst (.agg cs.toArray)) w → Q (.panic c) a w) (hw : Region.wanted oi (yielded l.toArray a.tmps) = true) (hx : a.eval x = .pointer (some ⟨g, o, none⟩)) (hb : ∀ w, S w → w.rangeAt g o cs)
    (hu : P.underlying ty = some d) (hd : d.isRow = true) (hz : (P.info? ty).map (·.size) = some cs.length) (hS : S w)
    (hl : listed.setIfInBounds i true = listed') (h : wpAnyH P md l.toArray Q S fuel listed' (a.put oi.dst (.agg cs.toArray)) w) : wpAnyH P md l.toArray Q S (fuel + 1) listed a w :=
  wpAnyH_take_l (v := .agg cs.toArray) hi hs hf hr hQ (yieldsIf_load_mid (P := P) (ops := l.toArray) (S := S) hw ty x ho g o hx cs d hb hu hd hz) hS (by rw [hl]; exact h)

theorem md_append {P : Program} {l : List Oper} {Q : Exit → Act → World → Prop} {md : Region.Mode} {S : World → Prop} {j : Nat} {oi : Oper} {fuel : Nat} {listed listed' : Array Bool} {a : Act} {w : World}
    (hj : l[j]? = some oi) (hr : Region.ready md l.toArray listed = [j]) (hw : Region.wanted oi (yielded l.toArray a.tmps) = true) (s x : Operand) (t : TypeId)
    (ho : oi.op = .call { callee := .builtin .append, args := #[s, x], argTypes := #[t, t] })
    (base : Nat) (e : TypeId) (i : TypeInfo) (z : Value) (size bytes : Nat) (ht : P.underlying t = some (.slice e)) (hi : P.info? e = some i) (hz : i.zero = some z)
    (hsize : i.size = size) (hby : i.bytes = bytes) (hzs : z.cells.size = size) (hsz : 0 < size) (hzu : NoUL z.cells.toList)
    (v : Value) (n : Nat) (xs : List Value) (hs : a.eval s = v) (hown : RowN w base e size v n xs)
    (ad : Addr) (m c : Nat) (news : List Value) (hx : a.eval x = .slice (some ad) m c) (hl : news.length = m * size) (hnews : ∀ j u, news[j]? = some u → w.cell? (ad.add j) = some u) (h1 : ∀ u ∈ news, u.oneCell' = true) (hnu : NoUL news)
    (hm : 0 < m) (h63 : n + m ≤ maxLen) (hbytes : (n + m) * bytes ≤ 140737488355328) (hbase : base ≤ w.heap.size) (hl' : listed.setIfInBounds j true = listed')
    (h : ∀ g cap w', RowN w' base e size (.slice (some ⟨g, 0, none⟩) (n + m) cap) (n + m) (xs ++ news) → w.grownBy w' v.ownBlock → (∀ (r : RV) (q : Rat), r.Is w q → r.Is w' q) →
      S w' ∧ wpAnyH P md l.toArray Q S fuel listed' (a.put oi.dst (.slice (some ⟨g, 0, none⟩) (n + m) cap)) w') : wpAnyH P md l.toArray Q S (fuel + 1) listed a w :=
  wpAnyH_one_l hj hr (fun K hK => by
    rw [if_pos hw]
    refine wp_append_rowN s x t ho base e i z size bytes ht hi hz hsize hby hzs hsz hzu v n xs hs hown ad m c news hx hl hnews h1 hnu hm h63 hbytes hbase fun g cap w' h2 h3 h4 => ?_
    obtain ⟨k1, k2⟩ := h g cap w' h2 h3 h4
    exact hK.out _ _ k1 (fun _ => by rw [hl']; exact k2))
theorem md_appendF {P : Program} {l : List Oper} {Q : Exit → Act → World → Prop} {md : Region.Mode} {S : World → Prop} {j : Nat} {oi : Oper} {fuel : Nat} {listed listed' : Array Bool} {a : Act} {w : World}
    (hj : l[j]? = some oi) (hr : Region.ready md l.toArray listed = [j]) (hw : Region.wanted oi (yielded l.toArray a.tmps) = true) (s x : Operand) (t : TypeId)
    (ho : oi.op = .call { callee := .builtin .append, args := #[s, x], argTypes := #[t, t] })
    (base : Nat) (e : TypeId) (i : TypeInfo) (z : Value) (size bytes : Nat) (ht : P.underlying t = some (.slice e)) (hi : P.info? e = some i) (hz : i.zero = some z)
    (hsize : i.size = size) (hby : i.bytes = bytes) (hzs : z.cells.size = size) (hsz : 0 < size) (hzu : NoUL z.cells.toList)
    (v : Value) (n : Nat) (xs : List Value) (hs : a.eval s = v) (hown : RowN w base e size v n xs)
    (ad : Addr) (m c : Nat) (news : List Value) (hx : a.eval x = .slice (some ad) m c) (hl : news.length = m * size) (hnews : ∀ j u, news[j]? = some u → w.cell? (ad.add j) = some u) (h1 : ∀ u ∈ news, u.oneCell' = true) (hnu : NoUL news)
    (hm : 0 < m) (h63 : n + m ≤ maxLen) (hbytes : (n + m) * bytes ≤ 140737488355328) (hbase : base ≤ w.heap.size) (hl' : listed.setIfInBounds j true = listed')
    (h : ∀ g cap w', (v.ownBlock = some g ∨ w.heap.size ≤ g) → RowN w' base e size (.slice (some ⟨g, 0, none⟩) (n + m) cap) (n + m) (xs ++ news) → w.grownBy w' v.ownBlock → (∀ (r : RV) (q : Rat), r.Is w q → r.Is w' q) →
      S w' ∧ wpAnyH P md l.toArray Q S fuel listed' (a.put oi.dst (.slice (some ⟨g, 0, none⟩) (n + m) cap)) w') : wpAnyH P md l.toArray Q S (fuel + 1) listed a w :=
  wpAnyH_one_l hj hr (fun K hK => by
    rw [if_pos hw]
    refine wp_append_rowF s x t ho base e i z size bytes ht hi hz hsize hby hzs hsz hzu v n xs hs hown ad m c news hx hl hnews h1 hnu hm h63 hbytes hbase fun g cap w' hf h2 h3 h4 => ?_
    obtain ⟨k1, k2⟩ := h g cap w' hf h2 h3 h4
    exact hK.out _ _ k1 (fun _ => by rw [hl']; exact k2))
theorem Blk.grown {w w' : World} {b : Nat} {t : TypeId} {cs : Array Value} {row : Option Nat} (h : Blk w b t cs) (hg : w.grownBy w' row) (hne : row ≠ some b) : Blk w' b t cs := by
  unfold Blk
  rw [hg.block b h.lt (Ne.symm hne)]
  exact h
theorem mR {P : Program} {l : List Oper} {Q : Exit → Act → World → Prop} {md : Region.Mode} {S : World → Prop} {oi : Oper} {fuel : Nat} {listed : Array Bool} {a : Act} {w : World} (i : Nat) (listed' : Array Bool) {ty : TypeId} {x : Operand} {d : TypeDesc} (g o : Nat) (cs : List Value) (hb : ∀ w, S w → w.rangeAt g o cs) (hu : P.underlying ty = some d) (hS : S w) (h : wpAnyH P md l.toArray Q S fuel listed' (a.put oi.dst (.agg cs.toArray)) w) (hi : l[i]? = some oi := by rfl) (hs : Region.noSelect l.toArray = true := by kernel_rfl) (hf : Region.free md l.toArray listed i = true := by kernel_rfl) (hr : (Region.ready md l.toArray listed).contains i = true := by kernel_rfl) (ho : oi.op = .load ty x := by rfl) (hQ : ∀ c a w, Q (.panic c) (a.put oi.dst (.agg cs.toArray)) w → Q (.panic c) a w := by intro _ _ _ h; exact h) (hw : Region.wanted oi (yielded l.toArray a.tmps) = true := by rfl) (hx : a.eval x = .pointer (some ⟨g, o, none⟩) := by rfl) (hd : d.isRow = true := by rfl) (hz : (P.info? ty).map (·.size) = some cs.length := by kernel_rfl) (hl : listed.setIfInBounds i true = listed' := by kernel_rfl) : wpAnyH P md l.toArray Q S (fuel + 1) listed a w := md_range hi hs hf hr ty x ho g o cs d hQ hw hx hb hu hd hz hS hl h
end Go.Proofs.YtllpkoinjompcaaGreat

namespace Go.Proofs.YtllpkoinjompcaaGreat
open Go.RowKit
attribute [local go_sem ↓] Go.wp_at_zero Go.wp_at_succ run_max_ii run_min_ii

theorem Own.trans {g : Nat} {a b c : World} (h : Own g a b) (k : Own g b c) : Own g a c :=
  ⟨k.os.trans h.os, k.tape.trans h.tape, k.output.trans h.output, Nat.le_trans h.size k.size, fun i hi hn => (k.block i (Nat.lt_of_lt_of_le hi h.size) hn).trans (h.block i hi hn)⟩
theorem RV.In.own {L : Nat} {w w' : World} {a : RV} {q : Rat} (h : a.In L w q) {g : Nat} {t : TypeId} {cs : Array Value} (hb : Blk w g t cs) (hn : NoU cs) (o : Own g w w') : a.In L w' q := by
  obtain ⟨y, z, ⟨m, ⟨xs, d1, k1⟩, e1⟩, ⟨n, ⟨ys, d2, k2⟩, e2⟩, e⟩ := h
  exact ⟨y, z, ⟨m, ⟨xs, d1.own hb hn o, k1⟩, e1⟩, ⟨n, ⟨ys, d2.own hb hn o, k2⟩, e2⟩, e⟩
def BoxAt (w : World) (X : Nat) (lx ly hx hy : Rat) : Prop := ∃ a b c d : RV, Blk w X 69 ([.bool a.n, .slice a.p a.l a.c, .bool a.m, .slice a.p2 a.l2 a.c2, .bool b.n, .slice b.p b.l b.c, .bool b.m, .slice b.p2 b.l2 b.c2, .bool c.n, .slice c.p c.l c.c, .bool c.m, .slice c.p2 c.l2 c.c2, .bool d.n, .slice d.p d.l d.c, .bool d.m, .slice d.p2 d.l2 d.c2, .bool true] : List Value).toArray ∧ a.Is w lx ∧ b.Is w ly ∧ c.Is w hx ∧ d.Is w hy
def Turn (X : Nat) (w w' : World) : Prop := Own X w w' ∧ ∀ (r : RV) (q : Rat), r.Is w q → r.Is w' q
theorem Turn.of_ext {X : Nat} {w w' : World} (h : Ext w w') : Turn X w w' := ⟨Own.of_ext h, fun _ _ k => k.ext h⟩
theorem Turn.trans {X : Nat} {a b c : World} (h : Turn X a b) (k : Turn X b c) : Turn X a c := ⟨h.1.trans k.1, fun r q x => k.2 r q (h.2 r q x)⟩
theorem xcmp {L : Nat} {w : World} {a b : RV} {q r : Rat} (h : a.In L w q) (h' : b.In L w r) (hL : L ≤ 70000) : Calls Tryz.prog 46 #[.agg #[.bool a.n, .slice a.p a.l a.c, .bool a.m, .slice a.p2 a.l2 a.c2], .agg #[.bool b.n, .slice b.p b.l b.c, .bool b.m, .slice b.p2 b.l2 b.c2]] w fun e w' => e = .returned (.int .i64 (rcmp q r)) ∧ Ext w w' := rcmp_any _ _ _ _ _ _ _ _ L q r w h h' hL
def lower (q l : Rat) : Rat := if q < l then q else l
def upper (q h : Rat) : Rat := if h < q then q else h
theorem lower_t {q l : Rat} (h : rcmp q l < 0) : lower q l = q := if_pos (rcmp_lt.1 h)
theorem lower_f {q l : Rat} (h : ¬ rcmp q l < 0) : lower q l = l := if_neg (fun x => h (rcmp_lt.2 x))
theorem rcmp_gt' {q r : Rat} : 0 < rcmp q r ↔ r < q := by
  have h : rcmp r q = - rcmp q r := by
    unfold rcmp
    rw [← Int.sign_neg]
    congr 1
    omega
  have h2 := rcmp_lt (q := r) (r := q)
  rw [h] at h2
  constructor
  · intro x; exact h2.1 (by omega)
  · intro x; have := h2.2 x; omega
theorem upper_t {q l : Rat} (h : 0 < rcmp q l) : upper q l = q := if_pos (rcmp_gt'.1 h)
theorem upper_f {q l : Rat} (h : ¬ 0 < rcmp q l) : upper q l = l := if_neg (fun x => h (rcmp_gt'.2 x))
set_option maxRecDepth 20000 in
set_option maxHeartbeats 8000000 in
theorem add0_any (L X : Nat) (n : RV) (lx ly hx hy q : Rat) (w : World) (hb : BoxAt w X lx ly hx hy) (hn : n.In L w q) (hlo : Nm.rl lx ≤ L) (hhi : Nm.rl hx ≤ L) (hL : L ≤ 60000) :
  Calls Tryz.prog 47 #[.pointer (some ⟨X, 0, none⟩), .int .i64 0, .agg #[.bool n.n, .slice n.p n.l n.c, .bool n.m, .slice n.p2 n.l2 n.c2]] w fun e w' => e = .returned (.tuple #[]) ∧ BoxAt w' X (lower q lx) ly (upper q hx) hy ∧ Turn X w w' := by
 obtain ⟨a, b, c, d, hX, ha, hb, hc, hd⟩ := hb
 have Fa := zH ha
 have Fb := zH hb
 have Fc := zH hc
 have Fd := zH hd
 have Fn := zH hn
 have FbX := zH hX
 have hlt := Blk.lt hX
 clear ha hb hc hd hn hX
 go_enter Tryz.func47, Tryz.ntmps47
 go_upto_region 1 with fail
 have hbx0 : Blk (w.alloc (.cells #[.bool n.n, .slice n.p n.l n.c, .bool n.m, .slice n.p2 n.l2 n.c2] 26)) (w.heap.size) 26 #[.bool n.n, .slice n.p n.l n.c, .bool n.m, .slice n.p2 n.l2 n.c2] := Blk.ext (Blk.new_at w _ (by simp) _ _) (Ext.refl _)
 have hE : Ext w (w.alloc (.cells #[.bool n.n, .slice n.p n.l n.c, .bool n.m, .slice n.p2 n.l2 n.c2] 26)) := ((Ext.refl _).alloc _)
 generalize (w.alloc (.cells #[.bool n.n, .slice n.p n.l n.c, .bool n.m, .slice n.p2 n.l2 n.c2] 26)) = wa at *
 have E1 : Hid (Ext w wa) := hE
 have Fbx0 := zH hbx0
 clear hE hbx0
 have nbx0_bX : w.heap.size ≠ X := by omega
 have TT := zH (Turn.of_ext (X := X) (Ext.refl w))
 by_cases hlt1 : rcmp q lx < 0
 ·by_cases hgt1 : 0 < rcmp q hx
  ·refine wp_region_held_drew (S := fun x => Ext wa x) (by kernel_rfl) (Ext.refl _).drew (fun _ => ?_)
   have E2 := zH (show Ext wa wa.drew from (Ext.refl _).drew)
   refine mR 0 (bs 9 1) w.heap.size 0 [.bool n.n, .slice n.p n.l n.c, .bool n.m, .slice n.p2 n.l2 n.c2] (fun x hx => ((Fbx0.out).ext hx).part 0 4) Tryz.underlying26 E2.out ?_
   (try simp only [Act.put, zA, zB, zC])
   refine mV 1 (bs 9 3) E2.out ?_
   (try simp only [Act.put, zA, zB, zC])
   refine mV 2 (bs 9 7) E2.out ?_
   (try simp only [Act.put, zA, zB, zC])
   refine mV 3 (bs 9 15) E2.out ?_
   (try simp only [Act.put, zA, zB, zC])
   refine mV 4 (bs 9 31) E2.out ?_
   (try simp only [Act.put, zA, zB, zC])
   refine mV 5 (bs 9 63) E2.out ?_
   refine mR 6 (bs 9 127) X 0 [.bool a.n, .slice a.p a.l a.c, .bool a.m, .slice a.p2 a.l2 a.c2] (fun x hx => (((FbX.out.ext E1.out)).ext hx).part 0 4) Tryz.underlying26 E2.out ?_
   (try simp only [Act.put, zA, zB, zC])
   refine mC 7 (bs 9 255) (xcmp (L := L) (Fn.out.ext (tr E1 E2).out) ((Fa.out.ext (tr E1 E2).out).isIn hlo) (by omega)) ?_
   rintro e w3 ⟨rfl, hx⟩
   have E3 : Hid (Ext wa.drew w3) := hx
   clear hx
   refine ⟨_, rfl, (tr E2 E3).out, ?_⟩
   (try simp only [Act.put, zA, zB, zC])
   refine mV 8 (bs 9 511) (tr E2 E3).out ?_
   (try simp only [Act.put, zA, zB, zC])
   refine wpAnyH_done (by kernel_rfl) ?_ _
   go_upto_region 2 with fail
   refine wp_region_held_drew (S := fun x => Own X w3 x) (by kernel_rfl) (Own.of_ext (Ext.refl _).drew) (fun _ => ?_)
   have E4 := zH (show Ext w3 w3.drew from (Ext.refl _).drew)
   refine mV 0 (bs 8 1) (Own.of_ext E4.out) ?_
   (try simp only [Act.put, zA, zB, zC])
   refine mV 1 (bs 8 3) (Own.of_ext E4.out) ?_
   refine mR 2 (bs 8 7) w.heap.size 0 [.bool n.n, .slice n.p n.l n.c, .bool n.m, .slice n.p2 n.l2 n.c2] (fun x hx => (((Fbx0.out.ext (tr E2 E3).out)).own hx nbx0_bX).part 0 4) Tryz.underlying26 (Own.of_ext E4.out) ?_
   (try simp only [Act.put, zA, zB, zC])
   refine mV 4 (bs 8 23) (Own.of_ext E4.out) ?_
   (try simp only [Act.put, zA, zB, zC])
   refine mV 5 (bs 8 55) (Own.of_ext E4.out) ?_
   (try simp only [Act.put, zA, zB, zC])
   refine mC 3 (bs 8 63) (xnorm (L := L) (Fn.out.ext (tr E1 (tr E2 (tr E3 E4))).out) (by omega)) ?_
   rintro e w5 ⟨u1, rfl, hc, hx⟩
   have E5 : Hid (Ext w3.drew w5) := hx
   have Fu1 := zH hc
   clear hc
   clear hx
   refine ⟨_, rfl, (Own.of_ext (tr E4 E5).out), ?_⟩
   (try simp only [Act.put, zA, zB, zC])
   refine mV 6 (bs 8 127) (Own.of_ext (tr E4 E5).out) ?_
   (try simp only [Act.put, zA, zB, zC])
   have kb := (FbX.out.ext (tr E1 (tr E2 (tr E3 (tr E4 E5)))).out)
   have ob : Own X w5 (w5.setCells X 0 (#[.bool u1.n, .slice u1.p u1.l u1.c, .bool u1.m, .slice u1.p2 u1.l2 u1.c2] : Array Value).toList) := Own.setCells_l _ _ (Own.refl _ _)
   have kc := kb.setPart 0 (#[.bool u1.n, .slice u1.p u1.l u1.c, .bool u1.m, .slice u1.p2 u1.l2 u1.c2] : Array Value).toList (by simp)
   refine md_pstore (i := 7) (listed' := (bs 8 255)) (by rfl) (by kernel_rfl) (by rfl) _ _ _ (by rfl) X 0 _ [.bool a.n, .slice a.p a.l a.c, .bool a.m, .slice a.p2 a.l2 a.c2, .bool b.n, .slice b.p b.l b.c, .bool b.m, .slice b.p2 b.l2 b.c2, .bool c.n, .slice c.p c.l c.c, .bool c.m, .slice c.p2 c.l2 c.c2, .bool d.n, .slice d.p d.l d.c, .bool d.m, .slice d.p2 d.l2 d.c2, .bool true] #[.bool u1.n, .slice u1.p u1.l u1.c, .bool u1.m, .slice u1.p2 u1.l2 u1.c2] (by rfl) (by rfl) kb (by simp) (by kernel_rfl) (all_oneCell_toArray (by simp [Value.oneCell'])) (Own.then_ext' (tr E4 E5).out ob) (by kernel_rfl) ?_
   (try simp only [Act.put])
   refine wpAnyH_done (by kernel_rfl) ?_ _
   have kc2 : Blk (w5.setCells X 0 (#[.bool u1.n, .slice u1.p u1.l u1.c, .bool u1.m, .slice u1.p2 u1.l2 u1.c2] : Array Value).toList) X 69 ([.bool u1.n, .slice u1.p u1.l u1.c, .bool u1.m, .slice u1.p2 u1.l2 u1.c2, .bool b.n, .slice b.p b.l b.c, .bool b.m, .slice b.p2 b.l2 b.c2, .bool c.n, .slice c.p c.l c.c, .bool c.m, .slice c.p2 c.l2 c.c2, .bool d.n, .slice d.p d.l d.c, .bool d.m, .slice d.p2 d.l2 d.c2, .bool true] : List Value).toArray := kc
   have tn : Turn X w (w5.setCells X 0 (#[.bool u1.n, .slice u1.p u1.l u1.c, .bool u1.m, .slice u1.p2 u1.l2 u1.c2] : Array Value).toList) := (TT.out.trans (Turn.of_ext (tr E1 (tr E2 (tr E3 (tr E4 E5)))).out)).trans ⟨ob, fun r q h => h.own kb (noU_of _ (by simp)) ob⟩
   have ib := (Fb.out.ext (tr E1 (tr E2 (tr E3 (tr E4 E5)))).out).own kb (noU_of _ (by simp)) ob
   have iu1 := Fu1.out.own kb (noU_of _ (by simp)) ob
   have id := (Fd.out.ext (tr E1 (tr E2 (tr E3 (tr E4 E5)))).out).own kb (noU_of _ (by simp)) ob
   have ic := (Fc.out.ext (tr E1 (tr E2 (tr E3 (tr E4 E5)))).out).own kb (noU_of _ (by simp)) ob
   have in_ := (Fn.out.ext (tr E1 (tr E2 (tr E3 (tr E4 E5)))).out).own kb (noU_of _ (by simp)) ob
   have ib0 := (Fbx0.out.ext (tr E2 (tr E3 (tr E4 E5))).out).own ob nbx0_bX
   clear kc kb ob
   generalize (w5.setCells X 0 (#[.bool u1.n, .slice u1.p u1.l u1.c, .bool u1.m, .slice u1.p2 u1.l2 u1.c2] : Array Value).toList) = wz2 at *
   have TT := zH tn
   clear tn
   have Fb := zH ib
   have Fu1 := zH iu1
   have Fd := zH id
   have Fc := zH ic
   have Fn := zH in_
   have Fbx0 := zH ib0
   have FbX := zH kc2
   clear kc2 in_ ib0 ib iu1 id ic
   go_upto_region 3 with fail
   refine wp_region_held_drew (S := fun x => Ext wz2 x) (by kernel_rfl) (Ext.refl _).drew (fun _ => ?_)
   have E1 := zH (show Ext wz2 wz2.drew from (Ext.refl _).drew)
   refine mR 0 (bs 9 1) w.heap.size 0 [.bool n.n, .slice n.p n.l n.c, .bool n.m, .slice n.p2 n.l2 n.c2] (fun x hx => ((Fbx0.out).ext hx).part 0 4) Tryz.underlying26 E1.out ?_
   (try simp only [Act.put, zA, zB, zC])
   refine mV 1 (bs 9 3) E1.out ?_
   (try simp only [Act.put, zA, zB, zC])
   refine mV 2 (bs 9 7) E1.out ?_
   (try simp only [Act.put, zA, zB, zC])
   refine mV 3 (bs 9 15) E1.out ?_
   (try simp only [Act.put, zA, zB, zC])
   refine mV 4 (bs 9 31) E1.out ?_
   (try simp only [Act.put, zA, zB, zC])
   refine mV 5 (bs 9 63) E1.out ?_
   refine mR 6 (bs 9 127) X 8 [.bool c.n, .slice c.p c.l c.c, .bool c.m, .slice c.p2 c.l2 c.c2] (fun x hx => ((FbX.out).ext hx).part 8 4) Tryz.underlying26 E1.out ?_
   (try simp only [Act.put, zA, zB, zC])
   refine mC 7 (bs 9 255) (xcmp (L := L) (Fn.out.ext E1.out) ((Fc.out.ext E1.out).isIn hhi) (by omega)) ?_
   rintro e w2 ⟨rfl, hx⟩
   have E2 : Hid (Ext wz2.drew w2) := hx
   clear hx
   refine ⟨_, rfl, (tr E1 E2).out, ?_⟩
   (try simp only [Act.put, zA, zB, zC])
   refine mV 8 (bs 9 511) (tr E1 E2).out ?_
   (try simp only [Act.put, zA, zB, zC])
   refine wpAnyH_done (by kernel_rfl) ?_ _
   go_upto_region 4 with fail
   refine wp_region_held_drew (S := fun x => Own X w2 x) (by kernel_rfl) (Own.of_ext (Ext.refl _).drew) (fun _ => ?_)
   have E3 := zH (show Ext w2 w2.drew from (Ext.refl _).drew)
   refine mV 0 (bs 8 1) (Own.of_ext E3.out) ?_
   (try simp only [Act.put, zA, zB, zC])
   refine mV 1 (bs 8 3) (Own.of_ext E3.out) ?_
   refine mR 2 (bs 8 7) w.heap.size 0 [.bool n.n, .slice n.p n.l n.c, .bool n.m, .slice n.p2 n.l2 n.c2] (fun x hx => (((Fbx0.out.ext (tr E1 E2).out)).own hx nbx0_bX).part 0 4) Tryz.underlying26 (Own.of_ext E3.out) ?_
   (try simp only [Act.put, zA, zB, zC])
   refine mV 4 (bs 8 23) (Own.of_ext E3.out) ?_
   (try simp only [Act.put, zA, zB, zC])
   refine mV 5 (bs 8 55) (Own.of_ext E3.out) ?_
   (try simp only [Act.put, zA, zB, zC])
   refine mC 3 (bs 8 63) (xnorm (L := L) (Fn.out.ext (tr E1 (tr E2 E3)).out) (by omega)) ?_
   rintro e w4 ⟨u2, rfl, hc, hx⟩
   have E4 : Hid (Ext w2.drew w4) := hx
   have Fu2 := zH hc
   clear hc
   clear hx
   refine ⟨_, rfl, (Own.of_ext (tr E3 E4).out), ?_⟩
   (try simp only [Act.put, zA, zB, zC])
   refine mV 6 (bs 8 127) (Own.of_ext (tr E3 E4).out) ?_
   (try simp only [Act.put, zA, zB, zC])
   have kb := (FbX.out.ext (tr E1 (tr E2 (tr E3 E4))).out)
   have ob : Own X w4 (w4.setCells X 8 (#[.bool u2.n, .slice u2.p u2.l u2.c, .bool u2.m, .slice u2.p2 u2.l2 u2.c2] : Array Value).toList) := Own.setCells_l _ _ (Own.refl _ _)
   have kc := kb.setPart 8 (#[.bool u2.n, .slice u2.p u2.l u2.c, .bool u2.m, .slice u2.p2 u2.l2 u2.c2] : Array Value).toList (by simp)
   refine md_pstore (i := 7) (listed' := (bs 8 255)) (by rfl) (by kernel_rfl) (by rfl) _ _ _ (by rfl) X 8 _ [.bool u1.n, .slice u1.p u1.l u1.c, .bool u1.m, .slice u1.p2 u1.l2 u1.c2, .bool b.n, .slice b.p b.l b.c, .bool b.m, .slice b.p2 b.l2 b.c2, .bool c.n, .slice c.p c.l c.c, .bool c.m, .slice c.p2 c.l2 c.c2, .bool d.n, .slice d.p d.l d.c, .bool d.m, .slice d.p2 d.l2 d.c2, .bool true] #[.bool u2.n, .slice u2.p u2.l u2.c, .bool u2.m, .slice u2.p2 u2.l2 u2.c2] (by rfl) (by rfl) kb (by simp) (by kernel_rfl) (all_oneCell_toArray (by simp [Value.oneCell'])) (Own.then_ext' (tr E3 E4).out ob) (by kernel_rfl) ?_
   (try simp only [Act.put])
   refine wpAnyH_done (by kernel_rfl) ?_ _
   have kc2 : Blk (w4.setCells X 8 (#[.bool u2.n, .slice u2.p u2.l u2.c, .bool u2.m, .slice u2.p2 u2.l2 u2.c2] : Array Value).toList) X 69 ([.bool u1.n, .slice u1.p u1.l u1.c, .bool u1.m, .slice u1.p2 u1.l2 u1.c2, .bool b.n, .slice b.p b.l b.c, .bool b.m, .slice b.p2 b.l2 b.c2, .bool u2.n, .slice u2.p u2.l u2.c, .bool u2.m, .slice u2.p2 u2.l2 u2.c2, .bool d.n, .slice d.p d.l d.c, .bool d.m, .slice d.p2 d.l2 d.c2, .bool true] : List Value).toArray := kc
   have tn : Turn X w (w4.setCells X 8 (#[.bool u2.n, .slice u2.p u2.l u2.c, .bool u2.m, .slice u2.p2 u2.l2 u2.c2] : Array Value).toList) := (TT.out.trans (Turn.of_ext (tr E1 (tr E2 (tr E3 E4))).out)).trans ⟨ob, fun r q h => h.own kb (noU_of _ (by simp)) ob⟩
   have ib := (Fb.out.ext (tr E1 (tr E2 (tr E3 E4))).out).own kb (noU_of _ (by simp)) ob
   have iu1 := (Fu1.out.ext (tr E1 (tr E2 (tr E3 E4))).out).own kb (noU_of _ (by simp)) ob
   have id := (Fd.out.ext (tr E1 (tr E2 (tr E3 E4))).out).own kb (noU_of _ (by simp)) ob
   have iu2 := Fu2.out.own kb (noU_of _ (by simp)) ob
   have in_ := (Fn.out.ext (tr E1 (tr E2 (tr E3 E4))).out).own kb (noU_of _ (by simp)) ob
   have ib0 := (Fbx0.out.ext (tr E1 (tr E2 (tr E3 E4))).out).own ob nbx0_bX
   clear kc kb ob
   generalize (w4.setCells X 8 (#[.bool u2.n, .slice u2.p u2.l u2.c, .bool u2.m, .slice u2.p2 u2.l2 u2.c2] : Array Value).toList) = wz4 at *
   have TT := zH tn
   clear tn
   have Fb := zH ib
   have Fu1 := zH iu1
   have Fd := zH id
   have Fu2 := zH iu2
   have Fn := zH in_
   have Fbx0 := zH ib0
   have FbX := zH kc2
   clear kc2 in_ ib0 ib iu1 id iu2
   go_wp2_with fail
   first | refine bodyPost_end (v := .tuple #[]) (results_none rfl _ _ _) rfl ?_ | refine bodyPost_ret (v := .tuple #[]) (results_none rfl _ _ _) rfl ?_
   rw [lower_t (by omega), upper_t (by omega)]
   exact ⟨rfl, ⟨u1, b, u2, d, FbX.out, Fu1.out, Fb.out, Fu2.out, Fd.out⟩, TT.out.trans (Turn.of_ext (Ext.refl _))⟩
  ·refine wp_region_held_drew (S := fun x => Ext wa x) (by kernel_rfl) (Ext.refl _).drew (fun _ => ?_)
   have E2 := zH (show Ext wa wa.drew from (Ext.refl _).drew)
   refine mR 0 (bs 9 1) w.heap.size 0 [.bool n.n, .slice n.p n.l n.c, .bool n.m, .slice n.p2 n.l2 n.c2] (fun x hx => ((Fbx0.out).ext hx).part 0 4) Tryz.underlying26 E2.out ?_
   (try simp only [Act.put, zA, zB, zC])
   refine mV 1 (bs 9 3) E2.out ?_
   (try simp only [Act.put, zA, zB, zC])
   refine mV 2 (bs 9 7) E2.out ?_
   (try simp only [Act.put, zA, zB, zC])
   refine mV 3 (bs 9 15) E2.out ?_
   (try simp only [Act.put, zA, zB, zC])
   refine mV 4 (bs 9 31) E2.out ?_
   (try simp only [Act.put, zA, zB, zC])
   refine mV 5 (bs 9 63) E2.out ?_
   refine mR 6 (bs 9 127) X 0 [.bool a.n, .slice a.p a.l a.c, .bool a.m, .slice a.p2 a.l2 a.c2] (fun x hx => (((FbX.out.ext E1.out)).ext hx).part 0 4) Tryz.underlying26 E2.out ?_
   (try simp only [Act.put, zA, zB, zC])
   refine mC 7 (bs 9 255) (xcmp (L := L) (Fn.out.ext (tr E1 E2).out) ((Fa.out.ext (tr E1 E2).out).isIn hlo) (by omega)) ?_
   rintro e w3 ⟨rfl, hx⟩
   have E3 : Hid (Ext wa.drew w3) := hx
   clear hx
   refine ⟨_, rfl, (tr E2 E3).out, ?_⟩
   (try simp only [Act.put, zA, zB, zC])
   refine mV 8 (bs 9 511) (tr E2 E3).out ?_
   (try simp only [Act.put, zA, zB, zC])
   refine wpAnyH_done (by kernel_rfl) ?_ _
   go_upto_region 2 with fail
   refine wp_region_held_drew (S := fun x => Own X w3 x) (by kernel_rfl) (Own.of_ext (Ext.refl _).drew) (fun _ => ?_)
   have E4 := zH (show Ext w3 w3.drew from (Ext.refl _).drew)
   refine mV 0 (bs 8 1) (Own.of_ext E4.out) ?_
   (try simp only [Act.put, zA, zB, zC])
   refine mV 1 (bs 8 3) (Own.of_ext E4.out) ?_
   refine mR 2 (bs 8 7) w.heap.size 0 [.bool n.n, .slice n.p n.l n.c, .bool n.m, .slice n.p2 n.l2 n.c2] (fun x hx => (((Fbx0.out.ext (tr E2 E3).out)).own hx nbx0_bX).part 0 4) Tryz.underlying26 (Own.of_ext E4.out) ?_
   (try simp only [Act.put, zA, zB, zC])
   refine mV 4 (bs 8 23) (Own.of_ext E4.out) ?_
   (try simp only [Act.put, zA, zB, zC])
   refine mV 5 (bs 8 55) (Own.of_ext E4.out) ?_
   (try simp only [Act.put, zA, zB, zC])
   refine mC 3 (bs 8 63) (xnorm (L := L) (Fn.out.ext (tr E1 (tr E2 (tr E3 E4))).out) (by omega)) ?_
   rintro e w5 ⟨u1, rfl, hc, hx⟩
   have E5 : Hid (Ext w3.drew w5) := hx
   have Fu1 := zH hc
   clear hc
   clear hx
   refine ⟨_, rfl, (Own.of_ext (tr E4 E5).out), ?_⟩
   (try simp only [Act.put, zA, zB, zC])
   refine mV 6 (bs 8 127) (Own.of_ext (tr E4 E5).out) ?_
   (try simp only [Act.put, zA, zB, zC])
   have kb := (FbX.out.ext (tr E1 (tr E2 (tr E3 (tr E4 E5)))).out)
   have ob : Own X w5 (w5.setCells X 0 (#[.bool u1.n, .slice u1.p u1.l u1.c, .bool u1.m, .slice u1.p2 u1.l2 u1.c2] : Array Value).toList) := Own.setCells_l _ _ (Own.refl _ _)
   have kc := kb.setPart 0 (#[.bool u1.n, .slice u1.p u1.l u1.c, .bool u1.m, .slice u1.p2 u1.l2 u1.c2] : Array Value).toList (by simp)
   refine md_pstore (i := 7) (listed' := (bs 8 255)) (by rfl) (by kernel_rfl) (by rfl) _ _ _ (by rfl) X 0 _ [.bool a.n, .slice a.p a.l a.c, .bool a.m, .slice a.p2 a.l2 a.c2, .bool b.n, .slice b.p b.l b.c, .bool b.m, .slice b.p2 b.l2 b.c2, .bool c.n, .slice c.p c.l c.c, .bool c.m, .slice c.p2 c.l2 c.c2, .bool d.n, .slice d.p d.l d.c, .bool d.m, .slice d.p2 d.l2 d.c2, .bool true] #[.bool u1.n, .slice u1.p u1.l u1.c, .bool u1.m, .slice u1.p2 u1.l2 u1.c2] (by rfl) (by rfl) kb (by simp) (by kernel_rfl) (all_oneCell_toArray (by simp [Value.oneCell'])) (Own.then_ext' (tr E4 E5).out ob) (by kernel_rfl) ?_
   (try simp only [Act.put])
   refine wpAnyH_done (by kernel_rfl) ?_ _
   have kc2 : Blk (w5.setCells X 0 (#[.bool u1.n, .slice u1.p u1.l u1.c, .bool u1.m, .slice u1.p2 u1.l2 u1.c2] : Array Value).toList) X 69 ([.bool u1.n, .slice u1.p u1.l u1.c, .bool u1.m, .slice u1.p2 u1.l2 u1.c2, .bool b.n, .slice b.p b.l b.c, .bool b.m, .slice b.p2 b.l2 b.c2, .bool c.n, .slice c.p c.l c.c, .bool c.m, .slice c.p2 c.l2 c.c2, .bool d.n, .slice d.p d.l d.c, .bool d.m, .slice d.p2 d.l2 d.c2, .bool true] : List Value).toArray := kc
   have tn : Turn X w (w5.setCells X 0 (#[.bool u1.n, .slice u1.p u1.l u1.c, .bool u1.m, .slice u1.p2 u1.l2 u1.c2] : Array Value).toList) := (TT.out.trans (Turn.of_ext (tr E1 (tr E2 (tr E3 (tr E4 E5)))).out)).trans ⟨ob, fun r q h => h.own kb (noU_of _ (by simp)) ob⟩
   have ib := (Fb.out.ext (tr E1 (tr E2 (tr E3 (tr E4 E5)))).out).own kb (noU_of _ (by simp)) ob
   have iu1 := Fu1.out.own kb (noU_of _ (by simp)) ob
   have id := (Fd.out.ext (tr E1 (tr E2 (tr E3 (tr E4 E5)))).out).own kb (noU_of _ (by simp)) ob
   have ic := (Fc.out.ext (tr E1 (tr E2 (tr E3 (tr E4 E5)))).out).own kb (noU_of _ (by simp)) ob
   have in_ := (Fn.out.ext (tr E1 (tr E2 (tr E3 (tr E4 E5)))).out).own kb (noU_of _ (by simp)) ob
   have ib0 := (Fbx0.out.ext (tr E2 (tr E3 (tr E4 E5))).out).own ob nbx0_bX
   clear kc kb ob
   generalize (w5.setCells X 0 (#[.bool u1.n, .slice u1.p u1.l u1.c, .bool u1.m, .slice u1.p2 u1.l2 u1.c2] : Array Value).toList) = wz2 at *
   have TT := zH tn
   clear tn
   have Fb := zH ib
   have Fu1 := zH iu1
   have Fd := zH id
   have Fc := zH ic
   have Fn := zH in_
   have Fbx0 := zH ib0
   have FbX := zH kc2
   clear kc2 in_ ib0 ib iu1 id ic
   go_upto_region 3 with fail
   refine wp_region_held_drew (S := fun x => Ext wz2 x) (by kernel_rfl) (Ext.refl _).drew (fun _ => ?_)
   have E1 := zH (show Ext wz2 wz2.drew from (Ext.refl _).drew)
   refine mR 0 (bs 9 1) w.heap.size 0 [.bool n.n, .slice n.p n.l n.c, .bool n.m, .slice n.p2 n.l2 n.c2] (fun x hx => ((Fbx0.out).ext hx).part 0 4) Tryz.underlying26 E1.out ?_
   (try simp only [Act.put, zA, zB, zC])
   refine mV 1 (bs 9 3) E1.out ?_
   (try simp only [Act.put, zA, zB, zC])
   refine mV 2 (bs 9 7) E1.out ?_
   (try simp only [Act.put, zA, zB, zC])
   refine mV 3 (bs 9 15) E1.out ?_
   (try simp only [Act.put, zA, zB, zC])
   refine mV 4 (bs 9 31) E1.out ?_
   (try simp only [Act.put, zA, zB, zC])
   refine mV 5 (bs 9 63) E1.out ?_
   refine mR 6 (bs 9 127) X 8 [.bool c.n, .slice c.p c.l c.c, .bool c.m, .slice c.p2 c.l2 c.c2] (fun x hx => ((FbX.out).ext hx).part 8 4) Tryz.underlying26 E1.out ?_
   (try simp only [Act.put, zA, zB, zC])
   refine mC 7 (bs 9 255) (xcmp (L := L) (Fn.out.ext E1.out) ((Fc.out.ext E1.out).isIn hhi) (by omega)) ?_
   rintro e w2 ⟨rfl, hx⟩
   have E2 : Hid (Ext wz2.drew w2) := hx
   clear hx
   refine ⟨_, rfl, (tr E1 E2).out, ?_⟩
   (try simp only [Act.put, zA, zB, zC])
   refine mV 8 (bs 9 511) (tr E1 E2).out ?_
   (try simp only [Act.put, zA, zB, zC])
   refine wpAnyH_done (by kernel_rfl) ?_ _
   go_wp2_with fail
   first | refine bodyPost_end (v := .tuple #[]) (results_none rfl _ _ _) rfl ?_ | refine bodyPost_ret (v := .tuple #[]) (results_none rfl _ _ _) rfl ?_
   rw [lower_t (by omega), upper_f (by omega)]
   exact ⟨rfl, ⟨u1, b, c, d, (FbX.out.ext (tr E1 E2).out), (Fu1.out.ext (tr E1 E2).out), (Fb.out.ext (tr E1 E2).out), (Fc.out.ext (tr E1 E2).out), (Fd.out.ext (tr E1 E2).out)⟩, TT.out.trans (Turn.of_ext (tr E1 E2).out)⟩
 ·by_cases hgt1 : 0 < rcmp q hx
  ·refine wp_region_held_drew (S := fun x => Ext wa x) (by kernel_rfl) (Ext.refl _).drew (fun _ => ?_)
   have E2 := zH (show Ext wa wa.drew from (Ext.refl _).drew)
   refine mR 0 (bs 9 1) w.heap.size 0 [.bool n.n, .slice n.p n.l n.c, .bool n.m, .slice n.p2 n.l2 n.c2] (fun x hx => ((Fbx0.out).ext hx).part 0 4) Tryz.underlying26 E2.out ?_
   (try simp only [Act.put, zA, zB, zC])
   refine mV 1 (bs 9 3) E2.out ?_
   (try simp only [Act.put, zA, zB, zC])
   refine mV 2 (bs 9 7) E2.out ?_
   (try simp only [Act.put, zA, zB, zC])
   refine mV 3 (bs 9 15) E2.out ?_
   (try simp only [Act.put, zA, zB, zC])
   refine mV 4 (bs 9 31) E2.out ?_
   (try simp only [Act.put, zA, zB, zC])
   refine mV 5 (bs 9 63) E2.out ?_
   refine mR 6 (bs 9 127) X 0 [.bool a.n, .slice a.p a.l a.c, .bool a.m, .slice a.p2 a.l2 a.c2] (fun x hx => (((FbX.out.ext E1.out)).ext hx).part 0 4) Tryz.underlying26 E2.out ?_
   (try simp only [Act.put, zA, zB, zC])
   refine mC 7 (bs 9 255) (xcmp (L := L) (Fn.out.ext (tr E1 E2).out) ((Fa.out.ext (tr E1 E2).out).isIn hlo) (by omega)) ?_
   rintro e w3 ⟨rfl, hx⟩
   have E3 : Hid (Ext wa.drew w3) := hx
   clear hx
   refine ⟨_, rfl, (tr E2 E3).out, ?_⟩
   (try simp only [Act.put, zA, zB, zC])
   refine mV 8 (bs 9 511) (tr E2 E3).out ?_
   (try simp only [Act.put, zA, zB, zC])
   refine wpAnyH_done (by kernel_rfl) ?_ _
   go_upto_region 3 with fail
   refine wp_region_held_drew (S := fun x => Ext w3 x) (by kernel_rfl) (Ext.refl _).drew (fun _ => ?_)
   have E4 := zH (show Ext w3 w3.drew from (Ext.refl _).drew)
   refine mR 0 (bs 9 1) w.heap.size 0 [.bool n.n, .slice n.p n.l n.c, .bool n.m, .slice n.p2 n.l2 n.c2] (fun x hx => (((Fbx0.out.ext (tr E2 E3).out)).ext hx).part 0 4) Tryz.underlying26 E4.out ?_
   (try simp only [Act.put, zA, zB, zC])
   refine mV 1 (bs 9 3) E4.out ?_
   (try simp only [Act.put, zA, zB, zC])
   refine mV 2 (bs 9 7) E4.out ?_
   (try simp only [Act.put, zA, zB, zC])
   refine mV 3 (bs 9 15) E4.out ?_
   (try simp only [Act.put, zA, zB, zC])
   refine mV 4 (bs 9 31) E4.out ?_
   (try simp only [Act.put, zA, zB, zC])
   refine mV 5 (bs 9 63) E4.out ?_
   refine mR 6 (bs 9 127) X 8 [.bool c.n, .slice c.p c.l c.c, .bool c.m, .slice c.p2 c.l2 c.c2] (fun x hx => (((FbX.out.ext (tr E1 (tr E2 E3)).out)).ext hx).part 8 4) Tryz.underlying26 E4.out ?_
   (try simp only [Act.put, zA, zB, zC])
   refine mC 7 (bs 9 255) (xcmp (L := L) (Fn.out.ext (tr E1 (tr E2 (tr E3 E4))).out) ((Fc.out.ext (tr E1 (tr E2 (tr E3 E4))).out).isIn hhi) (by omega)) ?_
   rintro e w5 ⟨rfl, hx⟩
   have E5 : Hid (Ext w3.drew w5) := hx
   clear hx
   refine ⟨_, rfl, (tr E4 E5).out, ?_⟩
   (try simp only [Act.put, zA, zB, zC])
   refine mV 8 (bs 9 511) (tr E4 E5).out ?_
   (try simp only [Act.put, zA, zB, zC])
   refine wpAnyH_done (by kernel_rfl) ?_ _
   go_upto_region 4 with fail
   refine wp_region_held_drew (S := fun x => Own X w5 x) (by kernel_rfl) (Own.of_ext (Ext.refl _).drew) (fun _ => ?_)
   have E6 := zH (show Ext w5 w5.drew from (Ext.refl _).drew)
   refine mV 0 (bs 8 1) (Own.of_ext E6.out) ?_
   (try simp only [Act.put, zA, zB, zC])
   refine mV 1 (bs 8 3) (Own.of_ext E6.out) ?_
   refine mR 2 (bs 8 7) w.heap.size 0 [.bool n.n, .slice n.p n.l n.c, .bool n.m, .slice n.p2 n.l2 n.c2] (fun x hx => (((Fbx0.out.ext (tr E2 (tr E3 (tr E4 E5))).out)).own hx nbx0_bX).part 0 4) Tryz.underlying26 (Own.of_ext E6.out) ?_
   (try simp only [Act.put, zA, zB, zC])
   refine mV 4 (bs 8 23) (Own.of_ext E6.out) ?_
   (try simp only [Act.put, zA, zB, zC])
   refine mV 5 (bs 8 55) (Own.of_ext E6.out) ?_
   (try simp only [Act.put, zA, zB, zC])
   refine mC 3 (bs 8 63) (xnorm (L := L) (Fn.out.ext (tr E1 (tr E2 (tr E3 (tr E4 (tr E5 E6))))).out) (by omega)) ?_
   rintro e w7 ⟨u2, rfl, hc, hx⟩
   have E7 : Hid (Ext w5.drew w7) := hx
   have Fu2 := zH hc
   clear hc
   clear hx
   refine ⟨_, rfl, (Own.of_ext (tr E6 E7).out), ?_⟩
   (try simp only [Act.put, zA, zB, zC])
   refine mV 6 (bs 8 127) (Own.of_ext (tr E6 E7).out) ?_
   (try simp only [Act.put, zA, zB, zC])
   have kb := (FbX.out.ext (tr E1 (tr E2 (tr E3 (tr E4 (tr E5 (tr E6 E7)))))).out)
   have ob : Own X w7 (w7.setCells X 8 (#[.bool u2.n, .slice u2.p u2.l u2.c, .bool u2.m, .slice u2.p2 u2.l2 u2.c2] : Array Value).toList) := Own.setCells_l _ _ (Own.refl _ _)
   have kc := kb.setPart 8 (#[.bool u2.n, .slice u2.p u2.l u2.c, .bool u2.m, .slice u2.p2 u2.l2 u2.c2] : Array Value).toList (by simp)
   refine md_pstore (i := 7) (listed' := (bs 8 255)) (by rfl) (by kernel_rfl) (by rfl) _ _ _ (by rfl) X 8 _ [.bool a.n, .slice a.p a.l a.c, .bool a.m, .slice a.p2 a.l2 a.c2, .bool b.n, .slice b.p b.l b.c, .bool b.m, .slice b.p2 b.l2 b.c2, .bool c.n, .slice c.p c.l c.c, .bool c.m, .slice c.p2 c.l2 c.c2, .bool d.n, .slice d.p d.l d.c, .bool d.m, .slice d.p2 d.l2 d.c2, .bool true] #[.bool u2.n, .slice u2.p u2.l u2.c, .bool u2.m, .slice u2.p2 u2.l2 u2.c2] (by rfl) (by rfl) kb (by simp) (by kernel_rfl) (all_oneCell_toArray (by simp [Value.oneCell'])) (Own.then_ext' (tr E6 E7).out ob) (by kernel_rfl) ?_
   (try simp only [Act.put])
   refine wpAnyH_done (by kernel_rfl) ?_ _
   have kc2 : Blk (w7.setCells X 8 (#[.bool u2.n, .slice u2.p u2.l u2.c, .bool u2.m, .slice u2.p2 u2.l2 u2.c2] : Array Value).toList) X 69 ([.bool a.n, .slice a.p a.l a.c, .bool a.m, .slice a.p2 a.l2 a.c2, .bool b.n, .slice b.p b.l b.c, .bool b.m, .slice b.p2 b.l2 b.c2, .bool u2.n, .slice u2.p u2.l u2.c, .bool u2.m, .slice u2.p2 u2.l2 u2.c2, .bool d.n, .slice d.p d.l d.c, .bool d.m, .slice d.p2 d.l2 d.c2, .bool true] : List Value).toArray := kc
   have tn : Turn X w (w7.setCells X 8 (#[.bool u2.n, .slice u2.p u2.l u2.c, .bool u2.m, .slice u2.p2 u2.l2 u2.c2] : Array Value).toList) := (TT.out.trans (Turn.of_ext (tr E1 (tr E2 (tr E3 (tr E4 (tr E5 (tr E6 E7)))))).out)).trans ⟨ob, fun r q h => h.own kb (noU_of _ (by simp)) ob⟩
   have ib := (Fb.out.ext (tr E1 (tr E2 (tr E3 (tr E4 (tr E5 (tr E6 E7)))))).out).own kb (noU_of _ (by simp)) ob
   have id := (Fd.out.ext (tr E1 (tr E2 (tr E3 (tr E4 (tr E5 (tr E6 E7)))))).out).own kb (noU_of _ (by simp)) ob
   have ia := (Fa.out.ext (tr E1 (tr E2 (tr E3 (tr E4 (tr E5 (tr E6 E7)))))).out).own kb (noU_of _ (by simp)) ob
   have iu2 := Fu2.out.own kb (noU_of _ (by simp)) ob
   have in_ := (Fn.out.ext (tr E1 (tr E2 (tr E3 (tr E4 (tr E5 (tr E6 E7)))))).out).own kb (noU_of _ (by simp)) ob
   have ib0 := (Fbx0.out.ext (tr E2 (tr E3 (tr E4 (tr E5 (tr E6 E7))))).out).own ob nbx0_bX
   clear kc kb ob
   generalize (w7.setCells X 8 (#[.bool u2.n, .slice u2.p u2.l u2.c, .bool u2.m, .slice u2.p2 u2.l2 u2.c2] : Array Value).toList) = wz4 at *
   have TT := zH tn
   clear tn
   have Fb := zH ib
   have Fd := zH id
   have Fa := zH ia
   have Fu2 := zH iu2
   have Fn := zH in_
   have Fbx0 := zH ib0
   have FbX := zH kc2
   clear kc2 in_ ib0 ib id ia iu2
   go_wp2_with fail
   first | refine bodyPost_end (v := .tuple #[]) (results_none rfl _ _ _) rfl ?_ | refine bodyPost_ret (v := .tuple #[]) (results_none rfl _ _ _) rfl ?_
   rw [lower_f (by omega), upper_t (by omega)]
   exact ⟨rfl, ⟨a, b, u2, d, FbX.out, Fa.out, Fb.out, Fu2.out, Fd.out⟩, TT.out.trans (Turn.of_ext (Ext.refl _))⟩
  ·refine wp_region_held_drew (S := fun x => Ext wa x) (by kernel_rfl) (Ext.refl _).drew (fun _ => ?_)
   have E2 := zH (show Ext wa wa.drew from (Ext.refl _).drew)
   refine mR 0 (bs 9 1) w.heap.size 0 [.bool n.n, .slice n.p n.l n.c, .bool n.m, .slice n.p2 n.l2 n.c2] (fun x hx => ((Fbx0.out).ext hx).part 0 4) Tryz.underlying26 E2.out ?_
   (try simp only [Act.put, zA, zB, zC])
   refine mV 1 (bs 9 3) E2.out ?_
   (try simp only [Act.put, zA, zB, zC])
   refine mV 2 (bs 9 7) E2.out ?_
   (try simp only [Act.put, zA, zB, zC])
   refine mV 3 (bs 9 15) E2.out ?_
   (try simp only [Act.put, zA, zB, zC])
   refine mV 4 (bs 9 31) E2.out ?_
   (try simp only [Act.put, zA, zB, zC])
   refine mV 5 (bs 9 63) E2.out ?_
   refine mR 6 (bs 9 127) X 0 [.bool a.n, .slice a.p a.l a.c, .bool a.m, .slice a.p2 a.l2 a.c2] (fun x hx => (((FbX.out.ext E1.out)).ext hx).part 0 4) Tryz.underlying26 E2.out ?_
   (try simp only [Act.put, zA, zB, zC])
   refine mC 7 (bs 9 255) (xcmp (L := L) (Fn.out.ext (tr E1 E2).out) ((Fa.out.ext (tr E1 E2).out).isIn hlo) (by omega)) ?_
   rintro e w3 ⟨rfl, hx⟩
   have E3 : Hid (Ext wa.drew w3) := hx
   clear hx
   refine ⟨_, rfl, (tr E2 E3).out, ?_⟩
   (try simp only [Act.put, zA, zB, zC])
   refine mV 8 (bs 9 511) (tr E2 E3).out ?_
   (try simp only [Act.put, zA, zB, zC])
   refine wpAnyH_done (by kernel_rfl) ?_ _
   go_upto_region 3 with fail
   refine wp_region_held_drew (S := fun x => Ext w3 x) (by kernel_rfl) (Ext.refl _).drew (fun _ => ?_)
   have E4 := zH (show Ext w3 w3.drew from (Ext.refl _).drew)
   refine mR 0 (bs 9 1) w.heap.size 0 [.bool n.n, .slice n.p n.l n.c, .bool n.m, .slice n.p2 n.l2 n.c2] (fun x hx => (((Fbx0.out.ext (tr E2 E3).out)).ext hx).part 0 4) Tryz.underlying26 E4.out ?_
   (try simp only [Act.put, zA, zB, zC])
   refine mV 1 (bs 9 3) E4.out ?_
   (try simp only [Act.put, zA, zB, zC])
   refine mV 2 (bs 9 7) E4.out ?_
   (try simp only [Act.put, zA, zB, zC])
   refine mV 3 (bs 9 15) E4.out ?_
   (try simp only [Act.put, zA, zB, zC])
   refine mV 4 (bs 9 31) E4.out ?_
   (try simp only [Act.put, zA, zB, zC])
   refine mV 5 (bs 9 63) E4.out ?_
   refine mR 6 (bs 9 127) X 8 [.bool c.n, .slice c.p c.l c.c, .bool c.m, .slice c.p2 c.l2 c.c2] (fun x hx => (((FbX.out.ext (tr E1 (tr E2 E3)).out)).ext hx).part 8 4) Tryz.underlying26 E4.out ?_
   (try simp only [Act.put, zA, zB, zC])
   refine mC 7 (bs 9 255) (xcmp (L := L) (Fn.out.ext (tr E1 (tr E2 (tr E3 E4))).out) ((Fc.out.ext (tr E1 (tr E2 (tr E3 E4))).out).isIn hhi) (by omega)) ?_
   rintro e w5 ⟨rfl, hx⟩
   have E5 : Hid (Ext w3.drew w5) := hx
   clear hx
   refine ⟨_, rfl, (tr E4 E5).out, ?_⟩
   (try simp only [Act.put, zA, zB, zC])
   refine mV 8 (bs 9 511) (tr E4 E5).out ?_
   (try simp only [Act.put, zA, zB, zC])
   refine wpAnyH_done (by kernel_rfl) ?_ _
   go_wp2_with fail
   first | refine bodyPost_end (v := .tuple #[]) (results_none rfl _ _ _) rfl ?_ | refine bodyPost_ret (v := .tuple #[]) (results_none rfl _ _ _) rfl ?_
   rw [lower_f (by omega), upper_f (by omega)]
   exact ⟨rfl, ⟨a, b, c, d, (FbX.out.ext (tr E1 (tr E2 (tr E3 (tr E4 E5)))).out), (Fa.out.ext (tr E1 (tr E2 (tr E3 (tr E4 E5)))).out), (Fb.out.ext (tr E1 (tr E2 (tr E3 (tr E4 E5)))).out), (Fc.out.ext (tr E1 (tr E2 (tr E3 (tr E4 E5)))).out), (Fd.out.ext (tr E1 (tr E2 (tr E3 (tr E4 E5)))).out)⟩, TT.out.trans (Turn.of_ext (tr E1 (tr E2 (tr E3 (tr E4 E5)))).out)⟩
set_option maxRecDepth 20000 in
set_option maxHeartbeats 8000000 in
theorem add1_any (L X : Nat) (n : RV) (lx ly hx hy q : Rat) (w : World) (hb : BoxAt w X lx ly hx hy) (hn : n.In L w q) (hlo : Nm.rl ly ≤ L) (hhi : Nm.rl hy ≤ L) (hL : L ≤ 60000) :
  Calls Tryz.prog 47 #[.pointer (some ⟨X, 0, none⟩), .int .i64 1, .agg #[.bool n.n, .slice n.p n.l n.c, .bool n.m, .slice n.p2 n.l2 n.c2]] w fun e w' => e = .returned (.tuple #[]) ∧ BoxAt w' X lx (lower q ly) hx (upper q hy) ∧ Turn X w w' := by
 obtain ⟨a, b, c, d, hX, ha, hb, hc, hd⟩ := hb
 have Fa := zH ha
 have Fb := zH hb
 have Fc := zH hc
 have Fd := zH hd
 have Fn := zH hn
 have FbX := zH hX
 have hlt := Blk.lt hX
 clear ha hb hc hd hn hX
 go_enter Tryz.func47, Tryz.ntmps47
 go_upto_region 1 with fail
 have hbx0 : Blk (w.alloc (.cells #[.bool n.n, .slice n.p n.l n.c, .bool n.m, .slice n.p2 n.l2 n.c2] 26)) (w.heap.size) 26 #[.bool n.n, .slice n.p n.l n.c, .bool n.m, .slice n.p2 n.l2 n.c2] := Blk.ext (Blk.new_at w _ (by simp) _ _) (Ext.refl _)
 have hE : Ext w (w.alloc (.cells #[.bool n.n, .slice n.p n.l n.c, .bool n.m, .slice n.p2 n.l2 n.c2] 26)) := ((Ext.refl _).alloc _)
 generalize (w.alloc (.cells #[.bool n.n, .slice n.p n.l n.c, .bool n.m, .slice n.p2 n.l2 n.c2] 26)) = wa at *
 have E1 : Hid (Ext w wa) := hE
 have Fbx0 := zH hbx0
 clear hE hbx0
 have nbx0_bX : w.heap.size ≠ X := by omega
 have TT := zH (Turn.of_ext (X := X) (Ext.refl w))
 by_cases hlt1 : rcmp q ly < 0
 ·by_cases hgt1 : 0 < rcmp q hy
  ·refine wp_region_held_drew (S := fun x => Ext wa x) (by kernel_rfl) (Ext.refl _).drew (fun _ => ?_)
   have E2 := zH (show Ext wa wa.drew from (Ext.refl _).drew)
   refine mR 0 (bs 9 1) w.heap.size 0 [.bool n.n, .slice n.p n.l n.c, .bool n.m, .slice n.p2 n.l2 n.c2] (fun x hx => ((Fbx0.out).ext hx).part 0 4) Tryz.underlying26 E2.out ?_
   (try simp only [Act.put, zA, zB, zC])
   refine mV 1 (bs 9 3) E2.out ?_
   (try simp only [Act.put, zA, zB, zC])
   refine mV 2 (bs 9 7) E2.out ?_
   (try simp only [Act.put, zA, zB, zC])
   refine mV 3 (bs 9 15) E2.out ?_
   (try simp only [Act.put, zA, zB, zC])
   refine mV 4 (bs 9 31) E2.out ?_
   (try simp only [Act.put, zA, zB, zC])
   refine mV 5 (bs 9 63) E2.out ?_
   refine mR 6 (bs 9 127) X 4 [.bool b.n, .slice b.p b.l b.c, .bool b.m, .slice b.p2 b.l2 b.c2] (fun x hx => (((FbX.out.ext E1.out)).ext hx).part 4 4) Tryz.underlying26 E2.out ?_
   (try simp only [Act.put, zA, zB, zC])
   refine mC 7 (bs 9 255) (xcmp (L := L) (Fn.out.ext (tr E1 E2).out) ((Fb.out.ext (tr E1 E2).out).isIn hlo) (by omega)) ?_
   rintro e w3 ⟨rfl, hx⟩
   have E3 : Hid (Ext wa.drew w3) := hx
   clear hx
   refine ⟨_, rfl, (tr E2 E3).out, ?_⟩
   (try simp only [Act.put, zA, zB, zC])
   refine mV 8 (bs 9 511) (tr E2 E3).out ?_
   (try simp only [Act.put, zA, zB, zC])
   refine wpAnyH_done (by kernel_rfl) ?_ _
   go_upto_region 2 with fail
   refine wp_region_held_drew (S := fun x => Own X w3 x) (by kernel_rfl) (Own.of_ext (Ext.refl _).drew) (fun _ => ?_)
   have E4 := zH (show Ext w3 w3.drew from (Ext.refl _).drew)
   refine mV 0 (bs 8 1) (Own.of_ext E4.out) ?_
   (try simp only [Act.put, zA, zB, zC])
   refine mV 1 (bs 8 3) (Own.of_ext E4.out) ?_
   refine mR 2 (bs 8 7) w.heap.size 0 [.bool n.n, .slice n.p n.l n.c, .bool n.m, .slice n.p2 n.l2 n.c2] (fun x hx => (((Fbx0.out.ext (tr E2 E3).out)).own hx nbx0_bX).part 0 4) Tryz.underlying26 (Own.of_ext E4.out) ?_
   (try simp only [Act.put, zA, zB, zC])
   refine mV 4 (bs 8 23) (Own.of_ext E4.out) ?_
   (try simp only [Act.put, zA, zB, zC])
   refine mV 5 (bs 8 55) (Own.of_ext E4.out) ?_
   (try simp only [Act.put, zA, zB, zC])
   refine mC 3 (bs 8 63) (xnorm (L := L) (Fn.out.ext (tr E1 (tr E2 (tr E3 E4))).out) (by omega)) ?_
   rintro e w5 ⟨u1, rfl, hc, hx⟩
   have E5 : Hid (Ext w3.drew w5) := hx
   have Fu1 := zH hc
   clear hc
   clear hx
   refine ⟨_, rfl, (Own.of_ext (tr E4 E5).out), ?_⟩
   (try simp only [Act.put, zA, zB, zC])
   refine mV 6 (bs 8 127) (Own.of_ext (tr E4 E5).out) ?_
   (try simp only [Act.put, zA, zB, zC])
   have kb := (FbX.out.ext (tr E1 (tr E2 (tr E3 (tr E4 E5)))).out)
   have ob : Own X w5 (w5.setCells X 4 (#[.bool u1.n, .slice u1.p u1.l u1.c, .bool u1.m, .slice u1.p2 u1.l2 u1.c2] : Array Value).toList) := Own.setCells_l _ _ (Own.refl _ _)
   have kc := kb.setPart 4 (#[.bool u1.n, .slice u1.p u1.l u1.c, .bool u1.m, .slice u1.p2 u1.l2 u1.c2] : Array Value).toList (by simp)
   refine md_pstore (i := 7) (listed' := (bs 8 255)) (by rfl) (by kernel_rfl) (by rfl) _ _ _ (by rfl) X 4 _ [.bool a.n, .slice a.p a.l a.c, .bool a.m, .slice a.p2 a.l2 a.c2, .bool b.n, .slice b.p b.l b.c, .bool b.m, .slice b.p2 b.l2 b.c2, .bool c.n, .slice c.p c.l c.c, .bool c.m, .slice c.p2 c.l2 c.c2, .bool d.n, .slice d.p d.l d.c, .bool d.m, .slice d.p2 d.l2 d.c2, .bool true] #[.bool u1.n, .slice u1.p u1.l u1.c, .bool u1.m, .slice u1.p2 u1.l2 u1.c2] (by rfl) (by rfl) kb (by simp) (by kernel_rfl) (all_oneCell_toArray (by simp [Value.oneCell'])) (Own.then_ext' (tr E4 E5).out ob) (by kernel_rfl) ?_
   (try simp only [Act.put])
   refine wpAnyH_done (by kernel_rfl) ?_ _
   have kc2 : Blk (w5.setCells X 4 (#[.bool u1.n, .slice u1.p u1.l u1.c, .bool u1.m, .slice u1.p2 u1.l2 u1.c2] : Array Value).toList) X 69 ([.bool a.n, .slice a.p a.l a.c, .bool a.m, .slice a.p2 a.l2 a.c2, .bool u1.n, .slice u1.p u1.l u1.c, .bool u1.m, .slice u1.p2 u1.l2 u1.c2, .bool c.n, .slice c.p c.l c.c, .bool c.m, .slice c.p2 c.l2 c.c2, .bool d.n, .slice d.p d.l d.c, .bool d.m, .slice d.p2 d.l2 d.c2, .bool true] : List Value).toArray := kc
   have tn : Turn X w (w5.setCells X 4 (#[.bool u1.n, .slice u1.p u1.l u1.c, .bool u1.m, .slice u1.p2 u1.l2 u1.c2] : Array Value).toList) := (TT.out.trans (Turn.of_ext (tr E1 (tr E2 (tr E3 (tr E4 E5)))).out)).trans ⟨ob, fun r q h => h.own kb (noU_of _ (by simp)) ob⟩
   have id := (Fd.out.ext (tr E1 (tr E2 (tr E3 (tr E4 E5)))).out).own kb (noU_of _ (by simp)) ob
   have iu1 := Fu1.out.own kb (noU_of _ (by simp)) ob
   have ia := (Fa.out.ext (tr E1 (tr E2 (tr E3 (tr E4 E5)))).out).own kb (noU_of _ (by simp)) ob
   have ic := (Fc.out.ext (tr E1 (tr E2 (tr E3 (tr E4 E5)))).out).own kb (noU_of _ (by simp)) ob
   have in_ := (Fn.out.ext (tr E1 (tr E2 (tr E3 (tr E4 E5)))).out).own kb (noU_of _ (by simp)) ob
   have ib0 := (Fbx0.out.ext (tr E2 (tr E3 (tr E4 E5))).out).own ob nbx0_bX
   clear kc kb ob
   generalize (w5.setCells X 4 (#[.bool u1.n, .slice u1.p u1.l u1.c, .bool u1.m, .slice u1.p2 u1.l2 u1.c2] : Array Value).toList) = wz2 at *
   have TT := zH tn
   clear tn
   have Fd := zH id
   have Fu1 := zH iu1
   have Fa := zH ia
   have Fc := zH ic
   have Fn := zH in_
   have Fbx0 := zH ib0
   have FbX := zH kc2
   clear kc2 in_ ib0 id iu1 ia ic
   go_upto_region 3 with fail
   refine wp_region_held_drew (S := fun x => Ext wz2 x) (by kernel_rfl) (Ext.refl _).drew (fun _ => ?_)
   have E1 := zH (show Ext wz2 wz2.drew from (Ext.refl _).drew)
   refine mR 0 (bs 9 1) w.heap.size 0 [.bool n.n, .slice n.p n.l n.c, .bool n.m, .slice n.p2 n.l2 n.c2] (fun x hx => ((Fbx0.out).ext hx).part 0 4) Tryz.underlying26 E1.out ?_
   (try simp only [Act.put, zA, zB, zC])
   refine mV 1 (bs 9 3) E1.out ?_
   (try simp only [Act.put, zA, zB, zC])
   refine mV 2 (bs 9 7) E1.out ?_
   (try simp only [Act.put, zA, zB, zC])
   refine mV 3 (bs 9 15) E1.out ?_
   (try simp only [Act.put, zA, zB, zC])
   refine mV 4 (bs 9 31) E1.out ?_
   (try simp only [Act.put, zA, zB, zC])
   refine mV 5 (bs 9 63) E1.out ?_
   refine mR 6 (bs 9 127) X 12 [.bool d.n, .slice d.p d.l d.c, .bool d.m, .slice d.p2 d.l2 d.c2] (fun x hx => ((FbX.out).ext hx).part 12 4) Tryz.underlying26 E1.out ?_
   (try simp only [Act.put, zA, zB, zC])
   refine mC 7 (bs 9 255) (xcmp (L := L) (Fn.out.ext E1.out) ((Fd.out.ext E1.out).isIn hhi) (by omega)) ?_
   rintro e w2 ⟨rfl, hx⟩
   have E2 : Hid (Ext wz2.drew w2) := hx
   clear hx
   refine ⟨_, rfl, (tr E1 E2).out, ?_⟩
   (try simp only [Act.put, zA, zB, zC])
   refine mV 8 (bs 9 511) (tr E1 E2).out ?_
   (try simp only [Act.put, zA, zB, zC])
   refine wpAnyH_done (by kernel_rfl) ?_ _
   go_upto_region 4 with fail
   refine wp_region_held_drew (S := fun x => Own X w2 x) (by kernel_rfl) (Own.of_ext (Ext.refl _).drew) (fun _ => ?_)
   have E3 := zH (show Ext w2 w2.drew from (Ext.refl _).drew)
   refine mV 0 (bs 8 1) (Own.of_ext E3.out) ?_
   (try simp only [Act.put, zA, zB, zC])
   refine mV 1 (bs 8 3) (Own.of_ext E3.out) ?_
   refine mR 2 (bs 8 7) w.heap.size 0 [.bool n.n, .slice n.p n.l n.c, .bool n.m, .slice n.p2 n.l2 n.c2] (fun x hx => (((Fbx0.out.ext (tr E1 E2).out)).own hx nbx0_bX).part 0 4) Tryz.underlying26 (Own.of_ext E3.out) ?_
   (try simp only [Act.put, zA, zB, zC])
   refine mV 4 (bs 8 23) (Own.of_ext E3.out) ?_
   (try simp only [Act.put, zA, zB, zC])
   refine mV 5 (bs 8 55) (Own.of_ext E3.out) ?_
   (try simp only [Act.put, zA, zB, zC])
   refine mC 3 (bs 8 63) (xnorm (L := L) (Fn.out.ext (tr E1 (tr E2 E3)).out) (by omega)) ?_
   rintro e w4 ⟨u2, rfl, hc, hx⟩
   have E4 : Hid (Ext w2.drew w4) := hx
   have Fu2 := zH hc
   clear hc
   clear hx
   refine ⟨_, rfl, (Own.of_ext (tr E3 E4).out), ?_⟩
   (try simp only [Act.put, zA, zB, zC])
   refine mV 6 (bs 8 127) (Own.of_ext (tr E3 E4).out) ?_
   (try simp only [Act.put, zA, zB, zC])
   have kb := (FbX.out.ext (tr E1 (tr E2 (tr E3 E4))).out)
   have ob : Own X w4 (w4.setCells X 12 (#[.bool u2.n, .slice u2.p u2.l u2.c, .bool u2.m, .slice u2.p2 u2.l2 u2.c2] : Array Value).toList) := Own.setCells_l _ _ (Own.refl _ _)
   have kc := kb.setPart 12 (#[.bool u2.n, .slice u2.p u2.l u2.c, .bool u2.m, .slice u2.p2 u2.l2 u2.c2] : Array Value).toList (by simp)
   refine md_pstore (i := 7) (listed' := (bs 8 255)) (by rfl) (by kernel_rfl) (by rfl) _ _ _ (by rfl) X 12 _ [.bool a.n, .slice a.p a.l a.c, .bool a.m, .slice a.p2 a.l2 a.c2, .bool u1.n, .slice u1.p u1.l u1.c, .bool u1.m, .slice u1.p2 u1.l2 u1.c2, .bool c.n, .slice c.p c.l c.c, .bool c.m, .slice c.p2 c.l2 c.c2, .bool d.n, .slice d.p d.l d.c, .bool d.m, .slice d.p2 d.l2 d.c2, .bool true] #[.bool u2.n, .slice u2.p u2.l u2.c, .bool u2.m, .slice u2.p2 u2.l2 u2.c2] (by rfl) (by rfl) kb (by simp) (by kernel_rfl) (all_oneCell_toArray (by simp [Value.oneCell'])) (Own.then_ext' (tr E3 E4).out ob) (by kernel_rfl) ?_
   (try simp only [Act.put])
   refine wpAnyH_done (by kernel_rfl) ?_ _
   have kc2 : Blk (w4.setCells X 12 (#[.bool u2.n, .slice u2.p u2.l u2.c, .bool u2.m, .slice u2.p2 u2.l2 u2.c2] : Array Value).toList) X 69 ([.bool a.n, .slice a.p a.l a.c, .bool a.m, .slice a.p2 a.l2 a.c2, .bool u1.n, .slice u1.p u1.l u1.c, .bool u1.m, .slice u1.p2 u1.l2 u1.c2, .bool c.n, .slice c.p c.l c.c, .bool c.m, .slice c.p2 c.l2 c.c2, .bool u2.n, .slice u2.p u2.l u2.c, .bool u2.m, .slice u2.p2 u2.l2 u2.c2, .bool true] : List Value).toArray := kc
   have tn : Turn X w (w4.setCells X 12 (#[.bool u2.n, .slice u2.p u2.l u2.c, .bool u2.m, .slice u2.p2 u2.l2 u2.c2] : Array Value).toList) := (TT.out.trans (Turn.of_ext (tr E1 (tr E2 (tr E3 E4))).out)).trans ⟨ob, fun r q h => h.own kb (noU_of _ (by simp)) ob⟩
   have iu2 := Fu2.out.own kb (noU_of _ (by simp)) ob
   have iu1 := (Fu1.out.ext (tr E1 (tr E2 (tr E3 E4))).out).own kb (noU_of _ (by simp)) ob
   have ia := (Fa.out.ext (tr E1 (tr E2 (tr E3 E4))).out).own kb (noU_of _ (by simp)) ob
   have ic := (Fc.out.ext (tr E1 (tr E2 (tr E3 E4))).out).own kb (noU_of _ (by simp)) ob
   have in_ := (Fn.out.ext (tr E1 (tr E2 (tr E3 E4))).out).own kb (noU_of _ (by simp)) ob
   have ib0 := (Fbx0.out.ext (tr E1 (tr E2 (tr E3 E4))).out).own ob nbx0_bX
   clear kc kb ob
   generalize (w4.setCells X 12 (#[.bool u2.n, .slice u2.p u2.l u2.c, .bool u2.m, .slice u2.p2 u2.l2 u2.c2] : Array Value).toList) = wz4 at *
   have TT := zH tn
   clear tn
   have Fu2 := zH iu2
   have Fu1 := zH iu1
   have Fa := zH ia
   have Fc := zH ic
   have Fn := zH in_
   have Fbx0 := zH ib0
   have FbX := zH kc2
   clear kc2 in_ ib0 iu2 iu1 ia ic
   go_wp2_with fail
   first | refine bodyPost_end (v := .tuple #[]) (results_none rfl _ _ _) rfl ?_ | refine bodyPost_ret (v := .tuple #[]) (results_none rfl _ _ _) rfl ?_
   rw [lower_t (by omega), upper_t (by omega)]
   exact ⟨rfl, ⟨a, u1, c, u2, FbX.out, Fa.out, Fu1.out, Fc.out, Fu2.out⟩, TT.out.trans (Turn.of_ext (Ext.refl _))⟩
  ·refine wp_region_held_drew (S := fun x => Ext wa x) (by kernel_rfl) (Ext.refl _).drew (fun _ => ?_)
   have E2 := zH (show Ext wa wa.drew from (Ext.refl _).drew)
   refine mR 0 (bs 9 1) w.heap.size 0 [.bool n.n, .slice n.p n.l n.c, .bool n.m, .slice n.p2 n.l2 n.c2] (fun x hx => ((Fbx0.out).ext hx).part 0 4) Tryz.underlying26 E2.out ?_
   (try simp only [Act.put, zA, zB, zC])
   refine mV 1 (bs 9 3) E2.out ?_
   (try simp only [Act.put, zA, zB, zC])
   refine mV 2 (bs 9 7) E2.out ?_
   (try simp only [Act.put, zA, zB, zC])
   refine mV 3 (bs 9 15) E2.out ?_
   (try simp only [Act.put, zA, zB, zC])
   refine mV 4 (bs 9 31) E2.out ?_
   (try simp only [Act.put, zA, zB, zC])
   refine mV 5 (bs 9 63) E2.out ?_
   refine mR 6 (bs 9 127) X 4 [.bool b.n, .slice b.p b.l b.c, .bool b.m, .slice b.p2 b.l2 b.c2] (fun x hx => (((FbX.out.ext E1.out)).ext hx).part 4 4) Tryz.underlying26 E2.out ?_
   (try simp only [Act.put, zA, zB, zC])
   refine mC 7 (bs 9 255) (xcmp (L := L) (Fn.out.ext (tr E1 E2).out) ((Fb.out.ext (tr E1 E2).out).isIn hlo) (by omega)) ?_
   rintro e w3 ⟨rfl, hx⟩
   have E3 : Hid (Ext wa.drew w3) := hx
   clear hx
   refine ⟨_, rfl, (tr E2 E3).out, ?_⟩
   (try simp only [Act.put, zA, zB, zC])
   refine mV 8 (bs 9 511) (tr E2 E3).out ?_
   (try simp only [Act.put, zA, zB, zC])
   refine wpAnyH_done (by kernel_rfl) ?_ _
   go_upto_region 2 with fail
   refine wp_region_held_drew (S := fun x => Own X w3 x) (by kernel_rfl) (Own.of_ext (Ext.refl _).drew) (fun _ => ?_)
   have E4 := zH (show Ext w3 w3.drew from (Ext.refl _).drew)
   refine mV 0 (bs 8 1) (Own.of_ext E4.out) ?_
   (try simp only [Act.put, zA, zB, zC])
   refine mV 1 (bs 8 3) (Own.of_ext E4.out) ?_
   refine mR 2 (bs 8 7) w.heap.size 0 [.bool n.n, .slice n.p n.l n.c, .bool n.m, .slice n.p2 n.l2 n.c2] (fun x hx => (((Fbx0.out.ext (tr E2 E3).out)).own hx nbx0_bX).part 0 4) Tryz.underlying26 (Own.of_ext E4.out) ?_
   (try simp only [Act.put, zA, zB, zC])
   refine mV 4 (bs 8 23) (Own.of_ext E4.out) ?_
   (try simp only [Act.put, zA, zB, zC])
   refine mV 5 (bs 8 55) (Own.of_ext E4.out) ?_
   (try simp only [Act.put, zA, zB, zC])
   refine mC 3 (bs 8 63) (xnorm (L := L) (Fn.out.ext (tr E1 (tr E2 (tr E3 E4))).out) (by omega)) ?_
   rintro e w5 ⟨u1, rfl, hc, hx⟩
   have E5 : Hid (Ext w3.drew w5) := hx
   have Fu1 := zH hc
   clear hc
   clear hx
   refine ⟨_, rfl, (Own.of_ext (tr E4 E5).out), ?_⟩
   (try simp only [Act.put, zA, zB, zC])
   refine mV 6 (bs 8 127) (Own.of_ext (tr E4 E5).out) ?_
   (try simp only [Act.put, zA, zB, zC])
   have kb := (FbX.out.ext (tr E1 (tr E2 (tr E3 (tr E4 E5)))).out)
   have ob : Own X w5 (w5.setCells X 4 (#[.bool u1.n, .slice u1.p u1.l u1.c, .bool u1.m, .slice u1.p2 u1.l2 u1.c2] : Array Value).toList) := Own.setCells_l _ _ (Own.refl _ _)
   have kc := kb.setPart 4 (#[.bool u1.n, .slice u1.p u1.l u1.c, .bool u1.m, .slice u1.p2 u1.l2 u1.c2] : Array Value).toList (by simp)
   refine md_pstore (i := 7) (listed' := (bs 8 255)) (by rfl) (by kernel_rfl) (by rfl) _ _ _ (by rfl) X 4 _ [.bool a.n, .slice a.p a.l a.c, .bool a.m, .slice a.p2 a.l2 a.c2, .bool b.n, .slice b.p b.l b.c, .bool b.m, .slice b.p2 b.l2 b.c2, .bool c.n, .slice c.p c.l c.c, .bool c.m, .slice c.p2 c.l2 c.c2, .bool d.n, .slice d.p d.l d.c, .bool d.m, .slice d.p2 d.l2 d.c2, .bool true] #[.bool u1.n, .slice u1.p u1.l u1.c, .bool u1.m, .slice u1.p2 u1.l2 u1.c2] (by rfl) (by rfl) kb (by simp) (by kernel_rfl) (all_oneCell_toArray (by simp [Value.oneCell'])) (Own.then_ext' (tr E4 E5).out ob) (by kernel_rfl) ?_
   (try simp only [Act.put])
   refine wpAnyH_done (by kernel_rfl) ?_ _
   have kc2 : Blk (w5.setCells X 4 (#[.bool u1.n, .slice u1.p u1.l u1.c, .bool u1.m, .slice u1.p2 u1.l2 u1.c2] : Array Value).toList) X 69 ([.bool a.n, .slice a.p a.l a.c, .bool a.m, .slice a.p2 a.l2 a.c2, .bool u1.n, .slice u1.p u1.l u1.c, .bool u1.m, .slice u1.p2 u1.l2 u1.c2, .bool c.n, .slice c.p c.l c.c, .bool c.m, .slice c.p2 c.l2 c.c2, .bool d.n, .slice d.p d.l d.c, .bool d.m, .slice d.p2 d.l2 d.c2, .bool true] : List Value).toArray := kc
   have tn : Turn X w (w5.setCells X 4 (#[.bool u1.n, .slice u1.p u1.l u1.c, .bool u1.m, .slice u1.p2 u1.l2 u1.c2] : Array Value).toList) := (TT.out.trans (Turn.of_ext (tr E1 (tr E2 (tr E3 (tr E4 E5)))).out)).trans ⟨ob, fun r q h => h.own kb (noU_of _ (by simp)) ob⟩
   have id := (Fd.out.ext (tr E1 (tr E2 (tr E3 (tr E4 E5)))).out).own kb (noU_of _ (by simp)) ob
   have iu1 := Fu1.out.own kb (noU_of _ (by simp)) ob
   have ia := (Fa.out.ext (tr E1 (tr E2 (tr E3 (tr E4 E5)))).out).own kb (noU_of _ (by simp)) ob
   have ic := (Fc.out.ext (tr E1 (tr E2 (tr E3 (tr E4 E5)))).out).own kb (noU_of _ (by simp)) ob
   have in_ := (Fn.out.ext (tr E1 (tr E2 (tr E3 (tr E4 E5)))).out).own kb (noU_of _ (by simp)) ob
   have ib0 := (Fbx0.out.ext (tr E2 (tr E3 (tr E4 E5))).out).own ob nbx0_bX
   clear kc kb ob
   generalize (w5.setCells X 4 (#[.bool u1.n, .slice u1.p u1.l u1.c, .bool u1.m, .slice u1.p2 u1.l2 u1.c2] : Array Value).toList) = wz2 at *
   have TT := zH tn
   clear tn
   have Fd := zH id
   have Fu1 := zH iu1
   have Fa := zH ia
   have Fc := zH ic
   have Fn := zH in_
   have Fbx0 := zH ib0
   have FbX := zH kc2
   clear kc2 in_ ib0 id iu1 ia ic
   go_upto_region 3 with fail
   refine wp_region_held_drew (S := fun x => Ext wz2 x) (by kernel_rfl) (Ext.refl _).drew (fun _ => ?_)
   have E1 := zH (show Ext wz2 wz2.drew from (Ext.refl _).drew)
   refine mR 0 (bs 9 1) w.heap.size 0 [.bool n.n, .slice n.p n.l n.c, .bool n.m, .slice n.p2 n.l2 n.c2] (fun x hx => ((Fbx0.out).ext hx).part 0 4) Tryz.underlying26 E1.out ?_
   (try simp only [Act.put, zA, zB, zC])
   refine mV 1 (bs 9 3) E1.out ?_
   (try simp only [Act.put, zA, zB, zC])
   refine mV 2 (bs 9 7) E1.out ?_
   (try simp only [Act.put, zA, zB, zC])
   refine mV 3 (bs 9 15) E1.out ?_
   (try simp only [Act.put, zA, zB, zC])
   refine mV 4 (bs 9 31) E1.out ?_
   (try simp only [Act.put, zA, zB, zC])
   refine mV 5 (bs 9 63) E1.out ?_
   refine mR 6 (bs 9 127) X 12 [.bool d.n, .slice d.p d.l d.c, .bool d.m, .slice d.p2 d.l2 d.c2] (fun x hx => ((FbX.out).ext hx).part 12 4) Tryz.underlying26 E1.out ?_
   (try simp only [Act.put, zA, zB, zC])
   refine mC 7 (bs 9 255) (xcmp (L := L) (Fn.out.ext E1.out) ((Fd.out.ext E1.out).isIn hhi) (by omega)) ?_
   rintro e w2 ⟨rfl, hx⟩
   have E2 : Hid (Ext wz2.drew w2) := hx
   clear hx
   refine ⟨_, rfl, (tr E1 E2).out, ?_⟩
   (try simp only [Act.put, zA, zB, zC])
   refine mV 8 (bs 9 511) (tr E1 E2).out ?_
   (try simp only [Act.put, zA, zB, zC])
   refine wpAnyH_done (by kernel_rfl) ?_ _
   go_wp2_with fail
   first | refine bodyPost_end (v := .tuple #[]) (results_none rfl _ _ _) rfl ?_ | refine bodyPost_ret (v := .tuple #[]) (results_none rfl _ _ _) rfl ?_
   rw [lower_t (by omega), upper_f (by omega)]
   exact ⟨rfl, ⟨a, u1, c, d, (FbX.out.ext (tr E1 E2).out), (Fa.out.ext (tr E1 E2).out), (Fu1.out.ext (tr E1 E2).out), (Fc.out.ext (tr E1 E2).out), (Fd.out.ext (tr E1 E2).out)⟩, TT.out.trans (Turn.of_ext (tr E1 E2).out)⟩
 ·by_cases hgt1 : 0 < rcmp q hy
  ·refine wp_region_held_drew (S := fun x => Ext wa x) (by kernel_rfl) (Ext.refl _).drew (fun _ => ?_)
   have E2 := zH (show Ext wa wa.drew from (Ext.refl _).drew)
   refine mR 0 (bs 9 1) w.heap.size 0 [.bool n.n, .slice n.p n.l n.c, .bool n.m, .slice n.p2 n.l2 n.c2] (fun x hx => ((Fbx0.out).ext hx).part 0 4) Tryz.underlying26 E2.out ?_
   (try simp only [Act.put, zA, zB, zC])
   refine mV 1 (bs 9 3) E2.out ?_
   (try simp only [Act.put, zA, zB, zC])
   refine mV 2 (bs 9 7) E2.out ?_
   (try simp only [Act.put, zA, zB, zC])
   refine mV 3 (bs 9 15) E2.out ?_
   (try simp only [Act.put, zA, zB, zC])
   refine mV 4 (bs 9 31) E2.out ?_
   (try simp only [Act.put, zA, zB, zC])
   refine mV 5 (bs 9 63) E2.out ?_
   refine mR 6 (bs 9 127) X 4 [.bool b.n, .slice b.p b.l b.c, .bool b.m, .slice b.p2 b.l2 b.c2] (fun x hx => (((FbX.out.ext E1.out)).ext hx).part 4 4) Tryz.underlying26 E2.out ?_
   (try simp only [Act.put, zA, zB, zC])
   refine mC 7 (bs 9 255) (xcmp (L := L) (Fn.out.ext (tr E1 E2).out) ((Fb.out.ext (tr E1 E2).out).isIn hlo) (by omega)) ?_
   rintro e w3 ⟨rfl, hx⟩
   have E3 : Hid (Ext wa.drew w3) := hx
   clear hx
   refine ⟨_, rfl, (tr E2 E3).out, ?_⟩
   (try simp only [Act.put, zA, zB, zC])
   refine mV 8 (bs 9 511) (tr E2 E3).out ?_
   (try simp only [Act.put, zA, zB, zC])
   refine wpAnyH_done (by kernel_rfl) ?_ _
   go_upto_region 3 with fail
   refine wp_region_held_drew (S := fun x => Ext w3 x) (by kernel_rfl) (Ext.refl _).drew (fun _ => ?_)
   have E4 := zH (show Ext w3 w3.drew from (Ext.refl _).drew)
   refine mR 0 (bs 9 1) w.heap.size 0 [.bool n.n, .slice n.p n.l n.c, .bool n.m, .slice n.p2 n.l2 n.c2] (fun x hx => (((Fbx0.out.ext (tr E2 E3).out)).ext hx).part 0 4) Tryz.underlying26 E4.out ?_
   (try simp only [Act.put, zA, zB, zC])
   refine mV 1 (bs 9 3) E4.out ?_
   (try simp only [Act.put, zA, zB, zC])
   refine mV 2 (bs 9 7) E4.out ?_
   (try simp only [Act.put, zA, zB, zC])
   refine mV 3 (bs 9 15) E4.out ?_
   (try simp only [Act.put, zA, zB, zC])
   refine mV 4 (bs 9 31) E4.out ?_
   (try simp only [Act.put, zA, zB, zC])
   refine mV 5 (bs 9 63) E4.out ?_
   refine mR 6 (bs 9 127) X 12 [.bool d.n, .slice d.p d.l d.c, .bool d.m, .slice d.p2 d.l2 d.c2] (fun x hx => (((FbX.out.ext (tr E1 (tr E2 E3)).out)).ext hx).part 12 4) Tryz.underlying26 E4.out ?_
   (try simp only [Act.put, zA, zB, zC])
   refine mC 7 (bs 9 255) (xcmp (L := L) (Fn.out.ext (tr E1 (tr E2 (tr E3 E4))).out) ((Fd.out.ext (tr E1 (tr E2 (tr E3 E4))).out).isIn hhi) (by omega)) ?_
   rintro e w5 ⟨rfl, hx⟩
   have E5 : Hid (Ext w3.drew w5) := hx
   clear hx
   refine ⟨_, rfl, (tr E4 E5).out, ?_⟩
   (try simp only [Act.put, zA, zB, zC])
   refine mV 8 (bs 9 511) (tr E4 E5).out ?_
   (try simp only [Act.put, zA, zB, zC])
   refine wpAnyH_done (by kernel_rfl) ?_ _
   go_upto_region 4 with fail
   refine wp_region_held_drew (S := fun x => Own X w5 x) (by kernel_rfl) (Own.of_ext (Ext.refl _).drew) (fun _ => ?_)
   have E6 := zH (show Ext w5 w5.drew from (Ext.refl _).drew)
   refine mV 0 (bs 8 1) (Own.of_ext E6.out) ?_
   (try simp only [Act.put, zA, zB, zC])
   refine mV 1 (bs 8 3) (Own.of_ext E6.out) ?_
   refine mR 2 (bs 8 7) w.heap.size 0 [.bool n.n, .slice n.p n.l n.c, .bool n.m, .slice n.p2 n.l2 n.c2] (fun x hx => (((Fbx0.out.ext (tr E2 (tr E3 (tr E4 E5))).out)).own hx nbx0_bX).part 0 4) Tryz.underlying26 (Own.of_ext E6.out) ?_
   (try simp only [Act.put, zA, zB, zC])
   refine mV 4 (bs 8 23) (Own.of_ext E6.out) ?_
   (try simp only [Act.put, zA, zB, zC])
   refine mV 5 (bs 8 55) (Own.of_ext E6.out) ?_
   (try simp only [Act.put, zA, zB, zC])
   refine mC 3 (bs 8 63) (xnorm (L := L) (Fn.out.ext (tr E1 (tr E2 (tr E3 (tr E4 (tr E5 E6))))).out) (by omega)) ?_
   rintro e w7 ⟨u2, rfl, hc, hx⟩
   have E7 : Hid (Ext w5.drew w7) := hx
   have Fu2 := zH hc
   clear hc
   clear hx
   refine ⟨_, rfl, (Own.of_ext (tr E6 E7).out), ?_⟩
   (try simp only [Act.put, zA, zB, zC])
   refine mV 6 (bs 8 127) (Own.of_ext (tr E6 E7).out) ?_
   (try simp only [Act.put, zA, zB, zC])
   have kb := (FbX.out.ext (tr E1 (tr E2 (tr E3 (tr E4 (tr E5 (tr E6 E7)))))).out)
   have ob : Own X w7 (w7.setCells X 12 (#[.bool u2.n, .slice u2.p u2.l u2.c, .bool u2.m, .slice u2.p2 u2.l2 u2.c2] : Array Value).toList) := Own.setCells_l _ _ (Own.refl _ _)
   have kc := kb.setPart 12 (#[.bool u2.n, .slice u2.p u2.l u2.c, .bool u2.m, .slice u2.p2 u2.l2 u2.c2] : Array Value).toList (by simp)
   refine md_pstore (i := 7) (listed' := (bs 8 255)) (by rfl) (by kernel_rfl) (by rfl) _ _ _ (by rfl) X 12 _ [.bool a.n, .slice a.p a.l a.c, .bool a.m, .slice a.p2 a.l2 a.c2, .bool b.n, .slice b.p b.l b.c, .bool b.m, .slice b.p2 b.l2 b.c2, .bool c.n, .slice c.p c.l c.c, .bool c.m, .slice c.p2 c.l2 c.c2, .bool d.n, .slice d.p d.l d.c, .bool d.m, .slice d.p2 d.l2 d.c2, .bool true] #[.bool u2.n, .slice u2.p u2.l u2.c, .bool u2.m, .slice u2.p2 u2.l2 u2.c2] (by rfl) (by rfl) kb (by simp) (by kernel_rfl) (all_oneCell_toArray (by simp [Value.oneCell'])) (Own.then_ext' (tr E6 E7).out ob) (by kernel_rfl) ?_
   (try simp only [Act.put])
   refine wpAnyH_done (by kernel_rfl) ?_ _
   have kc2 : Blk (w7.setCells X 12 (#[.bool u2.n, .slice u2.p u2.l u2.c, .bool u2.m, .slice u2.p2 u2.l2 u2.c2] : Array Value).toList) X 69 ([.bool a.n, .slice a.p a.l a.c, .bool a.m, .slice a.p2 a.l2 a.c2, .bool b.n, .slice b.p b.l b.c, .bool b.m, .slice b.p2 b.l2 b.c2, .bool c.n, .slice c.p c.l c.c, .bool c.m, .slice c.p2 c.l2 c.c2, .bool u2.n, .slice u2.p u2.l u2.c, .bool u2.m, .slice u2.p2 u2.l2 u2.c2, .bool true] : List Value).toArray := kc
   have tn : Turn X w (w7.setCells X 12 (#[.bool u2.n, .slice u2.p u2.l u2.c, .bool u2.m, .slice u2.p2 u2.l2 u2.c2] : Array Value).toList) := (TT.out.trans (Turn.of_ext (tr E1 (tr E2 (tr E3 (tr E4 (tr E5 (tr E6 E7)))))).out)).trans ⟨ob, fun r q h => h.own kb (noU_of _ (by simp)) ob⟩
   have ib := (Fb.out.ext (tr E1 (tr E2 (tr E3 (tr E4 (tr E5 (tr E6 E7)))))).out).own kb (noU_of _ (by simp)) ob
   have ia := (Fa.out.ext (tr E1 (tr E2 (tr E3 (tr E4 (tr E5 (tr E6 E7)))))).out).own kb (noU_of _ (by simp)) ob
   have ic := (Fc.out.ext (tr E1 (tr E2 (tr E3 (tr E4 (tr E5 (tr E6 E7)))))).out).own kb (noU_of _ (by simp)) ob
   have iu2 := Fu2.out.own kb (noU_of _ (by simp)) ob
   have in_ := (Fn.out.ext (tr E1 (tr E2 (tr E3 (tr E4 (tr E5 (tr E6 E7)))))).out).own kb (noU_of _ (by simp)) ob
   have ib0 := (Fbx0.out.ext (tr E2 (tr E3 (tr E4 (tr E5 (tr E6 E7))))).out).own ob nbx0_bX
   clear kc kb ob
   generalize (w7.setCells X 12 (#[.bool u2.n, .slice u2.p u2.l u2.c, .bool u2.m, .slice u2.p2 u2.l2 u2.c2] : Array Value).toList) = wz4 at *
   have TT := zH tn
   clear tn
   have Fb := zH ib
   have Fa := zH ia
   have Fc := zH ic
   have Fu2 := zH iu2
   have Fn := zH in_
   have Fbx0 := zH ib0
   have FbX := zH kc2
   clear kc2 in_ ib0 ib ia ic iu2
   go_wp2_with fail
   first | refine bodyPost_end (v := .tuple #[]) (results_none rfl _ _ _) rfl ?_ | refine bodyPost_ret (v := .tuple #[]) (results_none rfl _ _ _) rfl ?_
   rw [lower_f (by omega), upper_t (by omega)]
   exact ⟨rfl, ⟨a, b, c, u2, FbX.out, Fa.out, Fb.out, Fc.out, Fu2.out⟩, TT.out.trans (Turn.of_ext (Ext.refl _))⟩
  ·refine wp_region_held_drew (S := fun x => Ext wa x) (by kernel_rfl) (Ext.refl _).drew (fun _ => ?_)
   have E2 := zH (show Ext wa wa.drew from (Ext.refl _).drew)
   refine mR 0 (bs 9 1) w.heap.size 0 [.bool n.n, .slice n.p n.l n.c, .bool n.m, .slice n.p2 n.l2 n.c2] (fun x hx => ((Fbx0.out).ext hx).part 0 4) Tryz.underlying26 E2.out ?_
   (try simp only [Act.put, zA, zB, zC])
   refine mV 1 (bs 9 3) E2.out ?_
   (try simp only [Act.put, zA, zB, zC])
   refine mV 2 (bs 9 7) E2.out ?_
   (try simp only [Act.put, zA, zB, zC])
   refine mV 3 (bs 9 15) E2.out ?_
   (try simp only [Act.put, zA, zB, zC])
   refine mV 4 (bs 9 31) E2.out ?_
   (try simp only [Act.put, zA, zB, zC])
   refine mV 5 (bs 9 63) E2.out ?_
   refine mR 6 (bs 9 127) X 4 [.bool b.n, .slice b.p b.l b.c, .bool b.m, .slice b.p2 b.l2 b.c2] (fun x hx => (((FbX.out.ext E1.out)).ext hx).part 4 4) Tryz.underlying26 E2.out ?_
   (try simp only [Act.put, zA, zB, zC])
   refine mC 7 (bs 9 255) (xcmp (L := L) (Fn.out.ext (tr E1 E2).out) ((Fb.out.ext (tr E1 E2).out).isIn hlo) (by omega)) ?_
   rintro e w3 ⟨rfl, hx⟩
   have E3 : Hid (Ext wa.drew w3) := hx
   clear hx
   refine ⟨_, rfl, (tr E2 E3).out, ?_⟩
   (try simp only [Act.put, zA, zB, zC])
   refine mV 8 (bs 9 511) (tr E2 E3).out ?_
   (try simp only [Act.put, zA, zB, zC])
   refine wpAnyH_done (by kernel_rfl) ?_ _
   go_upto_region 3 with fail
   refine wp_region_held_drew (S := fun x => Ext w3 x) (by kernel_rfl) (Ext.refl _).drew (fun _ => ?_)
   have E4 := zH (show Ext w3 w3.drew from (Ext.refl _).drew)
   refine mR 0 (bs 9 1) w.heap.size 0 [.bool n.n, .slice n.p n.l n.c, .bool n.m, .slice n.p2 n.l2 n.c2] (fun x hx => (((Fbx0.out.ext (tr E2 E3).out)).ext hx).part 0 4) Tryz.underlying26 E4.out ?_
   (try simp only [Act.put, zA, zB, zC])
   refine mV 1 (bs 9 3) E4.out ?_
   (try simp only [Act.put, zA, zB, zC])
   refine mV 2 (bs 9 7) E4.out ?_
   (try simp only [Act.put, zA, zB, zC])
   refine mV 3 (bs 9 15) E4.out ?_
   (try simp only [Act.put, zA, zB, zC])
   refine mV 4 (bs 9 31) E4.out ?_
   (try simp only [Act.put, zA, zB, zC])
   refine mV 5 (bs 9 63) E4.out ?_
   refine mR 6 (bs 9 127) X 12 [.bool d.n, .slice d.p d.l d.c, .bool d.m, .slice d.p2 d.l2 d.c2] (fun x hx => (((FbX.out.ext (tr E1 (tr E2 E3)).out)).ext hx).part 12 4) Tryz.underlying26 E4.out ?_
   (try simp only [Act.put, zA, zB, zC])
   refine mC 7 (bs 9 255) (xcmp (L := L) (Fn.out.ext (tr E1 (tr E2 (tr E3 E4))).out) ((Fd.out.ext (tr E1 (tr E2 (tr E3 E4))).out).isIn hhi) (by omega)) ?_
   rintro e w5 ⟨rfl, hx⟩
   have E5 : Hid (Ext w3.drew w5) := hx
   clear hx
   refine ⟨_, rfl, (tr E4 E5).out, ?_⟩
   (try simp only [Act.put, zA, zB, zC])
   refine mV 8 (bs 9 511) (tr E4 E5).out ?_
   (try simp only [Act.put, zA, zB, zC])
   refine wpAnyH_done (by kernel_rfl) ?_ _
   go_wp2_with fail
   first | refine bodyPost_end (v := .tuple #[]) (results_none rfl _ _ _) rfl ?_ | refine bodyPost_ret (v := .tuple #[]) (results_none rfl _ _ _) rfl ?_
   rw [lower_f (by omega), upper_f (by omega)]
   exact ⟨rfl, ⟨a, b, c, d, (FbX.out.ext (tr E1 (tr E2 (tr E3 (tr E4 E5)))).out), (Fa.out.ext (tr E1 (tr E2 (tr E3 (tr E4 E5)))).out), (Fb.out.ext (tr E1 (tr E2 (tr E3 (tr E4 E5)))).out), (Fc.out.ext (tr E1 (tr E2 (tr E3 (tr E4 E5)))).out), (Fd.out.ext (tr E1 (tr E2 (tr E3 (tr E4 E5)))).out)⟩, TT.out.trans (Turn.of_ext (tr E1 (tr E2 (tr E3 (tr E4 E5)))).out)⟩

end Go.Proofs.YtllpkoinjompcaaGreat

namespace Go.Proofs.YtllpkoinjompcaaGreat
open Go.RowKit
attribute [local go_sem ↓] Go.wp_at_zero Go.wp_at_succ run_max_ii run_min_ii

theorem BoxAt.ext {w w' : World} {X : Nat} {lx ly hx hy : Rat} (h : BoxAt w X lx ly hx hy) (x : Ext w w') : BoxAt w' X lx ly hx hy := by
  obtain ⟨a, b, c, d, k, h1, h2, h3, h4⟩ := h
  exact ⟨a, b, c, d, k.ext x, h1.ext x, h2.ext x, h3.ext x, h4.ext x⟩
theorem RV.In.turn {L : Nat} {w w' : World} {X : Nat} {lx ly hx hy : Rat} {a : RV} {q : Rat} (h : a.In L w q) (hb : BoxAt w X lx ly hx hy) (t : Turn X w w') : a.In L w' q := by
  obtain ⟨a, b, c, d, k, _⟩ := hb
  exact h.own k (noU_of _ (by simp)) t.1
theorem rl_lower {q l : Rat} {L : Nat} (h : Nm.rl q ≤ L) (h2 : Nm.rl l ≤ L) : Nm.rl (lower q l) ≤ L := by unfold lower; split <;> assumption
theorem rl_upper {q l : Rat} {L : Nat} (h : Nm.rl q ≤ L) (h2 : Nm.rl l ≤ L) : Nm.rl (upper q l) ≤ L := by unfold upper; split <;> assumption
theorem idx0 (p0 p1 : RV) (w : World) : (Instr.index 27 (.agg #[.bool p0.n, .slice p0.p p0.l p0.c, .bool p0.m, .slice p0.p2 p0.l2 p0.c2, .bool p1.n, .slice p1.p p1.l p1.c, .bool p1.m, .slice p1.p2 p1.l2 p1.c2]) (.int .i64 0)).run Tryz.prog w = .ok (.agg #[.bool p0.n, .slice p0.p p0.l p0.c, .bool p0.m, .slice p0.p2 p0.l2 p0.c2]) w := by simp [Instr.index, go_sem]
theorem idx1 (p0 p1 : RV) (w : World) : (Instr.index 27 (.agg #[.bool p0.n, .slice p0.p p0.l p0.c, .bool p0.m, .slice p0.p2 p0.l2 p0.c2, .bool p1.n, .slice p1.p p1.l p1.c, .bool p1.m, .slice p1.p2 p1.l2 p1.c2]) (.int .i64 1)).run Tryz.prog w = .ok (.agg #[.bool p1.n, .slice p1.p p1.l p1.c, .bool p1.m, .slice p1.p2 p1.l2 p1.c2]) w := by simp [Instr.index, go_sem]
set_option maxRecDepth 20000 in
set_option maxHeartbeats 8000000 in
theorem putMore_any (L X : Nat) (p0 p1 : RV) (lx ly hx hy x y : Rat) (w : World) (hb : BoxAt w X lx ly hx hy) (h0 : p0.In L w x) (h1 : p1.In L w y) (r1 : Nm.rl lx ≤ L) (r2 : Nm.rl ly ≤ L) (r3 : Nm.rl hx ≤ L) (r4 : Nm.rl hy ≤ L) (hL1 : 1 ≤ L) (hL : L ≤ 60000) :
    Calls Tryz.prog 41 #[.pointer (some ⟨X, 0, none⟩), .agg #[.bool p0.n, .slice p0.p p0.l p0.c, .bool p0.m, .slice p0.p2 p0.l2 p0.c2, .bool p1.n, .slice p1.p p1.l p1.c, .bool p1.m, .slice p1.p2 p1.l2 p1.c2]] w fun e w' => e = .returned (.tuple #[]) ∧ BoxAt w' X (lower x lx) (lower y ly) (upper x hx) (upper y hy) ∧ Turn X w w' := by
  have rx : Nm.rl x ≤ L := by have := h0.rl; omega
  have ry : Nm.rl y ≤ L := by have := h1.rl; omega
  have hE : Ext w (w.alloc (.cells #[.bool p0.n, .slice p0.p p0.l p0.c, .bool p0.m, .slice p0.p2 p0.l2 p0.c2, .bool p1.n, .slice p1.p p1.l p1.c, .bool p1.m, .slice p1.p2 p1.l2 p1.c2] 27)) := (Ext.refl _).alloc _
  have hXlt : X < w.heap.size := by obtain ⟨a, b, c, d, k, _⟩ := hb; exact k.lt
  have hP : Blk (w.alloc (.cells #[.bool p0.n, .slice p0.p p0.l p0.c, .bool p0.m, .slice p0.p2 p0.l2 p0.c2, .bool p1.n, .slice p1.p p1.l p1.c, .bool p1.m, .slice p1.p2 p1.l2 p1.c2] 27)) w.heap.size 27 #[.bool p0.n, .slice p0.p p0.l p0.c, .bool p0.m, .slice p0.p2 p0.l2 p0.c2, .bool p1.n, .slice p1.p p1.l p1.c, .bool p1.m, .slice p1.p2 p1.l2 p1.c2] := Blk.new _ _ _
  have HB := zH (hb.ext hE)
  have H0 := zH (h0.ext hE)
  have H1 := zH (h1.ext hE)
  have HR := zH (And.intro (And.intro r1 r2) (And.intro (And.intro r3 r4) (And.intro rx ry)))
  have HT := zH (Turn.of_ext (X := X) hE)
  obtain ⟨a, b, c, d, k, _⟩ := hb.ext hE
  have x16 := k.cell 16
  simp at x16
  have y0 := hP.cell 0; have y1 := hP.cell 1; have y2 := hP.cell 2; have y3 := hP.cell 3; have y4 := hP.cell 4; have y5 := hP.cell 5; have y6 := hP.cell 6; have y7 := hP.cell 7
  simp at y0 y1 y2 y3 y4 y5 y6 y7
  clear hb h0 h1 r1 r2 r3 r4 rx ry hE k hP
  go_enter Tryz.func41, Tryz.ntmps41
  go_wp2_with fail
  generalize (w.alloc (.cells #[.bool p0.n, .slice p0.p p0.l p0.c, .bool p0.m, .slice p0.p2 p0.l2 p0.c2, .bool p1.n, .slice p1.p p1.l p1.c, .bool p1.m, .slice p1.p2 p1.l2 p1.c2] 27)) = wa at *
  generalize w.heap.size = B at *
  go_loopw [25] (fun i wr => ∃ k : Nat, k ≤ 2 ∧ i = .int .i64 k ∧ BoxAt wr X (if 0 < k then lower x lx else lx) (if 1 < k then lower y ly else ly) (if 0 < k then upper x hx else hx) (if 1 < k then upper y hy else hy) ∧ p0.In L wr x ∧ p1.In L wr y ∧ Turn X w wr) (fun i _ => 2 - (intOf i).toNat)
  case atStart => exact ⟨0, by omega, rfl, by simpa using HB.out, H0.out, H1.out, HT.out⟩
  case round =>
    obtain ⟨k, hk, rfl, hb, h0, h1, ht⟩ := hrel
    clear x16 y0 y1 y2 y3 y4 y5 y6 y7
    have HB := zH hb
    have H0 := zH h0
    have H1 := zH h1
    have HT := zH ht
    clear hb h0 h1 ht
    have h3 : k = 0 ∨ k = 1 ∨ k = 2 := by omega
    rcases h3 with rfl | rfl | rfl
    · have hix := idx0 p0 p1 wr
      go_wp2_with fail
      refine (add0_any L X p0 lx ly hx hy x _ ((show BoxAt _ X lx ly hx hy by simpa using HB.out).ext ((Ext.refl _).alloc _)) (H0.out.ext ((Ext.refl _).alloc _)) HR.out.1.1 HR.out.2.1.1 hL).mono ?_
      rintro e w2 ⟨rfl, hb2, ht2⟩
      have T2 := zH ((Turn.of_ext (X := X) ((Ext.refl wr).alloc (.cells #[.bool p0.n, .slice p0.p p0.l p0.c, .bool p0.m, .slice p0.p2 p0.l2 p0.c2] 26))).trans ht2)
      have HB2 := zH hb2
      clear hb2 ht2
      go_wp2_with fail
      go_roundw
      case rel => exact ⟨1, by omega, by go_num, by simpa using HB2.out, H0.out.turn HB.out T2.out, H1.out.turn HB.out T2.out, HT.out.trans T2.out⟩
      case measure => simp [intOf]
    · have hix := idx1 p0 p1 wr
      go_wp2_with fail
      refine (add1_any L X p1 (lower x lx) ly (upper x hx) hy y _ ((show BoxAt _ X (lower x lx) ly (upper x hx) hy by simpa using HB.out).ext ((Ext.refl _).alloc _)) (H1.out.ext ((Ext.refl _).alloc _)) HR.out.1.2 HR.out.2.1.2 hL).mono ?_
      rintro e w2 ⟨rfl, hb2, ht2⟩
      have T2 := zH ((Turn.of_ext (X := X) ((Ext.refl wr).alloc (.cells #[.bool p1.n, .slice p1.p p1.l p1.c, .bool p1.m, .slice p1.p2 p1.l2 p1.c2] 26))).trans ht2)
      have HB2 := zH hb2
      clear hb2 ht2
      go_wp2_with fail
      go_roundw
      case rel => exact ⟨2, by omega, by go_num, by simpa using HB2.out, H0.out.turn HB.out T2.out, H1.out.turn HB.out T2.out, HT.out.trans T2.out⟩
      case measure => simp [intOf]
    · go_wp2_with fail
      first | refine bodyPost_end (v := .tuple #[]) (results_none rfl _ _ _) rfl ?_ | refine bodyPost_ret (v := .tuple #[]) (results_none rfl _ _ _) rfl ?_
      exact ⟨rfl, by simpa using HB.out, HT.out⟩
theorem lower_self (q : Rat) : lower q q = q := by unfold lower; split <;> rfl
theorem upper_self (q : Rat) : upper q q = q := by unfold upper; split <;> rfl
set_option maxRecDepth 20000 in
set_option maxHeartbeats 8000000 in
theorem putFirst_any (L X : Nat) (p0 p1 : RV) (x y : Rat) (w : World) (hX : Blk w X 69 ([.bool false, .slice none 0 0, .bool false, .slice none 0 0, .bool false, .slice none 0 0, .bool false, .slice none 0 0, .bool false, .slice none 0 0, .bool false, .slice none 0 0, .bool false, .slice none 0 0, .bool false, .slice none 0 0, .bool false] : List Value).toArray) (h0 : p0.In L w x) (h1 : p1.In L w y) (hL1 : 1 ≤ L) (hL : L ≤ 60000) :
  Calls Tryz.prog 41 #[.pointer (some ⟨X, 0, none⟩), .agg #[.bool p0.n, .slice p0.p p0.l p0.c, .bool p0.m, .slice p0.p2 p0.l2 p0.c2, .bool p1.n, .slice p1.p p1.l p1.c, .bool p1.m, .slice p1.p2 p1.l2 p1.c2]] w fun e w' => e = .returned (.tuple #[]) ∧ BoxAt w' X x y x y ∧ Turn X w w' := by
 have rx : Nm.rl x ≤ L := by have := h0.rl; omega
 have ry : Nm.rl y ≤ L := by have := h1.rl; omega
 have hlt := hX.lt
 have x16 := hX.cell 16
 simp at x16
 have Fp0 := zH h0
 have Fp1 := zH h1
 have FbX := zH hX
 clear h0 h1 hX
 go_enter Tryz.func41, Tryz.ntmps41
 have hbx0 := Blk.new w 27 #[.bool p0.n, .slice p0.p p0.l p0.c, .bool p0.m, .slice p0.p2 p0.l2 p0.c2, .bool p1.n, .slice p1.p p1.l p1.c, .bool p1.m, .slice p1.p2 p1.l2 p1.c2]
 have hE : Ext w (w.alloc (.cells #[.bool p0.n, .slice p0.p p0.l p0.c, .bool p0.m, .slice p0.p2 p0.l2 p0.c2, .bool p1.n, .slice p1.p p1.l p1.c, .bool p1.m, .slice p1.p2 p1.l2 p1.c2] 27)) := (Ext.refl _).alloc _
 have x16a := hE.get x16
 have y0 := hbx0.cell 0
 have y1 := hbx0.cell 1
 have y2 := hbx0.cell 2
 have y3 := hbx0.cell 3
 have y4 := hbx0.cell 4
 have y5 := hbx0.cell 5
 have y6 := hbx0.cell 6
 have y7 := hbx0.cell 7
 simp at y0 y1 y2 y3 y4 y5 y6 y7
 have nbx0_bX : w.heap.size ≠ X := by omega
 go_upto_region 2 with fail
 clear x16 x16a y0 y1 y2 y3 y4 y5 y6 y7
 generalize (w.alloc (.cells #[.bool p0.n, .slice p0.p p0.l p0.c, .bool p0.m, .slice p0.p2 p0.l2 p0.c2, .bool p1.n, .slice p1.p p1.l p1.c, .bool p1.m, .slice p1.p2 p1.l2 p1.c2] 27)) = wa at *
 have E1 : Hid (Ext w wa) := hE
 have Fbx0 := zH hbx0
 clear hE hbx0
 refine wp_region_held_drew (S := fun x => Own X wa x) (by kernel_rfl) (Own.of_ext (Ext.refl _).drew) (fun _ => ?_)
 have E2 := zH (show Ext wa wa.drew from (Ext.refl _).drew)
 refine mV 0 (bs 16 1) (Own.of_ext E2.out) ?_
 (try simp only [Act.put, zA, zB, zC])
 refine mV 1 (bs 16 3) (Own.of_ext E2.out) ?_
 (try simp only [Act.put, zA, zB, zC])
 refine mV 2 (bs 16 7) (Own.of_ext E2.out) ?_
 refine mR 3 (bs 16 15) w.heap.size 0 [.bool p0.n, .slice p0.p p0.l p0.c, .bool p0.m, .slice p0.p2 p0.l2 p0.c2, .bool p1.n, .slice p1.p p1.l p1.c, .bool p1.m, .slice p1.p2 p1.l2 p1.c2] (fun x hx => ((Fbx0.out).own hx nbx0_bX).part 0 8) Tryz.underlying27 (Own.of_ext E2.out) ?_
 refine mR 5 (bs 16 47) w.heap.size 0 [.bool p0.n, .slice p0.p p0.l p0.c, .bool p0.m, .slice p0.p2 p0.l2 p0.c2, .bool p1.n, .slice p1.p p1.l p1.c, .bool p1.m, .slice p1.p2 p1.l2 p1.c2] (fun x hx => ((Fbx0.out).own hx nbx0_bX).part 0 8) Tryz.underlying27 (Own.of_ext E2.out) ?_
 (try simp only [Act.put, zA, zB, zC])
 refine mC 4 (bs 16 63) (reduced_any p0 p1 L x y _ (Fp0.out.ext (tr E1 E2).out) (Fp1.out.ext (tr E1 E2).out) (by omega)) ?_
 rintro e w3 ⟨u0, u1, rfl, hc, hd, hx⟩
 have E3 : Hid (Ext wa.drew w3) := hx
 have Fu0 := zH hc
 have Fu1 := zH hd
 clear hc hd
 clear hx
 refine ⟨_, rfl, (Own.of_ext (tr E2 E3).out), ?_⟩
 (try simp only [Act.put, zA, zB, zC])
 refine mC 6 (bs 16 127) (reduced_any p0 p1 L x y _ (Fp0.out.ext (tr E1 (tr E2 E3)).out) (Fp1.out.ext (tr E1 (tr E2 E3)).out) (by omega)) ?_
 rintro e w4 ⟨v0, v1, rfl, hc, hd, hx⟩
 have E4 : Hid (Ext w3 w4) := hx
 have Fv0 := zH hc
 have Fv1 := zH hd
 clear hc hd
 clear hx
 refine ⟨_, rfl, (Own.of_ext (tr E2 (tr E3 E4)).out), ?_⟩
 (try simp only [Act.put, zA, zB, zC])
 refine mV 7 (bs 16 255) (Own.of_ext (tr E2 (tr E3 E4)).out) ?_
 (try simp only [Act.put, zA, zB, zC])
 refine mV 8 (bs 16 511) (Own.of_ext (tr E2 (tr E3 E4)).out) ?_
 (try simp only [Act.put, zA, zB, zC])
 have kb0 := (FbX.out.ext (tr E1 (tr E2 (tr E3 E4))).out)
 have ob0 : Own X w4 (w4.setCells X 0 (#[.bool u0.n, .slice u0.p u0.l u0.c, .bool u0.m, .slice u0.p2 u0.l2 u0.c2, .bool u1.n, .slice u1.p u1.l u1.c, .bool u1.m, .slice u1.p2 u1.l2 u1.c2] : Array Value).toList) := Own.setCells_l _ _ (Own.refl _ _)
 have kc0 : Blk (w4.setCells X 0 (#[.bool u0.n, .slice u0.p u0.l u0.c, .bool u0.m, .slice u0.p2 u0.l2 u0.c2, .bool u1.n, .slice u1.p u1.l u1.c, .bool u1.m, .slice u1.p2 u1.l2 u1.c2] : Array Value).toList) X 69 ([.bool u0.n, .slice u0.p u0.l u0.c, .bool u0.m, .slice u0.p2 u0.l2 u0.c2, .bool u1.n, .slice u1.p u1.l u1.c, .bool u1.m, .slice u1.p2 u1.l2 u1.c2, .bool false, .slice none 0 0, .bool false, .slice none 0 0, .bool false, .slice none 0 0, .bool false, .slice none 0 0, .bool false] : List Value).toArray := kb0.setPart 0 (#[.bool u0.n, .slice u0.p u0.l u0.c, .bool u0.m, .slice u0.p2 u0.l2 u0.c2, .bool u1.n, .slice u1.p u1.l u1.c, .bool u1.m, .slice u1.p2 u1.l2 u1.c2] : Array Value).toList (by simp)
 refine md_pstore (i := 9) (listed' := (bs 16 1023)) (by rfl) (by kernel_rfl) (by rfl) _ _ _ (by rfl) X 0 _ [.bool false, .slice none 0 0, .bool false, .slice none 0 0, .bool false, .slice none 0 0, .bool false, .slice none 0 0, .bool false, .slice none 0 0, .bool false, .slice none 0 0, .bool false, .slice none 0 0, .bool false, .slice none 0 0, .bool false] #[.bool u0.n, .slice u0.p u0.l u0.c, .bool u0.m, .slice u0.p2 u0.l2 u0.c2, .bool u1.n, .slice u1.p u1.l u1.c, .bool u1.m, .slice u1.p2 u1.l2 u1.c2] (by rfl) (by rfl) kb0 (by simp) (by kernel_rfl) (all_oneCell_toArray (by simp [Value.oneCell'])) (Own.then_ext' (tr E2 (tr E3 E4)).out ob0) (by kernel_rfl) ?_
 (try simp only [Act.put])
 refine mV 10 (bs 16 2047) (Own.then_ext' (tr E2 (tr E3 E4)).out ob0) ?_
 (try simp only [Act.put, zA, zB, zC])
 refine mV 11 (bs 16 4095) (Own.then_ext' (tr E2 (tr E3 E4)).out ob0) ?_
 (try simp only [Act.put, zA, zB, zC])
 have kb1 := kc0
 have ob1 : Own X (w4.setCells X 0 (#[.bool u0.n, .slice u0.p u0.l u0.c, .bool u0.m, .slice u0.p2 u0.l2 u0.c2, .bool u1.n, .slice u1.p u1.l u1.c, .bool u1.m, .slice u1.p2 u1.l2 u1.c2] : Array Value).toList) ((w4.setCells X 0 (#[.bool u0.n, .slice u0.p u0.l u0.c, .bool u0.m, .slice u0.p2 u0.l2 u0.c2, .bool u1.n, .slice u1.p u1.l u1.c, .bool u1.m, .slice u1.p2 u1.l2 u1.c2] : Array Value).toList).setCells X 8 (#[.bool v0.n, .slice v0.p v0.l v0.c, .bool v0.m, .slice v0.p2 v0.l2 v0.c2, .bool v1.n, .slice v1.p v1.l v1.c, .bool v1.m, .slice v1.p2 v1.l2 v1.c2] : Array Value).toList) := Own.setCells_l _ _ (Own.refl _ _)
 have kc1 : Blk ((w4.setCells X 0 (#[.bool u0.n, .slice u0.p u0.l u0.c, .bool u0.m, .slice u0.p2 u0.l2 u0.c2, .bool u1.n, .slice u1.p u1.l u1.c, .bool u1.m, .slice u1.p2 u1.l2 u1.c2] : Array Value).toList).setCells X 8 (#[.bool v0.n, .slice v0.p v0.l v0.c, .bool v0.m, .slice v0.p2 v0.l2 v0.c2, .bool v1.n, .slice v1.p v1.l v1.c, .bool v1.m, .slice v1.p2 v1.l2 v1.c2] : Array Value).toList) X 69 ([.bool u0.n, .slice u0.p u0.l u0.c, .bool u0.m, .slice u0.p2 u0.l2 u0.c2, .bool u1.n, .slice u1.p u1.l u1.c, .bool u1.m, .slice u1.p2 u1.l2 u1.c2, .bool v0.n, .slice v0.p v0.l v0.c, .bool v0.m, .slice v0.p2 v0.l2 v0.c2, .bool v1.n, .slice v1.p v1.l v1.c, .bool v1.m, .slice v1.p2 v1.l2 v1.c2, .bool false] : List Value).toArray := kb1.setPart 8 (#[.bool v0.n, .slice v0.p v0.l v0.c, .bool v0.m, .slice v0.p2 v0.l2 v0.c2, .bool v1.n, .slice v1.p v1.l v1.c, .bool v1.m, .slice v1.p2 v1.l2 v1.c2] : Array Value).toList (by simp)
 refine md_pstore (i := 12) (listed' := (bs 16 8191)) (by rfl) (by kernel_rfl) (by rfl) _ _ _ (by rfl) X 8 _ [.bool u0.n, .slice u0.p u0.l u0.c, .bool u0.m, .slice u0.p2 u0.l2 u0.c2, .bool u1.n, .slice u1.p u1.l u1.c, .bool u1.m, .slice u1.p2 u1.l2 u1.c2, .bool false, .slice none 0 0, .bool false, .slice none 0 0, .bool false, .slice none 0 0, .bool false, .slice none 0 0, .bool false] #[.bool v0.n, .slice v0.p v0.l v0.c, .bool v0.m, .slice v0.p2 v0.l2 v0.c2, .bool v1.n, .slice v1.p v1.l v1.c, .bool v1.m, .slice v1.p2 v1.l2 v1.c2] (by rfl) (by rfl) kb1 (by simp) (by kernel_rfl) (all_oneCell_toArray (by simp [Value.oneCell'])) (Own.then_ext' (tr E2 (tr E3 E4)).out (ob0.trans ob1)) (by kernel_rfl) ?_
 (try simp only [Act.put])
 refine mV 13 (bs 16 16383) (Own.then_ext' (tr E2 (tr E3 E4)).out (ob0.trans ob1)) ?_
 (try simp only [Act.put, zA, zB, zC])
 refine mV 14 (bs 16 32767) (Own.then_ext' (tr E2 (tr E3 E4)).out (ob0.trans ob1)) ?_
 (try simp only [Act.put, zA, zB, zC])
 have kb2 := kc1
 have ob2 : Own X ((w4.setCells X 0 (#[.bool u0.n, .slice u0.p u0.l u0.c, .bool u0.m, .slice u0.p2 u0.l2 u0.c2, .bool u1.n, .slice u1.p u1.l u1.c, .bool u1.m, .slice u1.p2 u1.l2 u1.c2] : Array Value).toList).setCells X 8 (#[.bool v0.n, .slice v0.p v0.l v0.c, .bool v0.m, .slice v0.p2 v0.l2 v0.c2, .bool v1.n, .slice v1.p v1.l v1.c, .bool v1.m, .slice v1.p2 v1.l2 v1.c2] : Array Value).toList) (((w4.setCells X 0 (#[.bool u0.n, .slice u0.p u0.l u0.c, .bool u0.m, .slice u0.p2 u0.l2 u0.c2, .bool u1.n, .slice u1.p u1.l u1.c, .bool u1.m, .slice u1.p2 u1.l2 u1.c2] : Array Value).toList).setCells X 8 (#[.bool v0.n, .slice v0.p v0.l v0.c, .bool v0.m, .slice v0.p2 v0.l2 v0.c2, .bool v1.n, .slice v1.p v1.l v1.c, .bool v1.m, .slice v1.p2 v1.l2 v1.c2] : Array Value).toList).setCells X 16 [.bool true]) := Own.setCells_l _ _ (Own.refl _ _)
 have kc2 : Blk (((w4.setCells X 0 (#[.bool u0.n, .slice u0.p u0.l u0.c, .bool u0.m, .slice u0.p2 u0.l2 u0.c2, .bool u1.n, .slice u1.p u1.l u1.c, .bool u1.m, .slice u1.p2 u1.l2 u1.c2] : Array Value).toList).setCells X 8 (#[.bool v0.n, .slice v0.p v0.l v0.c, .bool v0.m, .slice v0.p2 v0.l2 v0.c2, .bool v1.n, .slice v1.p v1.l v1.c, .bool v1.m, .slice v1.p2 v1.l2 v1.c2] : Array Value).toList).setCells X 16 [.bool true]) X 69 ([.bool u0.n, .slice u0.p u0.l u0.c, .bool u0.m, .slice u0.p2 u0.l2 u0.c2, .bool u1.n, .slice u1.p u1.l u1.c, .bool u1.m, .slice u1.p2 u1.l2 u1.c2, .bool v0.n, .slice v0.p v0.l v0.c, .bool v0.m, .slice v0.p2 v0.l2 v0.c2, .bool v1.n, .slice v1.p v1.l v1.c, .bool v1.m, .slice v1.p2 v1.l2 v1.c2, .bool true] : List Value).toArray := kb2.setPart 16 [.bool true] (by simp)
 refine md_cell (i := 15) (listed' := (bs 16 65535)) (by rfl) (by kernel_rfl) (by rfl) _ _ _ (by rfl) X 16 _ [.bool u0.n, .slice u0.p u0.l u0.c, .bool u0.m, .slice u0.p2 u0.l2 u0.c2, .bool u1.n, .slice u1.p u1.l u1.c, .bool u1.m, .slice u1.p2 u1.l2 u1.c2, .bool v0.n, .slice v0.p v0.l v0.c, .bool v0.m, .slice v0.p2 v0.l2 v0.c2, .bool v1.n, .slice v1.p v1.l v1.c, .bool v1.m, .slice v1.p2 v1.l2 v1.c2, .bool false] (.bool true) (by rfl) (by rfl) kb2 (by simp) (by kernel_rfl) (by rfl) (by rfl) (Own.then_ext' (tr E2 (tr E3 E4)).out ((ob0.trans ob1).trans ob2)) (by kernel_rfl) ?_
 (try simp only [Act.put])
 refine wpAnyH_done (by kernel_rfl) ?_ _
 have hb : BoxAt (((w4.setCells X 0 (#[.bool u0.n, .slice u0.p u0.l u0.c, .bool u0.m, .slice u0.p2 u0.l2 u0.c2, .bool u1.n, .slice u1.p u1.l u1.c, .bool u1.m, .slice u1.p2 u1.l2 u1.c2] : Array Value).toList).setCells X 8 (#[.bool v0.n, .slice v0.p v0.l v0.c, .bool v0.m, .slice v0.p2 v0.l2 v0.c2, .bool v1.n, .slice v1.p v1.l v1.c, .bool v1.m, .slice v1.p2 v1.l2 v1.c2] : Array Value).toList).setCells X 16 [.bool true]) X x y x y := ⟨u0, u1, v0, v1, kc2, (((((Fu0.out.ext E4.out)).own kb0 (noU_of _ (by simp)) ob0).own kb1 (noU_of _ (by simp)) ob1).own kb2 (noU_of _ (by simp)) ob2), (((((Fu1.out.ext E4.out)).own kb0 (noU_of _ (by simp)) ob0).own kb1 (noU_of _ (by simp)) ob1).own kb2 (noU_of _ (by simp)) ob2), ((((Fv0.out).own kb0 (noU_of _ (by simp)) ob0).own kb1 (noU_of _ (by simp)) ob1).own kb2 (noU_of _ (by simp)) ob2), ((((Fv1.out).own kb0 (noU_of _ (by simp)) ob0).own kb1 (noU_of _ (by simp)) ob1).own kb2 (noU_of _ (by simp)) ob2)⟩
 have h0 : p0.In L (((w4.setCells X 0 (#[.bool u0.n, .slice u0.p u0.l u0.c, .bool u0.m, .slice u0.p2 u0.l2 u0.c2, .bool u1.n, .slice u1.p u1.l u1.c, .bool u1.m, .slice u1.p2 u1.l2 u1.c2] : Array Value).toList).setCells X 8 (#[.bool v0.n, .slice v0.p v0.l v0.c, .bool v0.m, .slice v0.p2 v0.l2 v0.c2, .bool v1.n, .slice v1.p v1.l v1.c, .bool v1.m, .slice v1.p2 v1.l2 v1.c2] : Array Value).toList).setCells X 16 [.bool true]) x := (((((Fp0.out.ext (tr E1 (tr E2 (tr E3 E4))).out)).own kb0 (noU_of _ (by simp)) ob0).own kb1 (noU_of _ (by simp)) ob1).own kb2 (noU_of _ (by simp)) ob2)
 have h1 : p1.In L (((w4.setCells X 0 (#[.bool u0.n, .slice u0.p u0.l u0.c, .bool u0.m, .slice u0.p2 u0.l2 u0.c2, .bool u1.n, .slice u1.p u1.l u1.c, .bool u1.m, .slice u1.p2 u1.l2 u1.c2] : Array Value).toList).setCells X 8 (#[.bool v0.n, .slice v0.p v0.l v0.c, .bool v0.m, .slice v0.p2 v0.l2 v0.c2, .bool v1.n, .slice v1.p v1.l v1.c, .bool v1.m, .slice v1.p2 v1.l2 v1.c2] : Array Value).toList).setCells X 16 [.bool true]) y := (((((Fp1.out.ext (tr E1 (tr E2 (tr E3 E4))).out)).own kb0 (noU_of _ (by simp)) ob0).own kb1 (noU_of _ (by simp)) ob1).own kb2 (noU_of _ (by simp)) ob2)
 have hB : Blk (((w4.setCells X 0 (#[.bool u0.n, .slice u0.p u0.l u0.c, .bool u0.m, .slice u0.p2 u0.l2 u0.c2, .bool u1.n, .slice u1.p u1.l u1.c, .bool u1.m, .slice u1.p2 u1.l2 u1.c2] : Array Value).toList).setCells X 8 (#[.bool v0.n, .slice v0.p v0.l v0.c, .bool v0.m, .slice v0.p2 v0.l2 v0.c2, .bool v1.n, .slice v1.p v1.l v1.c, .bool v1.m, .slice v1.p2 v1.l2 v1.c2] : Array Value).toList).setCells X 16 [.bool true]) w.heap.size 27 #[.bool p0.n, .slice p0.p p0.l p0.c, .bool p0.m, .slice p0.p2 p0.l2 p0.c2, .bool p1.n, .slice p1.p p1.l p1.c, .bool p1.m, .slice p1.p2 p1.l2 p1.c2] := ((((Fbx0.out.ext (tr E2 (tr E3 E4)).out)).own ob0 nbx0_bX).own ob1 nbx0_bX).own ob2 nbx0_bX
 have ht : Turn X w (((w4.setCells X 0 (#[.bool u0.n, .slice u0.p u0.l u0.c, .bool u0.m, .slice u0.p2 u0.l2 u0.c2, .bool u1.n, .slice u1.p u1.l u1.c, .bool u1.m, .slice u1.p2 u1.l2 u1.c2] : Array Value).toList).setCells X 8 (#[.bool v0.n, .slice v0.p v0.l v0.c, .bool v0.m, .slice v0.p2 v0.l2 v0.c2, .bool v1.n, .slice v1.p v1.l v1.c, .bool v1.m, .slice v1.p2 v1.l2 v1.c2] : Array Value).toList).setCells X 16 [.bool true]) := (Turn.of_ext (tr E1 (tr E2 (tr E3 E4))).out).trans ⟨(ob0.trans ob1).trans ob2, fun r q h => ((((h).own kb0 (noU_of _ (by simp)) ob0).own kb1 (noU_of _ (by simp)) ob1).own kb2 (noU_of _ (by simp)) ob2)⟩
 clear kb0 kb1 kb2 kc0 kc1 kc2 ob0 ob1 ob2
 generalize (((w4.setCells X 0 (#[.bool u0.n, .slice u0.p u0.l u0.c, .bool u0.m, .slice u0.p2 u0.l2 u0.c2, .bool u1.n, .slice u1.p u1.l u1.c, .bool u1.m, .slice u1.p2 u1.l2 u1.c2] : Array Value).toList).setCells X 8 (#[.bool v0.n, .slice v0.p v0.l v0.c, .bool v0.m, .slice v0.p2 v0.l2 v0.c2, .bool v1.n, .slice v1.p v1.l v1.c, .bool v1.m, .slice v1.p2 v1.l2 v1.c2] : Array Value).toList).setCells X 16 [.bool true]) = wb at *
 have HB := zH hb
 have H0 := zH h0
 have H1 := zH h1
 have HT := zH ht
 have HR := zH (And.intro rx ry)
 have y0 := hB.cell 0
 have y1 := hB.cell 1
 have y2 := hB.cell 2
 have y3 := hB.cell 3
 have y4 := hB.cell 4
 have y5 := hB.cell 5
 have y6 := hB.cell 6
 have y7 := hB.cell 7
 simp at y0 y1 y2 y3 y4 y5 y6 y7
 clear hb h0 h1 ht rx ry hB hlt
 go_wp2_with fail
 go_loopw [25] (fun i wr => ∃ k : Nat, k ≤ 2 ∧ i = .int .i64 k ∧ BoxAt wr X x y x y ∧ p0.In L wr x ∧ p1.In L wr y ∧ Turn X w wr) (fun i _ => 2 - (intOf i).toNat)
 case atStart => exact ⟨0, by omega, rfl, HB.out, H0.out, H1.out, HT.out⟩
 case round =>
  obtain ⟨k, hk, rfl, hb, h0, h1, ht⟩ := hrel
  clear y0 y1 y2 y3 y4 y5 y6 y7
  have HB := zH hb
  have H0 := zH h0
  have H1 := zH h1
  have HT := zH ht
  clear hb h0 h1 ht
  have h3 : k = 0 ∨ k = 1 ∨ k = 2 := by omega
  rcases h3 with rfl | rfl | rfl
  ·have hix := idx0 p0 p1 wr
   go_wp2_with fail
   refine (add0_any L X p0 x y x y x _ (HB.out.ext ((Ext.refl _).alloc _)) (H0.out.ext ((Ext.refl _).alloc _)) HR.out.1 HR.out.1 hL).mono ?_
   rintro e w2 ⟨rfl, hb2, ht2⟩
   have T2 := zH ((Turn.of_ext (X := X) ((Ext.refl wr).alloc (.cells #[.bool p0.n, .slice p0.p p0.l p0.c, .bool p0.m, .slice p0.p2 p0.l2 p0.c2] 26))).trans ht2)
   have HB2 := zH hb2
   clear hb2 ht2
   go_wp2_with fail
   go_roundw
   case rel => exact ⟨1, by omega, by go_num, by have h := HB2.out; rwa [lower_self, upper_self] at h, H0.out.turn HB.out T2.out, H1.out.turn HB.out T2.out, HT.out.trans T2.out⟩
   case measure => simp [intOf]
  ·have hix := idx1 p0 p1 wr
   go_wp2_with fail
   refine (add1_any L X p1 x y x y y _ (HB.out.ext ((Ext.refl _).alloc _)) (H1.out.ext ((Ext.refl _).alloc _)) HR.out.2 HR.out.2 hL).mono ?_
   rintro e w2 ⟨rfl, hb2, ht2⟩
   have T2 := zH ((Turn.of_ext (X := X) ((Ext.refl wr).alloc (.cells #[.bool p1.n, .slice p1.p p1.l p1.c, .bool p1.m, .slice p1.p2 p1.l2 p1.c2] 26))).trans ht2)
   have HB2 := zH hb2
   clear hb2 ht2
   go_wp2_with fail
   go_roundw
   case rel => exact ⟨2, by omega, by go_num, by have h := HB2.out; rwa [lower_self, upper_self] at h, H0.out.turn HB.out T2.out, H1.out.turn HB.out T2.out, HT.out.trans T2.out⟩
   case measure => simp [intOf]
  ·go_wp2_with fail
   first | refine bodyPost_end (v := .tuple #[]) (results_none rfl _ _ _) rfl ?_ | refine bodyPost_ret (v := .tuple #[]) (results_none rfl _ _ _) rfl ?_
   exact ⟨rfl, HB.out, HT.out⟩

end Go.Proofs.YtllpkoinjompcaaGreat

namespace Go.Proofs.YtllpkoinjompcaaGreat
open Go.RowKit
attribute [local go_sem ↓] Go.wp_at_zero Go.wp_at_succ run_max_ii run_min_ii

theorem divInt12 : Rat.divInt 1 2 = (1 : Rat) / 2 := by decide +kernel
theorem rl12 : Nm.rl ((1 : Rat) / 2) ≤ 1 := by
  have e1 : ((1 : Rat) / 2).num = 1 := by decide +kernel
  have e2 : ((1 : Rat) / 2).den = 2 := by decide +kernel
  unfold Nm.rl
  rw [e1, e2]
  have h1 : Nm.nl (Int.natAbs 1) ≤ 1 := Nm.nl_le (by decide)
  have h2 : Nm.nl 2 ≤ 1 := Nm.nl_le (by decide)
  omega
theorem xHalf (w : World) : Calls Tryz.prog 39 #[.int .i64 1, .int .i64 2] w fun e w' => ∃ c, e = .returned (.tuple #[.agg c, .int .i64 0]) ∧ NIs w' c ((1 : Rat) / 2) ∧ Ext w w' := by
  have h := rfromInts_any 1 2 w (by omega) (by omega) (by omega) (by omega) (by omega)
  rw [divInt12] at h
  refine h.mono ?_
  intro e w' h
  obtain ⟨a, rfl, k1, k2⟩ := RetRE.v h
  exact ⟨_, rfl, ⟨a, rfl, k1⟩, k2⟩
theorem Turn.blk {X : Nat} {w w' : World} (t : Turn X w w') {g : Nat} {ty : TypeId} {cs : Array Value} (h : Blk w g ty cs) (hn : g ≠ X) : Blk w' g ty cs := h.own t.1 hn
theorem oPutFirst {L X : Nat} {cs : Array Value} {x y : Rat} {w : World} (hX : Blk w X 69 ([.bool false, .slice none 0 0, .bool false, .slice none 0 0, .bool false, .slice none 0 0, .bool false, .slice none 0 0, .bool false, .slice none 0 0, .bool false, .slice none 0 0, .bool false, .slice none 0 0, .bool false, .slice none 0 0, .bool false] : List Value).toArray) (hp : PtIs w cs x y) (rx : Nm.rl x ≤ L) (ry : Nm.rl y ≤ L) (h1 : 1 ≤ L) (hL : L ≤ 60000) :
    Calls Tryz.prog 41 #[.pointer (some ⟨X, 0, none⟩), .agg cs] w fun e w' => e = .returned (.tuple #[]) ∧ BoxAt w' X x y x y ∧ Turn X w w' := by
  obtain ⟨a, b, rfl, ha, hb⟩ := hp
  exact putFirst_any L X a b x y w hX (ha.isIn rx) (hb.isIn ry) h1 hL
theorem oPutMore {L X : Nat} {cs : Array Value} {lx ly hx hy x y : Rat} {w : World} (hX : BoxAt w X lx ly hx hy) (hp : PtIs w cs x y) (rx : Nm.rl x ≤ L) (ry : Nm.rl y ≤ L) (r1 : Nm.rl lx ≤ L) (r2 : Nm.rl ly ≤ L) (r3 : Nm.rl hx ≤ L) (r4 : Nm.rl hy ≤ L) (h1 : 1 ≤ L) (hL : L ≤ 60000) :
    Calls Tryz.prog 41 #[.pointer (some ⟨X, 0, none⟩), .agg cs] w fun e w' => e = .returned (.tuple #[]) ∧ BoxAt w' X (lower x lx) (lower y ly) (upper x hx) (upper y hy) ∧ Turn X w w' := by
  obtain ⟨a, b, rfl, ha, hb⟩ := hp
  exact putMore_any L X a b lx ly hx hy x y w hX (ha.isIn rx) (hb.isIn ry) r1 r2 r3 r4 h1 hL
def boxLo (xs : List Rat) : Rat := xs.tail.foldl (fun l q => lower q l) (xs.headD 0)
def boxHi (xs : List Rat) : Rat := xs.tail.foldl (fun l q => upper q l) (xs.headD 0)
set_option maxRecDepth 20000 in
set_option maxHeartbeats 8000000 in
theorem cubicBounds_any (L : Nat) (cp : Array Value) (A0 A1 B0 B1 C0 C1 D0 D1 : Rat) (w : World) (hP : C4In L w cp A0 A1 B0 B1 C0 C1 D0 D1) (h1 : 1 ≤ L) (hL : L ≤ 200) :
  Calls Tryz.prog 24 #[.agg cp] w fun e w' => ∃ c1 c2, e = .returned (.tuple #[.agg c1, .agg c2]) ∧ PtIs w' c1 (boxLo [A0, (lerpV (lerpV (lerpV A0 B0 ((1 : Rat) / 2)) (lerpV B0 C0 ((1 : Rat) / 2)) ((1 : Rat) / 2)) (lerpV (lerpV B0 C0 ((1 : Rat) / 2)) (lerpV C0 D0 ((1 : Rat) / 2)) ((1 : Rat) / 2)) ((1 : Rat) / 2)), (lerpV A0 B0 ((1 : Rat) / 2)), (lerpV (lerpV B0 C0 ((1 : Rat) / 2)) (lerpV C0 D0 ((1 : Rat) / 2)) ((1 : Rat) / 2)), (lerpV (lerpV A0 B0 ((1 : Rat) / 2)) (lerpV B0 C0 ((1 : Rat) / 2)) ((1 : Rat) / 2)), (lerpV C0 D0 ((1 : Rat) / 2)), (lerpV (lerpV (lerpV A0 B0 ((1 : Rat) / 2)) (lerpV B0 C0 ((1 : Rat) / 2)) ((1 : Rat) / 2)) (lerpV (lerpV B0 C0 ((1 : Rat) / 2)) (lerpV C0 D0 ((1 : Rat) / 2)) ((1 : Rat) / 2)) ((1 : Rat) / 2)), D0]) (boxLo [A1, (lerpV (lerpV (lerpV A1 B1 ((1 : Rat) / 2)) (lerpV B1 C1 ((1 : Rat) / 2)) ((1 : Rat) / 2)) (lerpV (lerpV B1 C1 ((1 : Rat) / 2)) (lerpV C1 D1 ((1 : Rat) / 2)) ((1 : Rat) / 2)) ((1 : Rat) / 2)), (lerpV A1 B1 ((1 : Rat) / 2)), (lerpV (lerpV B1 C1 ((1 : Rat) / 2)) (lerpV C1 D1 ((1 : Rat) / 2)) ((1 : Rat) / 2)), (lerpV (lerpV A1 B1 ((1 : Rat) / 2)) (lerpV B1 C1 ((1 : Rat) / 2)) ((1 : Rat) / 2)), (lerpV C1 D1 ((1 : Rat) / 2)), (lerpV (lerpV (lerpV A1 B1 ((1 : Rat) / 2)) (lerpV B1 C1 ((1 : Rat) / 2)) ((1 : Rat) / 2)) (lerpV (lerpV B1 C1 ((1 : Rat) / 2)) (lerpV C1 D1 ((1 : Rat) / 2)) ((1 : Rat) / 2)) ((1 : Rat) / 2)), D1]) ∧ PtIs w' c2 (boxHi [A0, (lerpV (lerpV (lerpV A0 B0 ((1 : Rat) / 2)) (lerpV B0 C0 ((1 : Rat) / 2)) ((1 : Rat) / 2)) (lerpV (lerpV B0 C0 ((1 : Rat) / 2)) (lerpV C0 D0 ((1 : Rat) / 2)) ((1 : Rat) / 2)) ((1 : Rat) / 2)), (lerpV A0 B0 ((1 : Rat) / 2)), (lerpV (lerpV B0 C0 ((1 : Rat) / 2)) (lerpV C0 D0 ((1 : Rat) / 2)) ((1 : Rat) / 2)), (lerpV (lerpV A0 B0 ((1 : Rat) / 2)) (lerpV B0 C0 ((1 : Rat) / 2)) ((1 : Rat) / 2)), (lerpV C0 D0 ((1 : Rat) / 2)), (lerpV (lerpV (lerpV A0 B0 ((1 : Rat) / 2)) (lerpV B0 C0 ((1 : Rat) / 2)) ((1 : Rat) / 2)) (lerpV (lerpV B0 C0 ((1 : Rat) / 2)) (lerpV C0 D0 ((1 : Rat) / 2)) ((1 : Rat) / 2)) ((1 : Rat) / 2)), D0]) (boxHi [A1, (lerpV (lerpV (lerpV A1 B1 ((1 : Rat) / 2)) (lerpV B1 C1 ((1 : Rat) / 2)) ((1 : Rat) / 2)) (lerpV (lerpV B1 C1 ((1 : Rat) / 2)) (lerpV C1 D1 ((1 : Rat) / 2)) ((1 : Rat) / 2)) ((1 : Rat) / 2)), (lerpV A1 B1 ((1 : Rat) / 2)), (lerpV (lerpV B1 C1 ((1 : Rat) / 2)) (lerpV C1 D1 ((1 : Rat) / 2)) ((1 : Rat) / 2)), (lerpV (lerpV A1 B1 ((1 : Rat) / 2)) (lerpV B1 C1 ((1 : Rat) / 2)) ((1 : Rat) / 2)), (lerpV C1 D1 ((1 : Rat) / 2)), (lerpV (lerpV (lerpV A1 B1 ((1 : Rat) / 2)) (lerpV B1 C1 ((1 : Rat) / 2)) ((1 : Rat) / 2)) (lerpV (lerpV B1 C1 ((1 : Rat) / 2)) (lerpV C1 D1 ((1 : Rat) / 2)) ((1 : Rat) / 2)) ((1 : Rat) / 2)), D1]) ∧ Ext w w' := by
 have ZP := hP.size
 have ra0 : Nm.rl A0 ≤ L := by obtain ⟨_, _, _, _, _, _, _, _, _, h, _, _, _, _, _, _, _⟩ := hP; have := h.rl; omega
 have ra1 : Nm.rl A1 ≤ L := by obtain ⟨_, _, _, _, _, _, _, _, _, _, h, _, _, _, _, _, _⟩ := hP; have := h.rl; omega
 have rb0 : Nm.rl B0 ≤ L := by obtain ⟨_, _, _, _, _, _, _, _, _, _, _, h, _, _, _, _, _⟩ := hP; have := h.rl; omega
 have rb1 : Nm.rl B1 ≤ L := by obtain ⟨_, _, _, _, _, _, _, _, _, _, _, _, h, _, _, _, _⟩ := hP; have := h.rl; omega
 have rc0 : Nm.rl C0 ≤ L := by obtain ⟨_, _, _, _, _, _, _, _, _, _, _, _, _, h, _, _, _⟩ := hP; have := h.rl; omega
 have rc1 : Nm.rl C1 ≤ L := by obtain ⟨_, _, _, _, _, _, _, _, _, _, _, _, _, _, h, _, _⟩ := hP; have := h.rl; omega
 have rd0 : Nm.rl D0 ≤ L := by obtain ⟨_, _, _, _, _, _, _, _, _, _, _, _, _, _, _, h, _⟩ := hP; have := h.rl; omega
 have rd1 : Nm.rl D1 ≤ L := by obtain ⟨_, _, _, _, _, _, _, _, _, _, _, _, _, _, _, _, h⟩ := hP; have := h.rl; omega
 have rS : Nm.rl ((1 : Rat) / 2) ≤ L := Nat.le_trans rl12 h1
 have l00 := rl_lerpV (a := A0) (b := B0) (t := ((1 : Rat) / 2)) (L := L) ra0 rb0 rS
 have l10 := rl_lerpV (a := B0) (b := C0) (t := ((1 : Rat) / 2)) (L := L) rb0 rc0 rS
 have l20 := rl_lerpV (a := C0) (b := D0) (t := ((1 : Rat) / 2)) (L := L) rc0 rd0 rS
 have m00 := rl_lerpV (a := (lerpV A0 B0 ((1 : Rat) / 2))) (b := (lerpV B0 C0 ((1 : Rat) / 2))) (t := ((1 : Rat) / 2)) (L := 4 * L + 2) l00 l10 (by omega)
 have m10 := rl_lerpV (a := (lerpV B0 C0 ((1 : Rat) / 2))) (b := (lerpV C0 D0 ((1 : Rat) / 2))) (t := ((1 : Rat) / 2)) (L := 4 * L + 2) l10 l20 (by omega)
 have n0 := rl_lerpV (a := (lerpV (lerpV A0 B0 ((1 : Rat) / 2)) (lerpV B0 C0 ((1 : Rat) / 2)) ((1 : Rat) / 2))) (b := (lerpV (lerpV B0 C0 ((1 : Rat) / 2)) (lerpV C0 D0 ((1 : Rat) / 2)) ((1 : Rat) / 2))) (t := ((1 : Rat) / 2)) (L := 4 * (4 * L + 2) + 2) m00 m10 (by omega)
 have l01 := rl_lerpV (a := A1) (b := B1) (t := ((1 : Rat) / 2)) (L := L) ra1 rb1 rS
 have l11 := rl_lerpV (a := B1) (b := C1) (t := ((1 : Rat) / 2)) (L := L) rb1 rc1 rS
 have l21 := rl_lerpV (a := C1) (b := D1) (t := ((1 : Rat) / 2)) (L := L) rc1 rd1 rS
 have m01 := rl_lerpV (a := (lerpV A1 B1 ((1 : Rat) / 2))) (b := (lerpV B1 C1 ((1 : Rat) / 2))) (t := ((1 : Rat) / 2)) (L := 4 * L + 2) l01 l11 (by omega)
 have m11 := rl_lerpV (a := (lerpV B1 C1 ((1 : Rat) / 2))) (b := (lerpV C1 D1 ((1 : Rat) / 2))) (t := ((1 : Rat) / 2)) (L := 4 * L + 2) l11 l21 (by omega)
 have n1 := rl_lerpV (a := (lerpV (lerpV A1 B1 ((1 : Rat) / 2)) (lerpV B1 C1 ((1 : Rat) / 2)) ((1 : Rat) / 2))) (b := (lerpV (lerpV B1 C1 ((1 : Rat) / 2)) (lerpV C1 D1 ((1 : Rat) / 2)) ((1 : Rat) / 2))) (t := ((1 : Rat) / 2)) (L := 4 * (4 * L + 2) + 2) m01 m11 (by omega)
 have FP := zH hP
 clear hP
 go_enter Tryz.func24, Tryz.ntmps24
 go_upto_region 1 with fail
 have hbx0 : Blk (((w.alloc (.cells cp 28)).alloc (.cells z8 27)).alloc (.cells z8 27)) (w.heap.size) 28 cp := Blk.ext (Blk.new_at w _ (by simp) _ _) (((Ext.refl _).alloc _).alloc _)
 have hR0 : Blk (((w.alloc (.cells cp 28)).alloc (.cells z8 27)).alloc (.cells z8 27)) (w.heap.size + 1) 27 z8 := Blk.ext (Blk.new_at (w.alloc (.cells cp 28)) _ (by simp) _ _) ((Ext.refl _).alloc _)
 have hR1 : Blk (((w.alloc (.cells cp 28)).alloc (.cells z8 27)).alloc (.cells z8 27)) (w.heap.size + 1 + 1) 27 z8 := Blk.ext (Blk.new_at ((w.alloc (.cells cp 28)).alloc (.cells z8 27)) _ (by simp) _ _) (Ext.refl _)
 have hE : Ext w (((w.alloc (.cells cp 28)).alloc (.cells z8 27)).alloc (.cells z8 27)) := ((((Ext.refl _).alloc _).alloc _).alloc _)
 have gR0 : w.heap.size ≤ w.heap.size + 1 := by omega
 have nbx0_R0 : w.heap.size ≠ w.heap.size + 1 := by omega
 have nR1_R0 : w.heap.size + 1 + 1 ≠ w.heap.size + 1 := by omega
 have gR1 : w.heap.size ≤ w.heap.size + 1 + 1 := by omega
 have nbx0_R1 : w.heap.size ≠ w.heap.size + 1 + 1 := by omega
 have nR0_R1 : w.heap.size + 1 ≠ w.heap.size + 1 + 1 := by omega
 generalize (((w.alloc (.cells cp 28)).alloc (.cells z8 27)).alloc (.cells z8 27)) = wa at *
 generalize w.heap.size + 1 + 1 = R1 at *
 generalize w.heap.size + 1 = R0 at *
 have E1 : Hid (Ext w wa) := hE
 have Fbx0 := zH hbx0
 have FR0 := zH hR0
 have FR1 := zH hR1
 clear hE hbx0 hR0 hR1
 refine wp_region_lit ?_
 refine mv_call (by rfl) (by go_simp) (xHalf _) ?_
 rintro e w2 ⟨ct, rfl, hc, hx⟩
 have E2 : Hid (Ext wa w2) := hx
 have FT := zH hc
 have ZT := hc.size
 have OT := hc.one
 clear hc
 clear hx
 refine ⟨_, rfl, ?_⟩
 (try simp only [Act.put, zA, zB, zC])
 refine pV (w' := w2) ?_
 (try simp only [Act.put, zA, zB, zC])
 refine pV (w' := w2) ?_
 (try simp only [Act.put, zA, zB, zC])
 refine pV (w' := w2) ?_
 (try simp only [Act.put, zA, zB, zC])
 refine mv_val (v := .pointer (some ⟨w2.heap.size, 0, none⟩)) (w' := w2.alloc (.cells z4 26)) (by rfl) (by go_simp) ?_
 (try simp only [Act.put, zA, zB, zC])
 refine pO ct (Blk.new w2 _ _) (Eq.trans ZT rfl) (by rw [show (ct : Array Value).size = 4 from ZT]; kernel_rfl) OT ?_
 (try simp only [Act.put])
 have nV4_R0 : w2.heap.size ≠ R0 := Nat.ne_of_gt (Blk.lt (FR0.out.ext E2.out))
 have nV4_R1 : w2.heap.size ≠ R1 := Nat.ne_of_gt (Blk.lt (FR1.out.ext E2.out))
 obtain ⟨xq1, xq2⟩ := new_var w2 26 z4 ct (Eq.trans ZT rfl)
 generalize (w2.alloc (.cells z4 26)).setCells w2.heap.size 0 (ct : Array Value).toList = w3 at *
 generalize w2.heap.size = X3 at *
 have E3 : Hid (Ext w2 w3) := xq1
 have FV4 := zH xq2
 clear xq1 xq2
 refine pV (w' := w3) ?_
 (try simp only [Act.put, zA, zB, zC])
 go_upto_region 2 with fail
 refine wp_region_lit ?_
 refine pL (Fbx0.out.ext (tr E2 E3).out) Tryz.underlying28 (by rw [show (cp : Array Value).size = 32 from ZP]; kernel_rfl) ?_
 (try simp only [Act.put, zA, zB, zC])
 refine pL FV4.out Tryz.underlying26 (by rw [show (ct : Array Value).size = 4 from ZT]; kernel_rfl) ?_
 (try simp only [Act.put, zA, zB, zC])
 refine mv_call (by rfl) (by go_simp) (iSplitCubic (L := L) (FP.out.ext (tr E1 (tr E2 E3)).out) ((FT.out.ext E3.out).isIn rS) h1 (by omega)) ?_
 rintro e w4 ⟨ca, cb, rfl, hca, hcb, hx⟩
 have E4 : Hid (Ext w3 w4) := hx
 have Fca := zH hca
 have Fcb := zH hcb
 have Zca := hca.size
 have Oca := hca.one
 have Zcb := hcb.size
 have Ocb := hcb.one
 clear hca hcb
 clear hx
 refine ⟨_, rfl, ?_⟩
 (try simp only [Act.put, zA, zB, zC])
 refine pV (w' := w4) ?_
 (try simp only [Act.put, zA, zB, zC])
 refine pV (w' := w4) ?_
 (try simp only [Act.put, zA, zB, zC])
 refine pV (w' := w4) ?_
 (try simp only [Act.put, zA, zB, zC])
 obtain ⟨xq1, xq2, xq3, xq4, xq5⟩ := new_var2 w4 28 z32 ca cb (by rw [Zca]; rfl) (by rw [Zcb]; rfl)
 refine mv_val (v := .pointer (some ⟨w4.heap.size, 0, none⟩)) (w' := w4.alloc (.cells z32 28)) (by rfl) (by go_simp) ?_
 (try simp only [Act.put, zA, zB, zC])
 refine mv_val (v := .pointer (some ⟨(w4.alloc (.cells z32 28)).heap.size, 0, none⟩)) (w' := (w4.alloc (.cells z32 28)).alloc (.cells z32 28)) (by rfl) (by go_simp) ?_
 (try simp only [Act.put, zA, zB, zC])
 refine pO ca xq1 (by rw [Zca]; rfl) (by rw [Zca]; kernel_rfl) Oca ?_
 (try simp only [Act.put])
 refine pO cb xq2 (by rw [Zcb]; rfl) (by rw [Zcb]; kernel_rfl) Ocb ?_
 (try simp only [Act.put])
 clear xq1 xq2
 generalize (((w4.alloc (.cells z32 28)).alloc (.cells z32 28)).setCells w4.heap.size 0 ca.toList).setCells (w4.alloc (.cells z32 28)).heap.size 0 cb.toList = w5 at *
 generalize (w4.alloc (.cells z32 28)).heap.size = Y5 at *
 generalize w4.heap.size = X5 at *
 have E5 : Hid (Ext w4 w5) := xq3
 have FV6 := zH xq4
 have FV7 := zH xq5
 clear xq3 xq4 xq5
 go_upto_region 3 with fail
 refine wp_region_lit ?_
 refine mv_val (v := .pointer (some ⟨w5.heap.size, 0, none⟩)) (w' := (w5.alloc (.cells ([.bool false, .slice none 0 0, .bool false, .slice none 0 0, .bool false, .slice none 0 0, .bool false, .slice none 0 0, .bool false, .slice none 0 0, .bool false, .slice none 0 0, .bool false, .slice none 0 0, .bool false, .slice none 0 0, .bool false] : List Value).toArray 69))) (by rfl) (by go_simp) ?_
 (try simp only [Act.put, zA, zB, zC])
 have hbX : Blk (w5.alloc (.cells ([.bool false, .slice none 0 0, .bool false, .slice none 0 0, .bool false, .slice none 0 0, .bool false, .slice none 0 0, .bool false, .slice none 0 0, .bool false, .slice none 0 0, .bool false, .slice none 0 0, .bool false, .slice none 0 0, .bool false] : List Value).toArray 69)) w5.heap.size 69 ([.bool false, .slice none 0 0, .bool false, .slice none 0 0, .bool false, .slice none 0 0, .bool false, .slice none 0 0, .bool false, .slice none 0 0, .bool false, .slice none 0 0, .bool false, .slice none 0 0, .bool false, .slice none 0 0, .bool false] : List Value).toArray := Blk.new _ _ _
 have hxx : Ext w5 (w5.alloc (.cells ([.bool false, .slice none 0 0, .bool false, .slice none 0 0, .bool false, .slice none 0 0, .bool false, .slice none 0 0, .bool false, .slice none 0 0, .bool false, .slice none 0 0, .bool false, .slice none 0 0, .bool false, .slice none 0 0, .bool false] : List Value).toArray 69)) := (Ext.refl _).alloc _
 have gX : w.heap.size ≤ w5.heap.size := ((tr E1 (tr E2 (tr E3 (tr E4 E5)))).out).size
 have nV6_X : X5 ≠ w5.heap.size := Nat.ne_of_lt (Blk.lt FV6.out)
 have nV7_X : Y5 ≠ w5.heap.size := Nat.ne_of_lt (Blk.lt FV7.out)
 have nR0_X : R0 ≠ w5.heap.size := Nat.ne_of_lt (Blk.lt (FR0.out.ext (tr E2 (tr E3 (tr E4 E5))).out))
 have nR1_X : R1 ≠ w5.heap.size := Nat.ne_of_lt (Blk.lt (FR1.out.ext (tr E2 (tr E3 (tr E4 E5))).out))
 generalize (w5.alloc (.cells ([.bool false, .slice none 0 0, .bool false, .slice none 0 0, .bool false, .slice none 0 0, .bool false, .slice none 0 0, .bool false, .slice none 0 0, .bool false, .slice none 0 0, .bool false, .slice none 0 0, .bool false, .slice none 0 0, .bool false] : List Value).toArray 69)) = wX at *
 generalize w5.heap.size = X at *
 have E6 : Hid (Ext w5 wX) := hxx
 have FbX := zH hbX
 clear hxx hbX
 have TT := zH (show Own X wX wX from Own.refl _ _)
 have HEX := zH (tr E1 (tr E2 (tr E3 (tr E4 (tr E5 E6))))).out
 have GV6 := zH (FV6.out.ext E6.out)
 have GV7 := zH (FV7.out.ext E6.out)
 have GR0 := zH (FR0.out.ext (tr E2 (tr E3 (tr E4 (tr E5 E6)))).out)
 have GR1 := zH (FR1.out.ext (tr E2 (tr E3 (tr E4 (tr E5 E6)))).out)
 have Gca := zH (Fca.out.ext (tr E5 E6).out)
 have Gcb := zH (Fcb.out.ext (tr E5 E6).out)
 have GbX := zH FbX.out
 go_wp2_with fail
 refine wp_loop_rounds 5 ?_
 rw [rounds_succ]
 go_upto_region 7 with fail
 refine wp_region_lit ?_
 refine pV (w' := wX) ?_
 (try simp only [Act.put, zA, zB, zC])
 refine pV (w' := wX) ?_
 (try simp only [Act.put, zA, zB, zC])
 refine pP 0 8 GV6.out Tryz.underlying27 (by rw [Zca]; omega) ?_
 (try simp only [Act.put, zA, zB, zC])
 refine mv_call (by rfl) (by go_simp) (oPutFirst (L := 64 * L + 42) GbX.out Gca.out.p0 (by omega) (by omega) (by omega) (by omega)) ?_
 rintro e wp1 ⟨rfl, hb, ht⟩
 refine ⟨_, rfl, ?_⟩
 (try simp only [Act.put, zA, zB, zC])
 have rb1 : Nm.rl A0 ≤ 64 * L + 42 := by omega
 have rb2 : Nm.rl A1 ≤ 64 * L + 42 := by omega
 have rb3 : Nm.rl A0 ≤ 64 * L + 42 := by omega
 have rb4 : Nm.rl A1 ≤ 64 * L + 42 := by omega
 have TT' := zH (TT.out.trans ht.1)
 have KV6 := zH (ht.blk GV6.out nV6_X)
 have KV7 := zH (ht.blk GV7.out nV7_X)
 have KR0 := zH (ht.blk GR0.out nR0_X)
 have KR1 := zH (ht.blk GR1.out nR1_X)
 have Kca := zH (Gca.out.map ht.2)
 have Kcb := zH (Gcb.out.map ht.2)
 have KbX := zH hb
 clear hb ht TT GV6 GV7 GR0 GR1 Gca Gcb GbX
 have GV6 := KV6
 have GV7 := KV7
 have GR0 := KR0
 have GR1 := KR1
 have Gca := Kca
 have Gcb := Kcb
 have GbX := KbX
 have TT := TT'
 clear TT' KV6 KV7 KR0 KR1 Kca Kcb KbX
 go_upto_region 8 with fail
 refine wp_region_lit ?_
 refine pV (w' := wp1) ?_
 (try simp only [Act.put, zA, zB, zC])
 refine pV (w' := wp1) ?_
 (try simp only [Act.put, zA, zB, zC])
 refine pP 0 8 GV7.out Tryz.underlying27 (by rw [Zcb]; omega) ?_
 (try simp only [Act.put, zA, zB, zC])
 refine mv_call (by rfl) (by go_simp) (oPutMore (L := 64 * L + 42) GbX.out Gcb.out.p0 (by omega) (by omega) rb1 rb2 rb3 rb4 (by omega) (by omega)) ?_
 rintro e wp2 ⟨rfl, hb, ht⟩
 refine ⟨_, rfl, ?_⟩
 (try simp only [Act.put, zA, zB, zC])
 have rc1 := rl_lower (q := (lerpV (lerpV (lerpV A0 B0 ((1 : Rat) / 2)) (lerpV B0 C0 ((1 : Rat) / 2)) ((1 : Rat) / 2)) (lerpV (lerpV B0 C0 ((1 : Rat) / 2)) (lerpV C0 D0 ((1 : Rat) / 2)) ((1 : Rat) / 2)) ((1 : Rat) / 2))) (L := 64 * L + 42) (by omega) rb1
 have rc2 := rl_lower (q := (lerpV (lerpV (lerpV A1 B1 ((1 : Rat) / 2)) (lerpV B1 C1 ((1 : Rat) / 2)) ((1 : Rat) / 2)) (lerpV (lerpV B1 C1 ((1 : Rat) / 2)) (lerpV C1 D1 ((1 : Rat) / 2)) ((1 : Rat) / 2)) ((1 : Rat) / 2))) (L := 64 * L + 42) (by omega) rb2
 have rc3 := rl_upper (q := (lerpV (lerpV (lerpV A0 B0 ((1 : Rat) / 2)) (lerpV B0 C0 ((1 : Rat) / 2)) ((1 : Rat) / 2)) (lerpV (lerpV B0 C0 ((1 : Rat) / 2)) (lerpV C0 D0 ((1 : Rat) / 2)) ((1 : Rat) / 2)) ((1 : Rat) / 2))) (L := 64 * L + 42) (by omega) rb3
 have rc4 := rl_upper (q := (lerpV (lerpV (lerpV A1 B1 ((1 : Rat) / 2)) (lerpV B1 C1 ((1 : Rat) / 2)) ((1 : Rat) / 2)) (lerpV (lerpV B1 C1 ((1 : Rat) / 2)) (lerpV C1 D1 ((1 : Rat) / 2)) ((1 : Rat) / 2)) ((1 : Rat) / 2))) (L := 64 * L + 42) (by omega) rb4
 clear rb1 rb2 rb3 rb4
 have rb1 := rc1
 have rb2 := rc2
 have rb3 := rc3
 have rb4 := rc4
 clear rc1 rc2 rc3 rc4
 have TT' := zH (TT.out.trans ht.1)
 have KV6 := zH (ht.blk GV6.out nV6_X)
 have KV7 := zH (ht.blk GV7.out nV7_X)
 have KR0 := zH (ht.blk GR0.out nR0_X)
 have KR1 := zH (ht.blk GR1.out nR1_X)
 have Kca := zH (Gca.out.map ht.2)
 have Kcb := zH (Gcb.out.map ht.2)
 have KbX := zH hb
 clear hb ht TT GV6 GV7 GR0 GR1 Gca Gcb GbX
 have GV6 := KV6
 have GV7 := KV7
 have GR0 := KR0
 have GR1 := KR1
 have Gca := Kca
 have Gcb := Kcb
 have GbX := KbX
 have TT := TT'
 clear TT' KV6 KV7 KR0 KR1 Kca Kcb KbX
 go_wp2_with fail
 rw [rounds_succ]
 go_upto_region 7 with fail
 refine wp_region_lit ?_
 refine pV (w' := wp2) ?_
 (try simp only [Act.put, zA, zB, zC])
 refine pV (w' := wp2) ?_
 (try simp only [Act.put, zA, zB, zC])
 refine pP 8 8 GV6.out Tryz.underlying27 (by rw [Zca]; omega) ?_
 (try simp only [Act.put, zA, zB, zC])
 refine mv_call (by rfl) (by go_simp) (oPutMore (L := 64 * L + 42) GbX.out Gca.out.p1 (by omega) (by omega) rb1 rb2 rb3 rb4 (by omega) (by omega)) ?_
 rintro e wp3 ⟨rfl, hb, ht⟩
 refine ⟨_, rfl, ?_⟩
 (try simp only [Act.put, zA, zB, zC])
 have rc1 := rl_lower (q := (lerpV A0 B0 ((1 : Rat) / 2))) (L := 64 * L + 42) (by omega) rb1
 have rc2 := rl_lower (q := (lerpV A1 B1 ((1 : Rat) / 2))) (L := 64 * L + 42) (by omega) rb2
 have rc3 := rl_upper (q := (lerpV A0 B0 ((1 : Rat) / 2))) (L := 64 * L + 42) (by omega) rb3
 have rc4 := rl_upper (q := (lerpV A1 B1 ((1 : Rat) / 2))) (L := 64 * L + 42) (by omega) rb4
 clear rb1 rb2 rb3 rb4
 have rb1 := rc1
 have rb2 := rc2
 have rb3 := rc3
 have rb4 := rc4
 clear rc1 rc2 rc3 rc4
 have TT' := zH (TT.out.trans ht.1)
 have KV6 := zH (ht.blk GV6.out nV6_X)
 have KV7 := zH (ht.blk GV7.out nV7_X)
 have KR0 := zH (ht.blk GR0.out nR0_X)
 have KR1 := zH (ht.blk GR1.out nR1_X)
 have Kca := zH (Gca.out.map ht.2)
 have Kcb := zH (Gcb.out.map ht.2)
 have KbX := zH hb
 clear hb ht TT GV6 GV7 GR0 GR1 Gca Gcb GbX
 have GV6 := KV6
 have GV7 := KV7
 have GR0 := KR0
 have GR1 := KR1
 have Gca := Kca
 have Gcb := Kcb
 have GbX := KbX
 have TT := TT'
 clear TT' KV6 KV7 KR0 KR1 Kca Kcb KbX
 go_upto_region 8 with fail
 refine wp_region_lit ?_
 refine pV (w' := wp3) ?_
 (try simp only [Act.put, zA, zB, zC])
 refine pV (w' := wp3) ?_
 (try simp only [Act.put, zA, zB, zC])
 refine pP 8 8 GV7.out Tryz.underlying27 (by rw [Zcb]; omega) ?_
 (try simp only [Act.put, zA, zB, zC])
 refine mv_call (by rfl) (by go_simp) (oPutMore (L := 64 * L + 42) GbX.out Gcb.out.p1 (by omega) (by omega) rb1 rb2 rb3 rb4 (by omega) (by omega)) ?_
 rintro e wp4 ⟨rfl, hb, ht⟩
 refine ⟨_, rfl, ?_⟩
 (try simp only [Act.put, zA, zB, zC])
 have rc1 := rl_lower (q := (lerpV (lerpV B0 C0 ((1 : Rat) / 2)) (lerpV C0 D0 ((1 : Rat) / 2)) ((1 : Rat) / 2))) (L := 64 * L + 42) (by omega) rb1
 have rc2 := rl_lower (q := (lerpV (lerpV B1 C1 ((1 : Rat) / 2)) (lerpV C1 D1 ((1 : Rat) / 2)) ((1 : Rat) / 2))) (L := 64 * L + 42) (by omega) rb2
 have rc3 := rl_upper (q := (lerpV (lerpV B0 C0 ((1 : Rat) / 2)) (lerpV C0 D0 ((1 : Rat) / 2)) ((1 : Rat) / 2))) (L := 64 * L + 42) (by omega) rb3
 have rc4 := rl_upper (q := (lerpV (lerpV B1 C1 ((1 : Rat) / 2)) (lerpV C1 D1 ((1 : Rat) / 2)) ((1 : Rat) / 2))) (L := 64 * L + 42) (by omega) rb4
 clear rb1 rb2 rb3 rb4
 have rb1 := rc1
 have rb2 := rc2
 have rb3 := rc3
 have rb4 := rc4
 clear rc1 rc2 rc3 rc4
 have TT' := zH (TT.out.trans ht.1)
 have KV6 := zH (ht.blk GV6.out nV6_X)
 have KV7 := zH (ht.blk GV7.out nV7_X)
 have KR0 := zH (ht.blk GR0.out nR0_X)
 have KR1 := zH (ht.blk GR1.out nR1_X)
 have Kca := zH (Gca.out.map ht.2)
 have Kcb := zH (Gcb.out.map ht.2)
 have KbX := zH hb
 clear hb ht TT GV6 GV7 GR0 GR1 Gca Gcb GbX
 have GV6 := KV6
 have GV7 := KV7
 have GR0 := KR0
 have GR1 := KR1
 have Gca := Kca
 have Gcb := Kcb
 have GbX := KbX
 have TT := TT'
 clear TT' KV6 KV7 KR0 KR1 Kca Kcb KbX
 go_wp2_with fail
 rw [rounds_succ]
 go_upto_region 7 with fail
 refine wp_region_lit ?_
 refine pV (w' := wp4) ?_
 (try simp only [Act.put, zA, zB, zC])
 refine pV (w' := wp4) ?_
 (try simp only [Act.put, zA, zB, zC])
 refine pP 16 8 GV6.out Tryz.underlying27 (by rw [Zca]; omega) ?_
 (try simp only [Act.put, zA, zB, zC])
 refine mv_call (by rfl) (by go_simp) (oPutMore (L := 64 * L + 42) GbX.out Gca.out.p2 (by omega) (by omega) rb1 rb2 rb3 rb4 (by omega) (by omega)) ?_
 rintro e wp5 ⟨rfl, hb, ht⟩
 refine ⟨_, rfl, ?_⟩
 (try simp only [Act.put, zA, zB, zC])
 have rc1 := rl_lower (q := (lerpV (lerpV A0 B0 ((1 : Rat) / 2)) (lerpV B0 C0 ((1 : Rat) / 2)) ((1 : Rat) / 2))) (L := 64 * L + 42) (by omega) rb1
 have rc2 := rl_lower (q := (lerpV (lerpV A1 B1 ((1 : Rat) / 2)) (lerpV B1 C1 ((1 : Rat) / 2)) ((1 : Rat) / 2))) (L := 64 * L + 42) (by omega) rb2
 have rc3 := rl_upper (q := (lerpV (lerpV A0 B0 ((1 : Rat) / 2)) (lerpV B0 C0 ((1 : Rat) / 2)) ((1 : Rat) / 2))) (L := 64 * L + 42) (by omega) rb3
 have rc4 := rl_upper (q := (lerpV (lerpV A1 B1 ((1 : Rat) / 2)) (lerpV B1 C1 ((1 : Rat) / 2)) ((1 : Rat) / 2))) (L := 64 * L + 42) (by omega) rb4
 clear rb1 rb2 rb3 rb4
 have rb1 := rc1
 have rb2 := rc2
 have rb3 := rc3
 have rb4 := rc4
 clear rc1 rc2 rc3 rc4
 have TT' := zH (TT.out.trans ht.1)
 have KV6 := zH (ht.blk GV6.out nV6_X)
 have KV7 := zH (ht.blk GV7.out nV7_X)
 have KR0 := zH (ht.blk GR0.out nR0_X)
 have KR1 := zH (ht.blk GR1.out nR1_X)
 have Kca := zH (Gca.out.map ht.2)
 have Kcb := zH (Gcb.out.map ht.2)
 have KbX := zH hb
 clear hb ht TT GV6 GV7 GR0 GR1 Gca Gcb GbX
 have GV6 := KV6
 have GV7 := KV7
 have GR0 := KR0
 have GR1 := KR1
 have Gca := Kca
 have Gcb := Kcb
 have GbX := KbX
 have TT := TT'
 clear TT' KV6 KV7 KR0 KR1 Kca Kcb KbX
 go_upto_region 8 with fail
 refine wp_region_lit ?_
 refine pV (w' := wp5) ?_
 (try simp only [Act.put, zA, zB, zC])
 refine pV (w' := wp5) ?_
 (try simp only [Act.put, zA, zB, zC])
 refine pP 16 8 GV7.out Tryz.underlying27 (by rw [Zcb]; omega) ?_
 (try simp only [Act.put, zA, zB, zC])
 refine mv_call (by rfl) (by go_simp) (oPutMore (L := 64 * L + 42) GbX.out Gcb.out.p2 (by omega) (by omega) rb1 rb2 rb3 rb4 (by omega) (by omega)) ?_
 rintro e wp6 ⟨rfl, hb, ht⟩
 refine ⟨_, rfl, ?_⟩
 (try simp only [Act.put, zA, zB, zC])
 have rc1 := rl_lower (q := (lerpV C0 D0 ((1 : Rat) / 2))) (L := 64 * L + 42) (by omega) rb1
 have rc2 := rl_lower (q := (lerpV C1 D1 ((1 : Rat) / 2))) (L := 64 * L + 42) (by omega) rb2
 have rc3 := rl_upper (q := (lerpV C0 D0 ((1 : Rat) / 2))) (L := 64 * L + 42) (by omega) rb3
 have rc4 := rl_upper (q := (lerpV C1 D1 ((1 : Rat) / 2))) (L := 64 * L + 42) (by omega) rb4
 clear rb1 rb2 rb3 rb4
 have rb1 := rc1
 have rb2 := rc2
 have rb3 := rc3
 have rb4 := rc4
 clear rc1 rc2 rc3 rc4
 have TT' := zH (TT.out.trans ht.1)
 have KV6 := zH (ht.blk GV6.out nV6_X)
 have KV7 := zH (ht.blk GV7.out nV7_X)
 have KR0 := zH (ht.blk GR0.out nR0_X)
 have KR1 := zH (ht.blk GR1.out nR1_X)
 have Kca := zH (Gca.out.map ht.2)
 have Kcb := zH (Gcb.out.map ht.2)
 have KbX := zH hb
 clear hb ht TT GV6 GV7 GR0 GR1 Gca Gcb GbX
 have GV6 := KV6
 have GV7 := KV7
 have GR0 := KR0
 have GR1 := KR1
 have Gca := Kca
 have Gcb := Kcb
 have GbX := KbX
 have TT := TT'
 clear TT' KV6 KV7 KR0 KR1 Kca Kcb KbX
 go_wp2_with fail
 rw [rounds_succ]
 go_upto_region 7 with fail
 refine wp_region_lit ?_
 refine pV (w' := wp6) ?_
 (try simp only [Act.put, zA, zB, zC])
 refine pV (w' := wp6) ?_
 (try simp only [Act.put, zA, zB, zC])
 refine pP 24 8 GV6.out Tryz.underlying27 (by rw [Zca]; omega) ?_
 (try simp only [Act.put, zA, zB, zC])
 refine mv_call (by rfl) (by go_simp) (oPutMore (L := 64 * L + 42) GbX.out Gca.out.p3 (by omega) (by omega) rb1 rb2 rb3 rb4 (by omega) (by omega)) ?_
 rintro e wp7 ⟨rfl, hb, ht⟩
 refine ⟨_, rfl, ?_⟩
 (try simp only [Act.put, zA, zB, zC])
 have rc1 := rl_lower (q := (lerpV (lerpV (lerpV A0 B0 ((1 : Rat) / 2)) (lerpV B0 C0 ((1 : Rat) / 2)) ((1 : Rat) / 2)) (lerpV (lerpV B0 C0 ((1 : Rat) / 2)) (lerpV C0 D0 ((1 : Rat) / 2)) ((1 : Rat) / 2)) ((1 : Rat) / 2))) (L := 64 * L + 42) (by omega) rb1
 have rc2 := rl_lower (q := (lerpV (lerpV (lerpV A1 B1 ((1 : Rat) / 2)) (lerpV B1 C1 ((1 : Rat) / 2)) ((1 : Rat) / 2)) (lerpV (lerpV B1 C1 ((1 : Rat) / 2)) (lerpV C1 D1 ((1 : Rat) / 2)) ((1 : Rat) / 2)) ((1 : Rat) / 2))) (L := 64 * L + 42) (by omega) rb2
 have rc3 := rl_upper (q := (lerpV (lerpV (lerpV A0 B0 ((1 : Rat) / 2)) (lerpV B0 C0 ((1 : Rat) / 2)) ((1 : Rat) / 2)) (lerpV (lerpV B0 C0 ((1 : Rat) / 2)) (lerpV C0 D0 ((1 : Rat) / 2)) ((1 : Rat) / 2)) ((1 : Rat) / 2))) (L := 64 * L + 42) (by omega) rb3
 have rc4 := rl_upper (q := (lerpV (lerpV (lerpV A1 B1 ((1 : Rat) / 2)) (lerpV B1 C1 ((1 : Rat) / 2)) ((1 : Rat) / 2)) (lerpV (lerpV B1 C1 ((1 : Rat) / 2)) (lerpV C1 D1 ((1 : Rat) / 2)) ((1 : Rat) / 2)) ((1 : Rat) / 2))) (L := 64 * L + 42) (by omega) rb4
 clear rb1 rb2 rb3 rb4
 have rb1 := rc1
 have rb2 := rc2
 have rb3 := rc3
 have rb4 := rc4
 clear rc1 rc2 rc3 rc4
 have TT' := zH (TT.out.trans ht.1)
 have KV6 := zH (ht.blk GV6.out nV6_X)
 have KV7 := zH (ht.blk GV7.out nV7_X)
 have KR0 := zH (ht.blk GR0.out nR0_X)
 have KR1 := zH (ht.blk GR1.out nR1_X)
 have Kca := zH (Gca.out.map ht.2)
 have Kcb := zH (Gcb.out.map ht.2)
 have KbX := zH hb
 clear hb ht TT GV6 GV7 GR0 GR1 Gca Gcb GbX
 have GV6 := KV6
 have GV7 := KV7
 have GR0 := KR0
 have GR1 := KR1
 have Gca := Kca
 have Gcb := Kcb
 have GbX := KbX
 have TT := TT'
 clear TT' KV6 KV7 KR0 KR1 Kca Kcb KbX
 go_upto_region 8 with fail
 refine wp_region_lit ?_
 refine pV (w' := wp7) ?_
 (try simp only [Act.put, zA, zB, zC])
 refine pV (w' := wp7) ?_
 (try simp only [Act.put, zA, zB, zC])
 refine pP 24 8 GV7.out Tryz.underlying27 (by rw [Zcb]; omega) ?_
 (try simp only [Act.put, zA, zB, zC])
 refine mv_call (by rfl) (by go_simp) (oPutMore (L := 64 * L + 42) GbX.out Gcb.out.p3 (by omega) (by omega) rb1 rb2 rb3 rb4 (by omega) (by omega)) ?_
 rintro e wp8 ⟨rfl, hb, ht⟩
 refine ⟨_, rfl, ?_⟩
 (try simp only [Act.put, zA, zB, zC])
 have rc1 := rl_lower (q := D0) (L := 64 * L + 42) (by omega) rb1
 have rc2 := rl_lower (q := D1) (L := 64 * L + 42) (by omega) rb2
 have rc3 := rl_upper (q := D0) (L := 64 * L + 42) (by omega) rb3
 have rc4 := rl_upper (q := D1) (L := 64 * L + 42) (by omega) rb4
 clear rb1 rb2 rb3 rb4
 have rb1 := rc1
 have rb2 := rc2
 have rb3 := rc3
 have rb4 := rc4
 clear rc1 rc2 rc3 rc4
 have TT' := zH (TT.out.trans ht.1)
 have KV6 := zH (ht.blk GV6.out nV6_X)
 have KV7 := zH (ht.blk GV7.out nV7_X)
 have KR0 := zH (ht.blk GR0.out nR0_X)
 have KR1 := zH (ht.blk GR1.out nR1_X)
 have Kca := zH (Gca.out.map ht.2)
 have Kcb := zH (Gcb.out.map ht.2)
 have KbX := zH hb
 clear hb ht TT GV6 GV7 GR0 GR1 Gca Gcb GbX
 have GV6 := KV6
 have GV7 := KV7
 have GR0 := KR0
 have GR1 := KR1
 have Gca := Kca
 have Gcb := Kcb
 have GbX := KbX
 have TT := TT'
 clear TT' KV6 KV7 KR0 KR1 Kca Kcb KbX
 go_wp2_with fail
 rw [rounds_succ]
 go_upto_region 10 with fail
 obtain ⟨za, zb, zc, zd, kX, ia, ib, ic, id_⟩ := GbX.out
 have hEE : Ext w wp8 := TT.out.ext HEX.out gX
 clear GbX rb1 rb2 rb3 rb4
 have E1 : Hid (Ext w wp8) := hEE
 have FR0 := zH GR0.out
 have FR1 := zH GR1.out
 have FbX := zH kX
 have Fza := zH ia
 have Fzb := zH ib
 have Fzc := zH ic
 have Fzd := zH id_
 have nbX_R0 := nR0_X.symm
 have nbX_R1 := nR1_X.symm
 clear kX ia ib ic id_ hEE
 refine wp_region_held_drew (S := fun x => Own2 R0 R1 wp8 x) (by kernel_rfl) (Own2.of_ext (Ext.refl _).drew) (fun _ => ?_)
 have E2 := zH (show Ext wp8 wp8.drew from (Ext.refl _).drew)
 refine mV 0 (bs 6 1) (Own2.of_ext E2.out) ?_
 refine mR 1 (bs 6 3) X 0 [.bool za.n, .slice za.p za.l za.c, .bool za.m, .slice za.p2 za.l2 za.c2, .bool zb.n, .slice zb.p zb.l zb.c, .bool zb.m, .slice zb.p2 zb.l2 zb.c2] (fun x hx => ((FbX.out).own2 hx nbX_R0 nbX_R1).part 0 8) Tryz.underlying27 (Own2.of_ext E2.out) ?_
 (try simp only [Act.put, zA, zB, zC])
 refine mV 2 (bs 6 7) (Own2.of_ext E2.out) ?_
 refine mR 3 (bs 6 15) X 8 [.bool zc.n, .slice zc.p zc.l zc.c, .bool zc.m, .slice zc.p2 zc.l2 zc.c2, .bool zd.n, .slice zd.p zd.l zd.c, .bool zd.m, .slice zd.p2 zd.l2 zd.c2] (fun x hx => ((FbX.out).own2 hx nbX_R0 nbX_R1).part 8 8) Tryz.underlying27 (Own2.of_ext E2.out) ?_
 (try simp only [Act.put, zA, zB, zC])
 have o1 := Own.setCells wp8.drew R0 #[.bool za.n, .slice za.p za.l za.c, .bool za.m, .slice za.p2 za.l2 za.c2, .bool zb.n, .slice zb.p zb.l zb.c, .bool zb.m, .slice zb.p2 zb.l2 zb.c2]
 have kb1 := (FR0.out.ext E2.out)
 have hs1 : Own2 R0 R1 wp8 (wp8.drew.setCells R0 0 (#[.bool za.n, .slice za.p za.l za.c, .bool za.m, .slice za.p2 za.l2 za.c2, .bool zb.n, .slice zb.p zb.l zb.c, .bool zb.m, .slice zb.p2 zb.l2 zb.c2] : Array Value).toList) := (Own2.one (Own.then_ext' E2.out o1))
 refine mO 4 (bs 6 31) #[.bool za.n, .slice za.p za.l za.c, .bool za.m, .slice za.p2 za.l2 za.c2, .bool zb.n, .slice zb.p zb.l zb.c, .bool zb.m, .slice zb.p2 zb.l2 zb.c2] kb1 (by rw [show (#[.bool za.n, .slice za.p za.l za.c, .bool za.m, .slice za.p2 za.l2 za.c2, .bool zb.n, .slice zb.p zb.l zb.c, .bool zb.m, .slice zb.p2 zb.l2 zb.c2] : Array Value).size = 8 from rfl]; rfl) (by rw [show (#[.bool za.n, .slice za.p za.l za.c, .bool za.m, .slice za.p2 za.l2 za.c2, .bool zb.n, .slice zb.p zb.l zb.c, .bool zb.m, .slice zb.p2 zb.l2 zb.c2] : Array Value).size = 8 from rfl]; kernel_rfl) (all_oneCell_toArray (by simp [Value.oneCell'])) hs1 ?_
 (try simp only [Act.put])
 have kc1 := kb1.setCells #[.bool za.n, .slice za.p za.l za.c, .bool za.m, .slice za.p2 za.l2 za.c2, .bool zb.n, .slice zb.p zb.l zb.c, .bool zb.m, .slice zb.p2 zb.l2 zb.c2] (by rw [show (#[.bool za.n, .slice za.p za.l za.c, .bool za.m, .slice za.p2 za.l2 za.c2, .bool zb.n, .slice zb.p zb.l zb.c, .bool zb.m, .slice zb.p2 zb.l2 zb.c2] : Array Value).size = 8 from rfl]; rfl)
 have o2 := Own.setCells (wp8.drew.setCells R0 0 (#[.bool za.n, .slice za.p za.l za.c, .bool za.m, .slice za.p2 za.l2 za.c2, .bool zb.n, .slice zb.p zb.l zb.c, .bool zb.m, .slice zb.p2 zb.l2 zb.c2] : Array Value).toList) R1 #[.bool zc.n, .slice zc.p zc.l zc.c, .bool zc.m, .slice zc.p2 zc.l2 zc.c2, .bool zd.n, .slice zd.p zd.l zd.c, .bool zd.m, .slice zd.p2 zd.l2 zd.c2]
 have kb2 := ((FR1.out.ext E2.out)).own o1 nR1_R0
 have hs2 : Own2 R0 R1 wp8 ((wp8.drew.setCells R0 0 (#[.bool za.n, .slice za.p za.l za.c, .bool za.m, .slice za.p2 za.l2 za.c2, .bool zb.n, .slice zb.p zb.l zb.c, .bool zb.m, .slice zb.p2 zb.l2 zb.c2] : Array Value).toList).setCells R1 0 (#[.bool zc.n, .slice zc.p zc.l zc.c, .bool zc.m, .slice zc.p2 zc.l2 zc.c2, .bool zd.n, .slice zd.p zd.l zd.c, .bool zd.m, .slice zd.p2 zd.l2 zd.c2] : Array Value).toList) := ⟨_, Own.then_ext' E2.out o1, o2⟩
 refine mO 5 (bs 6 63) #[.bool zc.n, .slice zc.p zc.l zc.c, .bool zc.m, .slice zc.p2 zc.l2 zc.c2, .bool zd.n, .slice zd.p zd.l zd.c, .bool zd.m, .slice zd.p2 zd.l2 zd.c2] kb2 (by rw [show (#[.bool zc.n, .slice zc.p zc.l zc.c, .bool zc.m, .slice zc.p2 zc.l2 zc.c2, .bool zd.n, .slice zd.p zd.l zd.c, .bool zd.m, .slice zd.p2 zd.l2 zd.c2] : Array Value).size = 8 from rfl]; rfl) (by rw [show (#[.bool zc.n, .slice zc.p zc.l zc.c, .bool zc.m, .slice zc.p2 zc.l2 zc.c2, .bool zd.n, .slice zd.p zd.l zd.c, .bool zd.m, .slice zd.p2 zd.l2 zd.c2] : Array Value).size = 8 from rfl]; kernel_rfl) (all_oneCell_toArray (by simp [Value.oneCell'])) hs2 ?_
 (try simp only [Act.put])
 have kc2 := kb2.setCells #[.bool zc.n, .slice zc.p zc.l zc.c, .bool zc.m, .slice zc.p2 zc.l2 zc.c2, .bool zd.n, .slice zd.p zd.l zd.c, .bool zd.m, .slice zd.p2 zd.l2 zd.c2] (by rw [show (#[.bool zc.n, .slice zc.p zc.l zc.c, .bool zc.m, .slice zc.p2 zc.l2 zc.c2, .bool zd.n, .slice zd.p zd.l zd.c, .bool zd.m, .slice zd.p2 zd.l2 zd.c2] : Array Value).size = 8 from rfl]; rfl)
 refine wpAnyH_done (by kernel_rfl) ?_ _
 go_wp2_with fail
 have kd1 := kc1.own o2 nR0_R1
 refine bodyPost_ret (v := .tuple #[.agg #[.bool za.n, .slice za.p za.l za.c, .bool za.m, .slice za.p2 za.l2 za.c2, .bool zb.n, .slice zb.p zb.l zb.c, .bool zb.m, .slice zb.p2 zb.l2 zb.c2], .agg #[.bool zc.n, .slice zc.p zc.l zc.c, .bool zc.m, .slice zc.p2 zc.l2 zc.c2, .bool zd.n, .slice zd.p zd.l zd.c, .bool zd.m, .slice zd.p2 zd.l2 zd.c2]]) ?_ rfl ⟨_, _, rfl, ⟨za, zb, rfl, (((Fza.out.ext E2.out).own kb1 (noU_of _ (by simp)) o1).own kb2 (noU_of _ (by simp)) o2), (((Fzb.out.ext E2.out).own kb1 (noU_of _ (by simp)) o1).own kb2 (noU_of _ (by simp)) o2)⟩, ⟨zc, zd, rfl, (((Fzc.out.ext E2.out).own kb1 (noU_of _ (by simp)) o1).own kb2 (noU_of _ (by simp)) o2), (((Fzd.out.ext E2.out).own kb1 (noU_of _ (by simp)) o1).own kb2 (noU_of _ (by simp)) o2)⟩, (o2.ext (o1.ext (tr E1 E2).out gR0) gR1)⟩
 exact results_cell2 rfl rfl rfl (kd1.loadVar rfl rfl rfl) (kc2.loadVar rfl rfl rfl)

end Go.Proofs.YtllpkoinjompcaaGreat

namespace Go.Proofs.YtllpkoinjompcaaGreat
open Go.RowKit

theorem NIs.map {w w' : World} {cs : Array Value} {q : Rat} (h : NIs w cs q) (x : ∀ (r : RV) (q : Rat), r.Is w q → r.Is w' q) : NIs w' cs q := by obtain ⟨a, e, h⟩ := h; exact ⟨a, e, x _ _ h⟩
theorem NIn.one {L : Nat} {w : World} {cs : Array Value} {q : Rat} (h : NIn L w cs q) : cs.all (·.oneCell') = true := by obtain ⟨a, rfl, _⟩ := h; exact all_oneCell_toArray (by simp [Value.oneCell'])
theorem pAdd {L : Nat} {w : World} {cs ct : Array Value} {q r : Rat} (hp : NIn L w cs q) (hq : NIn L w ct r) (hL : L ≤ 70000) :
    Calls Tryz.prog 45 #[.agg cs, .agg ct] w fun e w' => ∃ c, e = .returned (.agg c) ∧ NIs w' c (q + r) ∧ Ext w w' := by
  obtain ⟨a, rfl, h1⟩ := hp
  obtain ⟨b, rfl, h2⟩ := hq
  refine (xadd h1 h2 hL).mono fun e w' h => ?_
  obtain ⟨c, rfl, h3, h4⟩ := h
  exact ⟨_, rfl, ⟨c, rfl, h3⟩, h4⟩
theorem pSub {L : Nat} {w : World} {cs ct : Array Value} {q r : Rat} (hp : NIn L w cs q) (hq : NIn L w ct r) (hL : L ≤ 70000) :
    Calls Tryz.prog 43 #[.agg cs, .agg ct] w fun e w' => ∃ c, e = .returned (.agg c) ∧ NIs w' c (q - r) ∧ Ext w w' := by
  obtain ⟨a, rfl, h1⟩ := hp
  obtain ⟨b, rfl, h2⟩ := hq
  refine (xsub h1 h2 hL).mono fun e w' h => ?_
  obtain ⟨c, rfl, h3, h4⟩ := h
  exact ⟨_, rfl, ⟨c, rfl, h3⟩, h4⟩
theorem pCmp {L : Nat} {w : World} {cs ct : Array Value} {q r : Rat} (hp : NIn L w cs q) (hq : NIn L w ct r) (hL : L ≤ 70000) :
    Calls Tryz.prog 46 #[.agg cs, .agg ct] w fun e w' => e = .returned (.int .i64 (rcmp q r)) ∧ Ext w w' := by
  obtain ⟨a, rfl, h1⟩ := hp
  obtain ⟨b, rfl, h2⟩ := hq
  exact xcmp h1 h2 hL
theorem pCmpS {L : Nat} {w : World} {cs ct : Array Value} {q r : Rat} {s : Int} (hs : s = rcmp q r) (hp : NIn L w cs q) (hq : NIn L w ct r) (hL : L ≤ 70000) :
    Calls Tryz.prog 46 #[.agg cs, .agg ct] w fun e w' => e = .returned (.int .i64 s) ∧ Ext w w' := by
  subst hs
  exact pCmp hp hq hL
theorem pFrom (a : Int) (w : World) (h1 : -9223372036854775808 ≤ a) (h2 : a ≤ 9223372036854775807) :
    Calls Tryz.prog 42 #[.int .i64 a] w fun e w' => ∃ c, e = .returned (.agg c) ∧ NIs w' c (a : Rat) ∧ Ext w w' := by
  refine (rfromInt_any a w h1 h2).mono fun e w' h => ?_
  obtain ⟨c, rfl, h3, h4⟩ := RetR.v h
  exact ⟨_, rfl, ⟨c, rfl, h3⟩, h4⟩
theorem pQuo {L : Nat} {w : World} {cs ct : Array Value} {q r : Rat} (hp : NIn L w cs q) (hq : NIn L w ct r) (hL : L ≤ 70000) (hr : r ≠ 0) :
    Calls Tryz.prog 44 #[.agg cs, .agg ct] w fun e w' => ∃ c, e = .returned (.tuple #[.agg c, .int .i64 0]) ∧ NIs w' c (q / r) ∧ Ext w w' := by
  obtain ⟨a, rfl, h1⟩ := hp
  obtain ⟨b, rfl, h2⟩ := hq
  refine (rquo_any _ _ _ _ _ _ _ _ L q r w h1 h2 hL hr).mono fun e w' h => ?_
  obtain ⟨c, rfl, h3, h4⟩ := RetRE.v h
  exact ⟨_, rfl, ⟨c, rfl, h3⟩, h4⟩
theorem pQuo0 {L : Nat} {w : World} {cs ct : Array Value} {q r : Rat} (hp : NIn L w cs q) (hq : NIn L w ct r) (hL : L ≤ 70000) (hr : r = 0) :
    Calls Tryz.prog 44 #[.agg cs, .agg ct] w fun e w' => e = .returned (.tuple #[.agg z4, .int .i64 9]) ∧ Ext w w' := by
  obtain ⟨a, rfl, h1⟩ := hp
  obtain ⟨b, rfl, h2⟩ := hq
  exact rquo_zero _ _ _ _ _ _ _ _ L q r w h1 h2 hL hr
end Go.Proofs.YtllpkoinjompcaaGreat

namespace Go.Proofs.YtllpkoinjompcaaGreat

def qTop (a b c : Rat) : Rat := (a - b) / ((a - b) + (c - b))
def quadLo (a b c : Rat) : Rat := if 0 < qTop a b c ∧ qTop a b c < 1 then lower (quadV a b c (qTop a b c)) (lower c a) else lower c a
def quadHi (a b c : Rat) : Rat := if 0 < qTop a b c ∧ qTop a b c < 1 then upper (quadV a b c (qTop a b c)) (upper c a) else upper c a
end Go.Proofs.YtllpkoinjompcaaGreat
