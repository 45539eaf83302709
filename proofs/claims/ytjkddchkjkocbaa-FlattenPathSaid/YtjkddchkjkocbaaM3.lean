/- Contracts that the claim stands on: XSub to XOpenS. -/
import Derived.OwnWalk
import Derived.Test.YtjkddchkjkocbaaRows
import Derived.ProofKit
import Derived.OpenShut
import Derived.Below
import Derived.Deep.Slices
import Derived.Lib.SmallJoins
import Derived.Test.YtjkddchkjkocbaaM2
namespace Go.Proofs.Ytjkddchkjkocbaa
open Go.RowKit
attribute [local go_sem ↓] Go.wp_at_zero Go.wp_at_succ run_eql_point run_neq_point run_max_ii run_min_ii

def Adj (l : List (Int × Int)) : Prop := ∀ i, i + 1 < l.length → l.getD i (0, 0) ≠ l.getD (i + 1) (0, 0)
theorem Adj.one (x : Int × Int) : Adj [x] := fun i h => by simp at h
theorem Adj.put1 {l : List (Int × Int)} (h : Adj l) (x : Int × Int) : Adj (put1 l x) := by
  unfold Go.Proofs.Ytjkddchkjkocbaa.put1
  split
  · exact h
  · rename_i hx
    intro i hi
    rw [List.length_append] at hi
    simp at hi
    by_cases h1 : i + 1 < l.length
    · have := h i h1
      simp only [List.getD_eq_getElem?_getD] at this ⊢
      rw [List.getElem?_append_left (by omega), List.getElem?_append_left h1]
      exact this
    · have h2 : i = l.length - 1 := by omega
      rw [getLastD_get] at hx
      simp only [List.getD_eq_getElem?_getD] at hx ⊢
      rw [List.getElem?_append_left (by omega), List.getElem?_append_right (by omega), show i + 1 - l.length = 0 by omega, h2]
      exact hx
theorem Adj.putV {l more : List (Int × Int)} (h : Adj l) : Adj (putV l more) := by
  unfold Go.Proofs.Ytjkddchkjkocbaa.putV
  induction more generalizing l with
  | nil => exact h
  | cons y ys ih => exact ih (h.put1 y)
theorem Adj.drop {l : List (Int × Int)} (h : Adj l) : Adj l.dropLast := by
  intro i hi
  rw [List.length_dropLast] at hi
  have := h i (by omega)
  simp only [List.getD_eq_getElem?_getD, List.getElem?_dropLast] at this ⊢
  rw [if_pos (by omega), if_pos (by omega)]
  exact this
theorem put1_last (l : List (Int × Int)) (x : Int × Int) : (put1 l x).getLastD (0, 0) = x := by
  unfold put1
  split
  · assumption
  · simp
theorem putV_last {l more : List (Int × Int)} (h : more ≠ []) : (putV l more).getLastD (0, 0) = more.getLastD (0, 0) := by
  have h1 : 0 < more.length := List.length_pos_iff.2 h
  have h2 := putV_take (ps := l) (more := more) (k := more.length - 1) (by omega)
  rw [List.take_of_length_le (by omega)] at h2
  rw [h2, put1_last, getLastD_get]
def closeR : Nat → List (Int × Int) → List (Int × Int)
  | 0, l => l
  | n + 1, l => if 1 < l.length ∧ l.getLastD (0, 0) = l.headD (0, 0) then closeR n l.dropLast else l
theorem closeR_stop {n : Nat} {l : List (Int × Int)} (h : ¬ (1 < l.length ∧ l.getLastD (0, 0) = l.headD (0, 0))) : closeR n l = l := by
  cases n with
  | zero => rfl
  | succ n => unfold closeR; rw [if_neg h]
theorem closeR_step {m : Nat} {l : List (Int × Int)} (h : 1 < l.length ∧ l.getLastD (0, 0) = l.headD (0, 0)) (hm : l.length = m + 1) : closeR l.length l = closeR m l.dropLast := by
  rw [hm]
  show (if 1 < l.length ∧ l.getLastD (0, 0) = l.headD (0, 0) then closeR m l.dropLast else l) = _
  rw [if_pos h]
theorem headD_get (l : List (Int × Int)) : l.headD (0, 0) = l.getD 0 (0, 0) := by cases l <;> rfl
theorem closeR_eq {l : List (Int × Int)} (h : Adj l) : closeR l.length l = closeV l := by
  unfold closeV
  split
  · rename_i h1
    obtain ⟨n, hn⟩ : ∃ n, l.length = n + 1 := ⟨l.length - 1, by omega⟩
    rw [hn]
    unfold closeR
    rw [if_pos h1]
    refine closeR_stop (fun h2 => ?_)
    have h3 := h (n - 1) (by rw [List.length_dropLast] at h2; omega)
    rw [List.length_dropLast] at h2
    have h4 : l.dropLast.getLastD (0, 0) = l.getD (n - 1) (0, 0) := by
      rw [getLastD_get, List.length_dropLast, List.getD_eq_getElem?_getD, List.getD_eq_getElem?_getD, List.getElem?_dropLast, if_pos (by omega), show l.length - 1 - 1 = n - 1 by omega]
    have h5 : l.dropLast.headD (0, 0) = l.headD (0, 0) := by
      rw [headD_get, headD_get, List.getD_eq_getElem?_getD, List.getD_eq_getElem?_getD, List.getElem?_dropLast, if_pos (by omega)]
    rw [h4, h5, ← h1.2, getLastD_get, hn, show n + 1 - 1 = n by omega] at h2
    rw [show n - 1 + 1 = n by omega] at h3
    exact h3 h2.2
  · rename_i h1
    exact closeR_stop h1
structure SubSt (w wr : World) (X6 X9 X10 : Nat) (v : Value) (pts : List (Int × Int)) (y : Int × Int) (cl : Bool) : Prop where
  row : RowN wr w.heap.size 33 2 v pts.length (ptCells pts)
  own : ∃ k, v.ownBlock = some k ∧ k ≠ X6 ∧ k ≠ X9 ∧ k ≠ X10
  b6 : Blk wr X6 31 #[.slice none 0 0, .bool false]
  b9 : Blk wr X9 33 #[.int .i64 y.1, .int .i64 y.2]
  b10 : Blk wr X10 31 #[v, .bool cl]
  ne : X6 ≠ X9 ∧ X6 ≠ X10 ∧ X9 ≠ X10
  ge : w.heap.size ≤ X6 ∧ w.heap.size ≤ X9 ∧ w.heap.size ≤ X10
  x : Ext w wr
theorem SubSt.ext {w wr wx : World} {X6 X9 X10 : Nat} {v : Value} {pts : List (Int × Int)} {y : Int × Int} {cl : Bool} (h : SubSt w wr X6 X9 X10 v pts y cl) (e : Ext wr wx) : SubSt w wx X6 X9 X10 v pts y cl :=
  ⟨h.row.ext e, h.own, h.b6.ext e, h.b9.ext e, h.b10.ext e, h.ne, h.ge, h.x.trans e⟩
theorem SubSt.form {w wr : World} {X6 X9 X10 : Nat} {v : Value} {pts : List (Int × Int)} {y : Int × Int} {cl : Bool} (h : SubSt w wr X6 X9 X10 v pts y cl) :
    ∃ gv cap rest, v = .slice (some ⟨gv, 0, none⟩) pts.length cap ∧ Blk wr gv 33 (ptCells pts ++ rest).toArray ∧ w.heap.size ≤ gv ∧ pts.length ≤ cap ∧ cap ≤ maxLen := by
  obtain ⟨h1, ⟨rfl, _⟩ | ⟨gv, cap, rest, rfl, hg, hb, hc, hm, _⟩⟩ := h.row
  · obtain ⟨k, hk, _⟩ := h.own; simp [Value.ownBlock] at hk
  · exact ⟨gv, cap, rest, rfl, hb, hg, hc, hm⟩
theorem SubSt.closed {w wr : World} {X6 X9 X10 : Nat} {v : Value} {pts : List (Int × Int)} {y : Int × Int} {cl : Bool} (h : SubSt w wr X6 X9 X10 v pts y cl) : SubSt w (wr.setCell ⟨X10, 1, none⟩ (.bool true)) X6 X9 X10 v pts y true := by
  have ow := (Own.refl X10 wr).set_at 1 none (.bool true)
  obtain ⟨k, hk, k6, k9, k10⟩ := h.own
  have h1 := h.b10.set_ 1 (.bool true)
  exact ⟨h.row.own ow (fun j hj => by rw [hk] at hj; injection hj with e; omega), ⟨k, hk, k6, k9, k10⟩, h.b6.far h.ne.2.1 _, h.b9.far h.ne.2.2 _, h1, h.ne, h.ge, (Only.of_own ow).ext h.x (fun i hi e => by have := h.ge.2.2; omega)⟩
theorem RowN.drop {w : World} {base m gv cap : Nat} {pts : List (Int × Int)} (h : RowN w base 33 2 (.slice (some ⟨gv, 0, none⟩) pts.length cap) pts.length (ptCells pts)) (hm : pts.length = m + 1) : RowN w base 33 2 (.slice (some ⟨gv, 0, none⟩) m cap) pts.dropLast.length (ptCells pts.dropLast) := by
  have hl : pts.dropLast.length = m := by rw [List.length_dropLast]; omega
  have hne : pts ≠ [] := by intro e; rw [e] at hm; simp at hm
  have hc : ptCells pts = ptCells pts.dropLast ++ [.int .i64 (pts.getLastD (0, 0)).1, .int .i64 (pts.getLastD (0, 0)).2] := by
    have h2 := List.dropLast_concat_getLast hne
    have h3 : pts.getLastD (0, 0) = pts.getLast hne := by rw [List.getLastD_eq_getLast?, List.getLast?_eq_some_getLast hne]; rfl
    rw [h3, ← ptCells_snoc, h2]
  obtain ⟨h1, ⟨h2, _⟩ | ⟨g, c, rest, h2, hg, hb, h5, h6, h7, h8⟩⟩ := h
  · cases h2
  · injection h2 with e1 e2 e3
    injection e1 with e1
    injection e1 with e1
    subst e1
    subst e3
    refine ⟨ptCells_length _, .inr ⟨gv, cap, [.int .i64 (pts.getLastD (0, 0)).1, .int .i64 (pts.getLastD (0, 0)).2] ++ rest, by rw [hl], hg, ?_, by omega, h6, ?_, ?_⟩⟩
    · rw [← List.append_assoc, ← hc]; exact hb
    · rw [hc, List.length_append] at h7
      rw [List.length_append]
      omega
    · rw [← List.append_assoc, ← hc]; exact h8
theorem SubSt.drop {w wr : World} {X6 X9 X10 m gv cap : Nat} {pts : List (Int × Int)} {y : Int × Int} {cl : Bool} (h : SubSt w wr X6 X9 X10 (.slice (some ⟨gv, 0, none⟩) pts.length cap) pts y cl) (hm : pts.length = m + 1) :
    SubSt w (wr.setCell ⟨X10, 0, none⟩ (.slice (some ⟨gv, 0, none⟩) m cap)) X6 X9 X10 (.slice (some ⟨gv, 0, none⟩) m cap) pts.dropLast y cl := by
  have ow := (Own.refl X10 wr).set_at 0 none (.slice (some ⟨gv, 0, none⟩) m cap)
  obtain ⟨k, hk, k6, k9, k10⟩ := h.own
  simp [Value.ownBlock] at hk
  subst hk
  have h1 := h.b10.set_ 0 (.slice (some ⟨gv, 0, none⟩) m cap)
  exact ⟨(h.row.drop hm).own ow (fun j hj => by simp [Value.ownBlock] at hj; omega), ⟨gv, by simp [Value.ownBlock], k6, k9, k10⟩, h.b6.far h.ne.2.1 _, h.b9.far h.ne.2.2 _, h1, h.ne, h.ge, (Only.of_own ow).ext h.x (fun i hi e => by have := h.ge.2.2; omega)⟩
theorem SubSt.app {w wr w3 : World} {X6 X9 X10 b0 : Nat} {v v' : Value} {pts acc : List (Int × Int)} {y : Int × Int} {cl : Bool} (h : SubSt w wr X6 X9 X10 v pts y cl) (hb : v.ownBlock = some b0) (k : AppSt wr w3 w.heap.size b0 v' acc) :
    SubSt w (w3.setCell ⟨X10, 0, none⟩ v') X6 X9 X10 v' acc y cl := by
  have ow := (Own.refl X10 w3).set_at 0 none v'
  obtain ⟨j, hj, k6, k9, k10⟩ := h.own
  rw [hb] at hj
  injection hj with hj
  subst hj
  have hbg : w.heap.size ≤ b0 := h.row.block b0 hb
  have l6 := h.b6.lt
  have l9 := h.b9.lt
  have l10 := h.b10.lt
  have hown : ∃ q, v'.ownBlock = some q ∧ q ≠ X6 ∧ q ≠ X9 ∧ q ≠ X10 := by
    rcases k.own with e | ⟨q, e, e2⟩
    · exact ⟨b0, e, k6, k9, k10⟩
    · exact ⟨q, e, by omega, by omega, by omega⟩
  have h10 := (h.b10.only k.only (fun e => k10 e.symm)).set_ 0 v'
  obtain ⟨q, hq, q6, q9, q10⟩ := hown
  refine ⟨k.row.own ow (fun i hi => by rw [hq] at hi; injection hi with e; omega), ⟨q, hq, q6, q9, q10⟩, (h.b6.only k.only (fun e => k6 e.symm)).far h.ne.2.1 _, (h.b9.only k.only (fun e => k9 e.symm)).far h.ne.2.2 _, h10, h.ne, h.ge, ?_⟩
  refine (Only.of_own ow).ext (k.only.ext h.x (fun i hi e => ?_)) (fun i hi e => ?_)
  · omega
  · have := h.ge.2.2; omega
theorem SubSt.now {w wr : World} {X6 X9 X10 : Nat} {v : Value} {pts : List (Int × Int)} {y : Int × Int} {cl : Bool} (h : SubSt w wr X6 X9 X10 v pts y cl) (z : Int × Int) : SubSt w (wr.setCells X9 0 [.int .i64 z.1, .int .i64 z.2]) X6 X9 X10 v pts z cl := by
  have ow := Own.setCells wr X9 #[.int .i64 z.1, .int .i64 z.2]
  obtain ⟨k, hk, k6, k9, k10⟩ := h.own
  refine ⟨h.row.own ow (fun j hj => by rw [hk] at hj; injection hj with e; omega), ⟨k, hk, k6, k9, k10⟩, ?_, ?_, ?_, h.ne, h.ge, (Only.of_own ow).ext h.x (fun i hi e => by have := h.ge.2.1; omega)⟩
  · exact (ow.block X6 h.b6.lt (fun e => h.ne.1 (by injection e))).trans h.b6
  · exact h.b9.setCells #[.int .i64 z.1, .int .i64 z.2] rfl
  · exact (ow.block X10 h.b10.lt (fun e => h.ne.2.2 (by injection e with e; exact e.symm))).trans h.b10
theorem SubSt.res {w wr : World} {X6 X9 X10 : Nat} {v : Value} {pts : List (Int × Int)} {y : Int × Int} {cl : Bool} (h : SubSt w wr X6 X9 X10 v pts y cl) (u : Value) (b : Bool) :
    Blk (wr.setCells X6 0 [u, .bool b]) X6 31 #[u, .bool b] ∧ Ext w (wr.setCells X6 0 [u, .bool b]) ∧ RowN (wr.setCells X6 0 [u, .bool b]) w.heap.size 33 2 v pts.length (ptCells pts) := by
  have ow := Own.setCells wr X6 #[u, .bool b]
  obtain ⟨k, hk, k6, k9, k10⟩ := h.own
  exact ⟨h.b6.setCells #[u, .bool b] rfl, (Only.of_own ow).ext h.x (fun i hi e => by have := h.ge.1; omega), h.row.own ow (fun j hj => by rw [hk] at hj; injection hj with e; omega)⟩
theorem SubSt.start (w : World) (a1 a2 : Int) : SubSt w ((((w.alloc (.cells #[.slice none 0 0, .bool false] 31)).alloc (.cells #[.int .i64 a1, .int .i64 a2] 33)).alloc (.cells #[.int .i64 a1, .int .i64 a2] 33)).alloc (.cells #[.slice (some ⟨w.heap.size + 1 + 1, 0, none⟩) 1 1, .bool false] 31))
    w.heap.size (w.heap.size + 1) (w.heap.size + 1 + 1 + 1) (.slice (some ⟨w.heap.size + 1 + 1, 0, none⟩) 1 1) [(a1, a2)] (a1, a2) false := by
  have b6 := Blk.new w 31 #[.slice none 0 0, .bool false]
  have x1 := (Ext.refl w).alloc (.cells #[.slice none 0 0, .bool false] 31)
  have z1 : (w.alloc (.cells #[.slice none 0 0, .bool false] 31)).heap.size = w.heap.size + 1 := World.size_alloc _ _
  generalize w.alloc (.cells #[.slice none 0 0, .bool false] 31) = w1 at *
  have b9 := Blk.new w1 33 #[.int .i64 a1, .int .i64 a2]
  have x2 := (Ext.refl w1).alloc (.cells #[.int .i64 a1, .int .i64 a2] 33)
  have z2 : (w1.alloc (.cells #[.int .i64 a1, .int .i64 a2] 33)).heap.size = w1.heap.size + 1 := World.size_alloc _ _
  generalize w1.alloc (.cells #[.int .i64 a1, .int .i64 a2] 33) = w2 at *
  have bs := Blk.new w2 33 #[.int .i64 a1, .int .i64 a2]
  have x3 := (Ext.refl w2).alloc (.cells #[.int .i64 a1, .int .i64 a2] 33)
  have z3 : (w2.alloc (.cells #[.int .i64 a1, .int .i64 a2] 33)).heap.size = w2.heap.size + 1 := World.size_alloc _ _
  generalize w2.alloc (.cells #[.int .i64 a1, .int .i64 a2] 33) = w3 at *
  have b10 := Blk.new w3 31 #[.slice (some ⟨w.heap.size + 1 + 1, 0, none⟩) 1 1, .bool false]
  have x4 := (Ext.refl w3).alloc (.cells #[.slice (some ⟨w.heap.size + 1 + 1, 0, none⟩) 1 1, .bool false] 31)
  generalize w3.alloc (.cells #[.slice (some ⟨w.heap.size + 1 + 1, 0, none⟩) 1 1, .bool false] 31) = w4 at *
  rw [z3, z2, z1] at b10
  rw [z2, z1] at bs
  rw [z1] at b9
  refine ⟨RowN.made' (xs := ptCells [(a1, a2)]) (bs.ext x4) (by omega) rfl (noUL_pts _) (by unfold maxLen; omega), ⟨w.heap.size + 1 + 1, rfl, by omega, by omega, by omega⟩, b6.ext (x2.trans (x3.trans x4)), b9.ext (x3.trans x4), b10, ⟨by omega, by omega, by omega⟩, ⟨by omega, by omega, by omega⟩, x1.trans (x2.trans (x3.trans x4))⟩
theorem results_c1t2 {P : Program} {fn : Func} {i j k : Tmp} {t : TypeId} (h : fn.results = #[.cell i t, .tmp j, .tmp k]) {tmps : Array Value} {w : World} {p : Addr} {v v2 v3 : Value}
    (hi : tmps.getD i undef = .pointer (some p)) (h1 : (Go.loadVar t p).run P w = .ok v w) (hj : tmps.getD j undef = v2) (hk : tmps.getD k undef = v3) :
    (results fn tmps).run P w = .ok (.tuple #[v, v2, v3]) w := by
  simp only [Array.getD_eq_getD_getElem?] at hi hj hk
  simp [results, h, hi, h1, asAddr, hj, hk]
theorem says_moreR {tol : Int} {l : List Sg} {k : Nat} {P : List (List (Int × Int) × Bool)} {pts sp : List (Int × Int)} {cl : Bool} {s : Sg} {yl : Int × Int} (h : pathTo tol l k = (0, P ++ [(pts, cl)])) (h1 : s.v ≠ 1) (h5 : s.v ≠ 5) (hk : k < l.length) (hg : l.getD k sg0 = s)
    (hy : pts.getLastD (0, 0) = yl) (he : segErr yl s tol = 0) (hsp : sp = segPts yl s tol) : pathTo tol l (k + 1) = (0, P ++ [(putV pts sp, cl)]) := by
  subst hsp
  subst hy
  rw [pathTo_succ hk, hg, h]
  unfold pst1
  have e1 : (P ++ [(pts, cl)]).getLastD ([], false) = (pts, cl) := by simp
  have e2 : (P ++ [(pts, cl)]).dropLast = P := by simp
  simp only [e1, e2]
  rw [if_neg (by simp), if_neg h1, if_neg h5, if_neg (fun h => h he)]
theorem says_errR {tol er : Int} {l : List Sg} {k : Nat} {P : List (List (Int × Int) × Bool)} {pts : List (Int × Int)} {cl : Bool} {s : Sg} {yl : Int × Int} (h : pathTo tol l k = (0, P ++ [(pts, cl)])) (h1 : s.v ≠ 1) (h5 : s.v ≠ 5) (hk : k < l.length) (hg : l.getD k sg0 = s)
    (hy : pts.getLastD (0, 0) = yl) (hse : er = segErr yl s tol) (he : er ≠ 0) : pathTo tol l (k + 1) = (er, []) := by
  subst hse
  subst hy
  rw [pathTo_succ hk, hg, h]
  unfold pst1
  have e1 : (P ++ [(pts, cl)]).getLastD ([], false) = (pts, cl) := by simp
  simp only [e1]
  rw [if_neg (by simp), if_neg h1, if_neg h5, if_pos he]
def SubSays (tol : Int) (l : List Sg) (a0 : Nat) (P : List (List (Int × Int) × Bool)) (w : World) (e : Ending) (w' : World) : Prop :=
  ∃ (A : Option Addr) (pts : List (Int × Int)) (n c : Nat) (cl : Bool) (next er : Int), e = .returned (.tuple #[.agg #[.slice A n c, .bool cl], .int .i64 next, .int .i64 er]) ∧ Ext w w' ∧
    ((er ≠ 0 ∧ pathTo tol l l.length = (er, [])) ∨ (er = 0 ∧ ∃ k : Nat, next = (k : Int) ∧ a0 < k ∧ k ≤ l.length ∧ pathTo tol l k = (0, P ++ [(pts, cl)]) ∧ pts ≠ [] ∧ pts.length ≤ 1 + 64 * k ∧ (k < l.length → (l.getD k sg0).v = 1) ∧ n = pts.length ∧ RowN w' w.heap.size 33 2 (.slice A n c) pts.length (ptCells pts) ∧ ∃ b, (Value.slice A n c).ownBlock = some b))
set_option maxRecDepth 20000 in
set_option maxHeartbeats 8000000 in
theorem subpath_any (u : Value) (l : List Sg) (tol : Int) (a0 : Nat) (P : List (List (Int × Int) × Bool)) (w : World) (hu : SegsV w u l) (hn : l.length ≤ 300) (hp : PV l) (hk : a0 < l.length) (h1 : (l.getD a0 sg0).v = 1) (hs : pathTo tol l a0 = (0, P)) :
  Calls Try.prog 17 #[u, .int .i64 a0, .int .i64 tol] w (SubSays tol l a0 P w) := by
 obtain ⟨A, cu, rfl, hA⟩ := hu
 obtain ⟨gu, ou, rfl, hsg⟩ := hA (by rintro rfl; simp at hk)
 obtain ⟨v, a1, a2, b1, b2, c1, c2, hg, h0, q1, q2, q3, q4, q5, q6⟩ := hsg a0 hk
 have HSG := zH hsg
 have HP := zH hp
 have HS := zH hs
 have HN := zH hn
 have HK := zH hk
 rw [hg] at h1
 simp only at h1
 subst h1
 have hs1 : pathTo tol l (a0 + 1) = (0, P ++ [([(a1, a2)], false)]) := by
  rw [pathTo_succ hk, hg, hs]
  rfl
 have HS1 := zH hs1
 have hk3 : a0 ≤ 300 := by omega
 have hlt2 : (a0 : Int) < (l.length : Int) := by omega
 have r1 := ((Ext.refl w).alloc (.cells #[.slice none 0 0, .bool false] 31)).get q1
 have r2 := ((Ext.refl w).alloc (.cells #[.slice none 0 0, .bool false] 31)).get q2
 rw [show ou + a0 * 7 + 2 = ou + a0 * 7 + 1 + 1 by omega] at r2
 clear hsg hp hs hs1 hn hA hg q1 q2 q3 q4 q5 q6
 go_enter Try.func17, Try.ntmps17
 go_wp2_with fail
 have HS0 := zH (SubSt.start w a1 a2)
 clear r1 r2
 generalize ((((w.alloc (.cells #[.slice none 0 0, .bool false] 31)).alloc (.cells #[.int .i64 a1, .int .i64 a2] 33)).alloc (.cells #[.int .i64 a1, .int .i64 a2] 33)).alloc (.cells #[.slice (some ⟨w.heap.size + 1 + 1, 0, none⟩) 1 1, .bool false] 31)) = w4 at *
 generalize w.heap.size + 1 + 1 + 1 = X10 at *
 generalize w.heap.size + 1 = X9 at *
 generalize hX6 : w.heap.size = X6 at *
 have HX6 := zH hX6
 clear hX6
 go_loopg [11] (l.length - (a0 + 1)) (fun n i wr => ∃ (k : Nat) (v : Value) (pts : List (Int × Int)), a0 < k ∧ k ≤ l.length ∧ n = l.length - k ∧ i = .int .i64 k ∧ pathTo tol l k = (0, P ++ [(pts, false)]) ∧ pts ≠ [] ∧ Adj pts ∧ pts.length ≤ 1 + 64 * k ∧ SubSt w wr X6 X9 X10 v pts (pts.getLastD (0, 0)) false)
 case atStart => exact ⟨a0 + 1, _, [(a1, a2)], Nat.lt_succ_self _, hk, rfl, by go_num, HS1.out, by simp, Adj.one _, by simp, HS0.out⟩
 case round =>
  obtain ⟨k, v, pts, hak, hkl, rfl, rfl, hto, hne, hadj, hlen, hst⟩ := hrel
  have HST := zH hst
  have HTO := zH hto
  have HNE := zH (And.intro hne (And.intro hadj (And.intro hlen hak)))
  obtain ⟨gv, cap, rs, rfl, hbv, hgv, hcap, hcm⟩ := hst.form
  have HBV := zH hbv
  have HCAP := zH (And.intro hgv (And.intro hcap hcm))
  clear hst hto hne hadj hlen hbv hgv hcap hcm hlt2
  have hk4 : k ≤ 300 := by have := HN.out; omega
  by_cases hlt : k < l.length
  ·obtain ⟨v, a1, a2, b1, b2, c1, c2, hg, h0, q1, q2, q3, q4, q5, q6⟩ := (HSG.out.ext HST.out.x) k hlt
   have hlt2 : (k : Int) < (l.length : Int) := by omega
   have HG := zH hg
   have HLT := zH hlt
   clear hg hlt
   by_cases hv1 : v = 1
   ·have hg1 : (l.getD k sg0).v = 1 := by rw [HG.out]; exact hv1
    have HG1 := zH hg1
    subst hv1
    clear hg1
    go_upto_region 16 with fail
    refine wp_region_lit ?_
    refine pL HST.out.b10 Try.underlying31 (by kernel_rfl) ?_
    (try simp only [Act.put, zA, zB, zC])
    refine pV (w' := wr) ?_
    (try simp only [Act.put, zA, zB, zC])
    refine pO #[(.slice (some ⟨gv, 0, none⟩) pts.length cap), .bool false] HST.out.b6 rfl (by kernel_rfl) (by simp [Value.oneCell']) ?_
    (try simp only [Act.put])
    obtain ⟨e1, e2, e3⟩ := HST.out.res (.slice (some ⟨gv, 0, none⟩) pts.length cap) false
    have H1 := zH e1
    have H2 := zH e2
    have H3 := zH e3
    clear e1 e2 e3
    generalize hwz : World.setCells wr X6 0 _ = wz at *
    refine pV (w' := wz) ?_
    (try simp only [Act.put, zA, zB, zC])
    refine pV (w' := wz) ?_
    (try simp only [Act.put, zA, zB, zC])
    go_wp2_with fail
    refine bodyPost_ret (v := .tuple #[.agg #[(.slice (some ⟨gv, 0, none⟩) pts.length cap), .bool false], .int .i64 (k : Nat), .int .i64 0]) ?_ rfl ?_
    ·exact results_c1t2 rfl rfl (H1.out.loadVar Try.underlying31 rfl (by kernel_rfl)) rfl rfl
    exact ⟨some ⟨gv, 0, none⟩, pts, pts.length, cap, false, _, _, rfl, H2.out, Or.inr ⟨rfl, k, rfl, HNE.out.2.2.2, (by omega), HTO.out, HNE.out.1, HNE.out.2.2.1, (fun _ => HG1.out), rfl, H3.out, gv, rfl⟩⟩
   ·have bv1 : (v != 1) = true := by simp [bne, hv1]
    by_cases hv5 : v = 5
    ·subst hv5
     have z1 := HST.out.b10.cell 1
     simp at z1
     have zf := HST.out.b10.frozen 1
     go_wp2_with fail
     have HST5 := zH HST.out.closed
     generalize wr.setCell ⟨X10, 1, none⟩ (.bool true) = w5 at *
     clear z1 zf HST HBV HCAP h0 q1 q2 q3 q4 q5 q6
     have hC := closeR_eq HNE.out.2.1
     have hTC := HTO.out
     trace_state
     go_loopg [] pts.length (fun n wy => ∃ ps, n = ps.length ∧ ps ≠ [] ∧ ps.length ≤ pts.length ∧ closeR ps.length ps = closeV pts ∧ SubSt w wy X6 X9 X10 (.slice (some ⟨gv, 0, none⟩) ps.length cap) ps (pts.getLastD (0, 0)) true)
     case atStart => exact ⟨pts, rfl, HNE.out.1, Nat.le_refl _, hC, HST5.out⟩
     case round =>
      obtain ⟨ps, rfl, hps, hpl, hcr, hst2⟩ := hrel
      have HZ := zH hst2
      obtain ⟨gv', cap', rs2, he, hbv2, hgv2, hcp2, hcm2⟩ := hst2.form
      injection he with he1 he2 he3
      injection he1 with he1
      injection he1 with he1
      subst he1
      subst he3
      clear he2
      obtain ⟨m2, hm2⟩ : ∃ m2, ps.length = m2 + 1 := ⟨ps.length - 1, by have := List.length_pos_iff.2 hps; omega⟩
      have cs := hst2.b10.cell 0
      have fs := hst2.b10.frozen 0
      simp at cs
      rw [hm2] at cs
      have e0 : ps.getD 0 (0, 0) = ps.headD (0, 0) := (headD_get ps).symm
      have em : ps.getD m2 (0, 0) = ps.getLastD (0, 0) := by rw [getLastD_get, hm2]; rfl
      have p0 : wr.cell? ⟨gv, 0, none⟩ = some (.int .i64 (ps.headD (0, 0)).1) := by rw [hbv2.cell, List.getElem?_toArray, List.getElem?_append_left (by rw [ptCells_length]; omega), ← e0]; exact (ptCells_get ps 0 (by omega)).1
      have p1 : wr.cell? ⟨gv, 1, none⟩ = some (.int .i64 (ps.headD (0, 0)).2) := by rw [hbv2.cell, List.getElem?_toArray, List.getElem?_append_left (by rw [ptCells_length]; omega), ← e0]; exact (ptCells_get ps 0 (by omega)).2
      have z0 : wr.cell? ⟨gv, m2 * 2, none⟩ = some (.int .i64 (ps.getLastD (0, 0)).1) := by rw [hbv2.cell, List.getElem?_toArray, List.getElem?_append_left (by rw [ptCells_length]; omega), ← em]; exact (ptCells_get ps m2 (by omega)).1
      have z1 : wr.cell? ⟨gv, m2 * 2 + 1, none⟩ = some (.int .i64 (ps.getLastD (0, 0)).2) := by rw [hbv2.cell, List.getElem?_toArray, List.getElem?_append_left (by rw [ptCells_length]; omega), ← em]; exact (ptCells_get ps m2 (by omega)).2
      have r1 : ((m2 + 1 : Nat) : Int) - 1 = (m2 : Int) := by omega
      have r3 : (m2 : Int) + 1 - 1 = (m2 : Int) := by omega
      have r5 : (m2 : Int) < (m2 : Int) + 1 := by omega
      have r6 : (0 : Int) ≤ (m2 : Int) := by omega
      have hn4 := HN.out
      have hn5 := HNE.out.2.2.1
      have r7 : m2 ≤ 20000 := by omega
      have r8 : m2 + 1 ≤ cap := by omega
      have r9 : (m2 : Int) ≤ (cap : Int) := by omega
      have HM2 := zH hm2
      have HPS := zH (And.intro hps (And.intro hpl hcr))
      have HSTOP := zH (fun h => closeR_stop (n := ps.length) (l := ps) h)
      have hlv := lastV_succ l k
      rw [HG.out] at hlv
      simp only at hlv
      have HLV := zH hlv
      clear hst2 hbv2 hgv2 hcp2 hcm2 e0 em hps hpl hcr hlv hC hTC hn5 hn4
      by_cases hm0 : m2 = 0
      ·subst hm0
       have hg1 : ¬ (1 : Int) < 0 + 1 := by omega
       have hcv : ps = closeV pts := by rw [← HPS.out.2.2]; exact (HSTOP.out (by intro h; have := HM2.out; omega)).symm
       have hto : pathTo tol l (k + 1) = (0, P ++ [(ps, true)]) := by
        rw [pathTo_succ HLT.out, HG.out, HTO.out, hcv]
        unfold pst1
        simp
       have hnx : k + 1 < l.length → (l.getD (k + 1) sg0).v = 1 := by
        intro hlt3
        have h2 := HP.out.2 (k + 1) hlt3
        rw [HLV.out] at h2
        unfold okSg standsV at h2
        simp at h2
        exact h2.1.2
       have t1_ : IntKind.i64.wrap ((k : Int) + 1) = (k : Int) + 1 := IntWalk.i64_in _ ⟨by omega, by omega⟩
       have HTO2 := zH hto
       have HNX := zH hnx
       clear hto hnx hcv
       go_wp2_with fail
       go_quiet (fail)
       go_upto_region 9 with fail
       clear cs fs p0 p1 z0 z1
       have HZ2 := zH (HZ.out.ext ((Ext.refl wr).drewN nq))
       clear HZ
       generalize wr.drewN nq = wv at *
       refine wp_region_lit ?_
       refine pL HZ2.out.b10 Try.underlying31 (by kernel_rfl) ?_
       (try simp only [Act.put, zA, zB, zC])
       refine pV (w' := wv) ?_
       (try simp only [Act.put, zA, zB, zC])
       refine pV (w' := wv) ?_
       (try simp only [Act.put, zA, zB, zC])
       refine pO #[(.slice (some ⟨gv, 0, none⟩) ps.length cap), .bool true] HZ2.out.b6 rfl (by kernel_rfl) (by simp [Value.oneCell']) ?_
       (try simp only [Act.put])
       obtain ⟨e1, e2, e3⟩ := HZ2.out.res (.slice (some ⟨gv, 0, none⟩) ps.length cap) true
       have H1 := zH e1
       have H2 := zH e2
       have H3 := zH e3
       clear e1 e2 e3
       generalize hwz : World.setCells wv X6 0 _ = wz at *
       refine pV (w' := wz) ?_
       (try simp only [Act.put, zA, zB, zC])
       refine pV (w' := wz) ?_
       (try simp only [Act.put, zA, zB, zC])
       go_wp2_with fail
       refine bodyPost_ret (v := .tuple #[.agg #[(.slice (some ⟨gv, 0, none⟩) ps.length cap), .bool true], .int .i64 (k + 1 : Nat), .int .i64 0]) ?_ rfl ?_
       ·exact results_c1t2 rfl rfl (H1.out.loadVar Try.underlying31 rfl (by kernel_rfl)) rfl rfl
       exact ⟨some ⟨gv, 0, none⟩, ps, ps.length, cap, true, _, _, rfl, H2.out, Or.inr ⟨rfl, k + 1, rfl, (Nat.lt_succ_of_lt HNE.out.2.2.2), HLT.out, HTO2.out, HPS.out.1, (Nat.le_trans HPS.out.2.1 (Nat.le_trans HNE.out.2.2.1 (by omega))), HNX.out, rfl, H3.out, gv, rfl⟩⟩
      ·have g1 : (1 : Int) < (m2 : Int) + 1 := by omega
       have HM0 := zH hm0
       generalize hyl : ps.getLastD (0, 0) = yl at z0 z1 HSTOP
       generalize hxf : ps.headD (0, 0) = xf at p0 p1 HSTOP
       have HYX := zH (And.intro hyl hxf)
       clear hyl hxf
       by_cases hx1 : yl.1 = xf.1
       ·by_cases hx2 : yl.2 = xf.2
        ·have be1 : (yl.1 == xf.1) = true := by simpa using hx1
         have be2 : (yl.2 == xf.2) = true := by simpa using hx2
         have HEQ := zH (show yl = xf from Prod.ext hx1 hx2)
         clear hx1 hx2
         go_wp2_with fail
         go_quiet (fail)
         go_wp2_with fail
         have hld : ps.dropLast.length = m2 := by rw [List.length_dropLast, HM2.out]; rfl
         have hcl : closeR ps.dropLast.length ps.dropLast = closeV pts := by rw [hld, ← HPS.out.2.2]; exact (closeR_step ⟨by have := HM2.out; have := HM0.out; omega, by rw [HYX.out.1, HYX.out.2]; exact HEQ.out⟩ HM2.out).symm
         have hd := (HZ.out.ext ((Ext.refl wr).drewN nq)).drop HM2.out
         have HD := zH (And.intro hld (And.intro hcl hd))
         clear hld hcl hd
         go_roundg m2
         case measure => have := HM2.out; omega
         case rel => exact ⟨ps.dropLast, HD.out.1.symm, (by intro e; have h := HD.out.1; rw [e] at h; exact HM0.out h.symm), (by have h := HPS.out.2.1; have h2 := HM2.out; have h3 := HD.out.1; omega), HD.out.2.1, (by rw [HD.out.1]; exact HD.out.2.2)⟩
        ·have be1 : (yl.1 == xf.1) = true := by simpa using hx1
         have be2 : (yl.2 == xf.2) = false := by simpa using hx2
         have hcv : ps = closeV pts := by rw [← HPS.out.2.2]; exact (HSTOP.out (fun h => hx2 (by rw [h.2]))).symm
         have hto : pathTo tol l (k + 1) = (0, P ++ [(ps, true)]) := by
          rw [pathTo_succ HLT.out, HG.out, HTO.out, hcv]
          unfold pst1
          simp
         have hnx : k + 1 < l.length → (l.getD (k + 1) sg0).v = 1 := by
          intro hlt3
          have h2 := HP.out.2 (k + 1) hlt3
          rw [HLV.out] at h2
          unfold okSg standsV at h2
          simp at h2
          exact h2.1.2
         have t1_ : IntKind.i64.wrap ((k : Int) + 1) = (k : Int) + 1 := IntWalk.i64_in _ ⟨by omega, by omega⟩
         have HTO2 := zH hto
         have HNX := zH hnx
         clear hto hnx hcv
         clear hx1 hx2
         go_wp2_with fail
         go_quiet (fail)
         go_upto_region 9 with fail
         clear cs fs p0 p1 z0 z1
         have HZ2 := zH (HZ.out.ext ((Ext.refl wr).drewN nq))
         clear HZ
         generalize wr.drewN nq = wv at *
         refine wp_region_lit ?_
         refine pL HZ2.out.b10 Try.underlying31 (by kernel_rfl) ?_
         (try simp only [Act.put, zA, zB, zC])
         refine pV (w' := wv) ?_
         (try simp only [Act.put, zA, zB, zC])
         refine pV (w' := wv) ?_
         (try simp only [Act.put, zA, zB, zC])
         refine pO #[(.slice (some ⟨gv, 0, none⟩) ps.length cap), .bool true] HZ2.out.b6 rfl (by kernel_rfl) (by simp [Value.oneCell']) ?_
         (try simp only [Act.put])
         obtain ⟨e1, e2, e3⟩ := HZ2.out.res (.slice (some ⟨gv, 0, none⟩) ps.length cap) true
         have H1 := zH e1
         have H2 := zH e2
         have H3 := zH e3
         clear e1 e2 e3
         generalize hwz : World.setCells wv X6 0 _ = wz at *
         refine pV (w' := wz) ?_
         (try simp only [Act.put, zA, zB, zC])
         refine pV (w' := wz) ?_
         (try simp only [Act.put, zA, zB, zC])
         go_wp2_with fail
         refine bodyPost_ret (v := .tuple #[.agg #[(.slice (some ⟨gv, 0, none⟩) ps.length cap), .bool true], .int .i64 (k + 1 : Nat), .int .i64 0]) ?_ rfl ?_
         ·exact results_c1t2 rfl rfl (H1.out.loadVar Try.underlying31 rfl (by kernel_rfl)) rfl rfl
         exact ⟨some ⟨gv, 0, none⟩, ps, ps.length, cap, true, _, _, rfl, H2.out, Or.inr ⟨rfl, k + 1, rfl, (Nat.lt_succ_of_lt HNE.out.2.2.2), HLT.out, HTO2.out, HPS.out.1, (Nat.le_trans HPS.out.2.1 (Nat.le_trans HNE.out.2.2.1 (by omega))), HNX.out, rfl, H3.out, gv, rfl⟩⟩
       ·have be1 : (yl.1 == xf.1) = false := by simpa using hx1
        have hcv : ps = closeV pts := by rw [← HPS.out.2.2]; exact (HSTOP.out (fun h => hx1 (by rw [h.2]))).symm
        have hto : pathTo tol l (k + 1) = (0, P ++ [(ps, true)]) := by
         rw [pathTo_succ HLT.out, HG.out, HTO.out, hcv]
         unfold pst1
         simp
        have hnx : k + 1 < l.length → (l.getD (k + 1) sg0).v = 1 := by
         intro hlt3
         have h2 := HP.out.2 (k + 1) hlt3
         rw [HLV.out] at h2
         unfold okSg standsV at h2
         simp at h2
         exact h2.1.2
        have t1_ : IntKind.i64.wrap ((k : Int) + 1) = (k : Int) + 1 := IntWalk.i64_in _ ⟨by omega, by omega⟩
        have HTO2 := zH hto
        have HNX := zH hnx
        clear hto hnx hcv
        clear hx1
        go_wp2_with fail
        go_quiet (fail)
        go_upto_region 9 with fail
        clear cs fs p0 p1 z0 z1
        have HZ2 := zH (HZ.out.ext ((Ext.refl wr).drewN nq))
        clear HZ
        generalize wr.drewN nq = wv at *
        refine wp_region_lit ?_
        refine pL HZ2.out.b10 Try.underlying31 (by kernel_rfl) ?_
        (try simp only [Act.put, zA, zB, zC])
        refine pV (w' := wv) ?_
        (try simp only [Act.put, zA, zB, zC])
        refine pV (w' := wv) ?_
        (try simp only [Act.put, zA, zB, zC])
        refine pO #[(.slice (some ⟨gv, 0, none⟩) ps.length cap), .bool true] HZ2.out.b6 rfl (by kernel_rfl) (by simp [Value.oneCell']) ?_
        (try simp only [Act.put])
        obtain ⟨e1, e2, e3⟩ := HZ2.out.res (.slice (some ⟨gv, 0, none⟩) ps.length cap) true
        have H1 := zH e1
        have H2 := zH e2
        have H3 := zH e3
        clear e1 e2 e3
        generalize hwz : World.setCells wv X6 0 _ = wz at *
        refine pV (w' := wz) ?_
        (try simp only [Act.put, zA, zB, zC])
        refine pV (w' := wz) ?_
        (try simp only [Act.put, zA, zB, zC])
        go_wp2_with fail
        refine bodyPost_ret (v := .tuple #[.agg #[(.slice (some ⟨gv, 0, none⟩) ps.length cap), .bool true], .int .i64 (k + 1 : Nat), .int .i64 0]) ?_ rfl ?_
        ·exact results_c1t2 rfl rfl (H1.out.loadVar Try.underlying31 rfl (by kernel_rfl)) rfl rfl
        exact ⟨some ⟨gv, 0, none⟩, ps, ps.length, cap, true, _, _, rfl, H2.out, Or.inr ⟨rfl, k + 1, rfl, (Nat.lt_succ_of_lt HNE.out.2.2.2), HLT.out, HTO2.out, HPS.out.1, (Nat.le_trans HPS.out.2.1 (Nat.le_trans HNE.out.2.2.1 (by omega))), HNX.out, rfl, H3.out, gv, rfl⟩⟩
    ·have bv5 : (v == 5) = false := by simpa using hv5
     have HV15 := zH (And.intro hv1 hv5)
     clear hv1 hv5
     have hpz : pts.length ≤ 20000 := by have := HNE.out.2.2.1; omega
     have HPZ := zH hpz
     clear hpz
     obtain ⟨yl, hyl⟩ : ∃ x, x = pts.getLastD (0, 0) := ⟨_, rfl⟩
     rw [← hyl] at HST
     have HYL := zH hyl.symm
     clear hyl
     have n0 := HST.out.b9.cell 0
     have n1 := HST.out.b9.cell 1
     simp at n0 n1
     obtain ⟨er, her⟩ : ∃ x, x = segErr yl ⟨v, (a1, a2), (b1, b2), (c1, c2)⟩ tol := ⟨_, rfl⟩
     obtain ⟨sp, hsp⟩ : ∃ x, x = segPts yl ⟨v, (a1, a2), (b1, b2), (c1, c2)⟩ tol := ⟨_, rfl⟩
     have HSEG := zH (show ∀ W, Calls Try.prog 29 #[.agg #[.int .i64 yl.1, .int .i64 yl.2], .agg #[.int .i64 v, .int .i64 a1, .int .i64 a2, .int .i64 b1, .int .i64 b2, .int .i64 c1, .int .i64 c2], .int .i64 tol] W (SegSays sp er W) from fun W => by rw [her, hsp]; exact rsegment_any yl.1 yl.2 v a1 a2 b1 b2 c1 c2 tol W)
     have HER := zH (And.intro her hsp)
     clear her hsp
     go_upto_region 10 with fail
     have f0_ : ∀ x, Ext wr x → x.cell? ⟨X9, 0, none⟩ = some (.int .i64 yl.1) := fun x hx => hx.get n0
     have f1_ : ∀ x, Ext wr x → x.cell? ⟨X9, 1, none⟩ = some (.int .i64 yl.2) := fun x hx => hx.get n1
     have f2_ : ∀ x, Ext wr x → x.cell? ⟨gu, ou + k * 7, none⟩ = some (.int .i64 v) := fun x hx => hx.get h0
     have f3_ : ∀ x, Ext wr x → x.cell? ⟨gu, ou + k * 7 + 1, none⟩ = some (.int .i64 a1) := fun x hx => hx.get q1
     have f4_ : ∀ x, Ext wr x → x.cell? ⟨gu, ou + k * 7 + 2, none⟩ = some (.int .i64 a2) := fun x hx => hx.get q2
     have f5_ : ∀ x, Ext wr x → x.cell? ⟨gu, ou + k * 7 + 3, none⟩ = some (.int .i64 b1) := fun x hx => hx.get q3
     have f6_ : ∀ x, Ext wr x → x.cell? ⟨gu, ou + k * 7 + 4, none⟩ = some (.int .i64 b2) := fun x hx => hx.get q4
     have f7_ : ∀ x, Ext wr x → x.cell? ⟨gu, ou + k * 7 + 5, none⟩ = some (.int .i64 c1) := fun x hx => hx.get q5
     have f8_ : ∀ x, Ext wr x → x.cell? ⟨gu, ou + k * 7 + 6, none⟩ = some (.int .i64 c2) := fun x hx => hx.get q6
     clear n0 n1 h0 q1 q2 q3 q4 q5 q6
     go_cut [12, 13] (fun m e wx => e = .int .i64 er ∧ PtsV wx m sp ∧ (∀ A l c, m = .slice (some A) l c → wr.heap.size ≤ A.block) ∧ Ext wr wx)
     case first =>
      go_region_held3 (fun w' => Ext wr w') (first | assumption | exact Ext.drew (Ext.refl _) | (apply Ext.via; assumption; assumption)) (first | (go_at_call 29; refine (HSEG.out _).mono ?_; rintro e w2 ⟨u, rfl, hpt, hfr, hx2⟩))
      go_wp2_with fail
      go_meet
      exact ⟨rfl, hpt, hfr, ‹Ext wr _›⟩
     case rest =>
      obtain ⟨rfl, hpt, hfr, hxc⟩ := hcut
      clear f0_ f1_ f2_ f3_ f4_ f5_ f6_ f7_ f8_
      by_cases he : er = 0
      ·subst he
       have HSM := zH (says_moreR HTO.out HV15.out.1 HV15.out.2 HLT.out HG.out HYL.out HER.out.1.symm HER.out.2)
       have hsl := segPts_len yl ⟨v, (a1, a2), (b1, b2), (c1, c2)⟩ tol
       rw [← HER.out.2, ← HER.out.1] at hsl
       have HSL := zH hsl
       obtain ⟨Am, cm, rfl, hm⟩ := hpt
       obtain ⟨gm, om, rfl, hma⟩ := hm (hsl.2 rfl)
       have hgm : wr.heap.size ≤ gm := hfr _ _ _ rfl
       obtain ⟨m3, hm3⟩ : ∃ m3, sp.length = m3 + 1 := ⟨sp.length - 1, by have := List.length_pos_iff.2 (hsl.2 rfl); omega⟩
       have hl3 := hma m3 (by omega)
       have HSC := zH (HST.out.ext hxc)
       have hbv : gv < wr.heap.size := HBV.out.lt
       have h10 : X10 < wr.heap.size := HST.out.b10.lt
       have HAP := zH (appd_any w.heap.size gv (.slice (some ⟨gv, 0, none⟩) pts.length cap) pts (.slice (some ⟨gm, om, none⟩) sp.length cm) sp wc HNE.out.1 HSC.out.row rfl (Nat.le_trans HST.out.x.size hxc.size) ⟨_, cm, rfl, fun _ => ⟨gm, om, rfl, hma⟩⟩ (fun A l c h => by injection h with h; injection h with h; subst h; show gm ≠ gv; omega) (by have := HPZ.out; omega))
       have hgy : sp.getD m3 (0, 0) = sp.getLastD (0, 0) := by rw [getLastD_get, hm3]; rfl
       rw [hgy] at hl3
       have HL3 := zH hl3
       have HGM := zH (And.intro hgm (And.intro hbv h10))
       have c10 := HSC.out.b10.cell 0
       simp at c10
       have HM3 := zH hm3
       clear hsl hm hma hl3 hgm hbv h10 hfr hxc hgy
       rw [hm3] at HAP
       go_upto_region 14 with (first | (go_at_call 30; refine HAP.out.mono ?_; rintro e w3 ⟨v', rfl, hap⟩; obtain ⟨gq, cq, rq, rfl, hbq⟩ := hap.form; have hb10 := HSC.out.b10.only hap.only (fun e => by have := HSC.out.own; obtain ⟨j, hj, _, _, j10⟩ := this; simp [Value.ownBlock] at hj; omega); have z10 := hb10.cell 0; simp at z10; have f10 := hb10.frozen 0))
       have h14 := HSC.out.app rfl hap
       have hgvm : gm ≠ gv := by have := HGM.out; omega
       have hgx : gm ≠ X10 := by have := HGM.out; omega
       have o14 := (Own.refl X10 w3).set_at 0 none (.slice (some ⟨gq, 0, none⟩) (putV pts sp).length cq)
       have lm0 := o14.get (hap.only.get HL3.out.1 hgvm) hgx
       have lm1 := o14.get (hap.only.get HL3.out.2 hgvm) hgx
       have HST4 := zH h14
       generalize w3.setCell ⟨X10, 0, none⟩ (.slice (some ⟨gq, 0, none⟩) (putV pts sp).length cq) = w4 at *
       clear h14 hgvm hgx o14 z10 f10 hb10 hbq hap c10
       have n0 := HST4.out.b9.cell 0
       have n1 := HST4.out.b9.cell 1
       simp at n0 n1
       have nf0 := HST4.out.b9.frozen 0
       have nf1 := HST4.out.b9.frozen 1
       have r1 : ((m3 + 1 : Nat) : Int) - 1 = (m3 : Int) := by omega
       have r3 : (m3 : Int) + 1 - 1 = (m3 : Int) := by omega
       have r5 : (m3 : Int) < (m3 : Int) + 1 := by omega
       have r6 : (0 : Int) ≤ (m3 : Int) := by omega
       have r7 : m3 ≤ 20000 := by have := HSL.out.1; have := HM3.out; omega
       generalize hzl : sp.getLastD (0, 0) = zl at lm0 lm1
       have HZL := zH hzl
       clear hzl
       go_upto_region 15 with fail
       have h15 : SubSt w ((w4.setCell ⟨X9, 0, none⟩ (.int .i64 zl.1)).setCell ⟨X9, 1, none⟩ (.int .i64 zl.2)) X6 X9 X10 (.slice (some ⟨gq, 0, none⟩) (putV pts sp).length cq) (putV pts sp) zl false := HST4.out.now zl
       have HST5 := zH h15
       generalize (w4.setCell ⟨X9, 0, none⟩ (.int .i64 zl.1)).setCell ⟨X9, 1, none⟩ (.int .i64 zl.2) = w5 at *
       clear h15 n0 n1 nf0 nf1 lm0 lm1
       go_wp2_with fail
       go_roundg (l.length - (k + 1))
       case measure => have := HLT.out; omega
       case rel => exact ⟨k + 1, _, putV pts sp, Nat.lt_succ_of_lt HNE.out.2.2.2, HLT.out, rfl, by go_num, HSM.out, putV_ne HNE.out.1, HNE.out.2.1.putV, (by have h1 := (putV_len pts sp).2; have h2 := HSL.out.1; have h3 := HNE.out.2.2.1; omega), (by rw [putV_last (HSL.out.2 (by trivial)), HZL.out]; exact HST5.out)⟩
      ·have HEN := zH (err_end HLT.out (says_errR HTO.out HV15.out.1 HV15.out.2 HLT.out HG.out HYL.out HER.out.1 he) he)
       have be : (er != 0) = true := by simp [bne, he]
       have HSC := zH (HST.out.ext hxc)
       have HE := zH he
       clear hpt hfr hxc he
       go_upto_region 12 with fail
       refine wp_region_lit ?_
       refine mv_val (v := (.agg #[.slice none 0 0, .bool false])) (w' := wc) (by rfl) (by go_simp) ?_
       (try simp only [Act.put, zA, zB, zC])
       refine pV (w' := wc) ?_
       (try simp only [Act.put, zA, zB, zC])
       refine pO #[.slice none 0 0, .bool false] HSC.out.b6 rfl (by kernel_rfl) (by simp [Value.oneCell']) ?_
       (try simp only [Act.put])
       obtain ⟨e1, e2, e3⟩ := HSC.out.res (.slice none 0 0) false
       have H1 := zH e1
       have H2 := zH e2
       clear e1 e2 e3
       generalize hwz : World.setCells wc X6 0 _ = wz at *
       refine pV (w' := wz) ?_
       (try simp only [Act.put, zA, zB, zC])
       refine pV (w' := wz) ?_
       (try simp only [Act.put, zA, zB, zC])
       go_wp2_with fail
       refine bodyPost_ret (v := .tuple #[.agg #[.slice none 0 0, .bool false], .int .i64 0, .int .i64 er]) ?_ rfl ?_
       ·exact results_c1t2 rfl rfl (H1.out.loadVar Try.underlying31 rfl (by kernel_rfl)) rfl rfl
       exact ⟨none, [], 0, 0, false, _, _, rfl, H2.out, Or.inl ⟨HE.out, HEN.out⟩⟩
  ·have hge : ¬ (k : Int) < (l.length : Int) := by omega
   go_upto_region 16 with fail
   refine wp_region_lit ?_
   refine pL HST.out.b10 Try.underlying31 (by kernel_rfl) ?_
   (try simp only [Act.put, zA, zB, zC])
   refine pV (w' := wr) ?_
   (try simp only [Act.put, zA, zB, zC])
   refine pO #[(.slice (some ⟨gv, 0, none⟩) pts.length cap), .bool false] HST.out.b6 rfl (by kernel_rfl) (by simp [Value.oneCell']) ?_
   (try simp only [Act.put])
   obtain ⟨e1, e2, e3⟩ := HST.out.res (.slice (some ⟨gv, 0, none⟩) pts.length cap) false
   have H1 := zH e1
   have H2 := zH e2
   have H3 := zH e3
   clear e1 e2 e3
   generalize hwz : World.setCells wr X6 0 _ = wz at *
   refine pV (w' := wz) ?_
   (try simp only [Act.put, zA, zB, zC])
   refine pV (w' := wz) ?_
   (try simp only [Act.put, zA, zB, zC])
   go_wp2_with fail
   refine bodyPost_ret (v := .tuple #[.agg #[(.slice (some ⟨gv, 0, none⟩) pts.length cap), .bool false], .int .i64 (k : Nat), .int .i64 0]) ?_ rfl ?_
   ·exact results_c1t2 rfl rfl (H1.out.loadVar Try.underlying31 rfl (by kernel_rfl)) rfl rfl
   exact ⟨some ⟨gv, 0, none⟩, pts, pts.length, cap, false, _, _, rfl, H2.out, Or.inr ⟨rfl, k, rfl, HNE.out.2.2.2, (by omega), HTO.out, HNE.out.1, HNE.out.2.2.1, (fun h => absurd h (by omega)), rfl, H3.out, gv, rfl⟩⟩
end Go.Proofs.Ytjkddchkjkocbaa

namespace Go.Proofs.Ytjkddchkjkocbaa
open Go.RowKit
attribute [local go_sem ↓] Go.wp_at_zero Go.wp_at_succ run_eql_point run_neq_point run_max_ii run_min_ii

theorem RowN.mono {w : World} {base base' : Nat} {e : TypeId} {size : Nat} {v : Value} {n : Nat} {xs : List Value} (h : RowN w base e size v n xs) (hb : base' ≤ base) : RowN w base' e size v n xs := by
  obtain ⟨h1, h2 | ⟨g, cap, rest, rfl, b, c⟩⟩ := h
  · exact ⟨h1, .inl h2⟩
  · exact ⟨h1, .inr ⟨g, cap, rest, rfl, Nat.le_trans hb b, c⟩⟩
theorem Plys.empty (w : World) : Plys (w.alloc (.cells #[] 31)) w.heap.size (.slice (some ⟨w.heap.size, 0, none⟩) 0 0) [] :=
  ⟨RowN.made' (xs := []) (Blk.new w 31 #[]) (Nat.le_refl _) rfl (fun x hx => by simp at hx) (Nat.zero_le _), fun e he => by simp at he, fun e he => by simp at he, List.Pairwise.nil, by rw [World.size_alloc]; omega⟩
theorem rvalid_t {u : Value} {l : List Sg} {w : World} (hu : SegsV w u l) (hn : l.length ≤ 300) (hp : PV l) : Calls Try.prog 15 #[u] w fun e w' => e = .returned (.bool true) ∧ Ext w w' := by
  refine (rpathValid_any u l w hu hn).mono ?_
  rintro e w' ⟨b, rfl, hb, hx⟩
  exact ⟨by rw [hb.2 hp], hx⟩
theorem rvalid_f {u : Value} {l : List Sg} {w : World} (hu : SegsV w u l) (hn : l.length ≤ 300) (hp : ¬ PV l) : Calls Try.prog 15 #[u] w fun e w' => e = .returned (.bool false) ∧ Ext w w' := by
  refine (rpathValid_any u l w hu hn).mono ?_
  rintro e w' ⟨b, rfl, hb, hx⟩
  refine ⟨?_, hx⟩
  cases b with
  | false => rfl
  | true => exact absurd (hb.1 rfl) hp
theorem vt_t {t : Int} (h : 1 ≤ t ∧ t ≤ 256) (w : World) : Calls Try.prog 16 #[.int .i64 t] w fun e w' => e = .returned (.bool true) ∧ w = w' := by
  refine (validTol_any t w).mono ?_
  rintro e w' ⟨rfl, rfl⟩
  simp [h.1, h.2]
theorem vt_f {t : Int} (h : ¬ (1 ≤ t ∧ t ≤ 256)) (w : World) : Calls Try.prog 16 #[.int .i64 t] w fun e w' => e = .returned (.bool false) ∧ w = w' := by
  refine (validTol_any t w).mono ?_
  rintro e w' ⟨rfl, rfl⟩
  refine ⟨?_, rfl⟩
  congr 2
  by_cases h1 : 1 ≤ t
  · simp [h1]; omega
  · simp [h1]
theorem plys_nil_st {w w' : World} {tol : Int} {l : List Sg} {v : Value} (h : Plys w' w.heap.size v []) (x : Ext w w') : PathSt w w' w.heap.size tol l 0 v [] :=
  ⟨rfl, fun h => absurd h (Nat.lt_irrefl _), fun e he => by simp at he, Nat.le_refl _, h, x⟩
theorem PathSt.upto {w w' : World} {base : Nat} {tol : Int} {l : List Sg} {k k2 : Nat} {v' : Value} {L0 : List PlE} {e : PlE} (hL : ∀ q, q ∈ L0 → q.pts ≠ [] ∧ q.pts.length ≤ 1 + 64 * k) (hl : L0.length ≤ k) (hk : k < k2) (says : pathTo tol l k2 = (0, plOf (L0 ++ [e]))) (hne : e.pts ≠ []) (hle : e.pts.length ≤ 1 + 64 * k2) (pl : Plys w' base v' (L0 ++ [e])) (x : Ext w w') : PathSt w w' base tol l k2 v' (L0 ++ [e]) := by
  refine ⟨says, fun _ => by simp, fun q hq => ?_, by rw [List.length_append]; simp; omega, pl, x⟩
  rcases List.mem_append.1 hq with hq | hq
  · exact ⟨(hL q hq).1, by have := (hL q hq).2; omega⟩
  · simp at hq
    subst hq
    exact ⟨hne, hle⟩
theorem PathSt.tot {w w' : World} {base : Nat} {tol : Int} {l : List Sg} {k : Nat} {v : Value} {L : List PlE} (h : PathSt w w' base tol l k v L) (hk : k ≤ 300) : total (plOf L) ≤ 6000000 := by
  have h1 := total_le (L := L) (fun e he => by have := (h.pts e he).2; omega) L.length
  have h2 := h.len
  rw [List.take_length] at h1
  omega
theorem Plys.mono {w : World} {base base' : Nat} {v : Value} {L : List PlE} (h : Plys w base v L) (hb : base' ≤ base) : Plys w base' v L :=
  ⟨h.row.mono hb, fun e he => (h.el e he).mono hb, h.own, h.apart, Nat.le_trans hb h.base⟩
theorem first_v {l : List Sg} (h : PV l) (hk : 0 < l.length) : (l.getD 0 sg0).v = 1 := by
  have h2 := h.2 0 hk
  rw [lastV_zero] at h2
  unfold okSg standsV at h2
  simp at h2
  simpa using h2.1.2
theorem out_bad {tol er : Int} {l : List Sg} (hp : PV l) (ht : ¬ (tol < 1 ∨ 256 < tol)) (h : pathTo tol l l.length = (er, [])) (he : er ≠ 0) : PathOut tol l er (plOf []) := by
  refine Or.inr (Or.inr (Or.inl ⟨hp, ht, ?_, ?_, rfl⟩))
  · rw [h]; exact he
  · rw [h]
set_option maxRecDepth 20000 in
set_option maxHeartbeats 8000000 in
theorem rpath_any (u : Value) (l : List Sg) (tol : Int) (w : World) (hu : SegsV w u l) (hn : l.length ≤ 300) :
    Calls Try.prog 6 #[u, .int .i64 tol] w (PathSays tol l w) := by
  by_cases hp : PV l
  · have HV := zH (rvalid_t hu hn hp)
    by_cases ht : tol < 1
    · have HVT := zH (vt_f (t := tol) (by omega))
      have HO := zH (show PathOut tol l 2 (plOf []) from Or.inr (Or.inl ⟨hp, Or.inl ht, rfl, rfl⟩))
      clear hp hu
      go_enter Try.func6, Try.ntmps6
      go_wp2_with (first | (go_at_call 15; refine HV.out.mono ?_; rintro e w1 ⟨rfl, hx⟩; have HX := zH hx; clear hx) | (go_at_call 16; refine (HVT.out _).mono ?_; rintro e w2 ⟨rfl, rfl⟩))
      go_ret2
      exact ⟨.slice none 0 0, [], 2, rfl, HO.out, Plys.nil _ _ HX.out.size, HX.out⟩
    · by_cases ht2 : 256 < tol
      · have HVT := zH (vt_f (t := tol) (by omega))
        have HO := zH (show PathOut tol l 2 (plOf []) from Or.inr (Or.inl ⟨hp, Or.inr ht2, rfl, rfl⟩))
        clear hp hu
        go_enter Try.func6, Try.ntmps6
        go_wp2_with (first | (go_at_call 15; refine HV.out.mono ?_; rintro e w1 ⟨rfl, hx⟩; have HX := zH hx; clear hx) | (go_at_call 16; refine (HVT.out _).mono ?_; rintro e w2 ⟨rfl, rfl⟩))
        go_ret2
        exact ⟨.slice none 0 0, [], 2, rfl, HO.out, Plys.nil _ _ HX.out.size, HX.out⟩
      · have HVT := zH (vt_t (t := tol) (by omega))
        have HP := zH hp
        have HT := zH (show ¬ (tol < 1 ∨ 256 < tol) from fun h => h.elim ht ht2)
        have HU := zH hu
        obtain ⟨A, cu, rfl, hA⟩ := hu
        have HN := zH hn
        obtain ⟨i0, hi, hz0, hz1, hz2⟩ := info_parts infoPl
        have HI := zH (And.intro hi (And.intro hz0 (And.intro hz1 hz2)))
        clear hi hz0 hz1 hz2 hA hp hn
        go_enter Try.func6, Try.ntmps6
        go_wp2_with (first | (go_at_call 15; refine HV.out.mono ?_; rintro e w1 ⟨rfl, hx⟩; have HX := zH hx; clear hx) | (go_at_call 16; refine (HVT.out _).mono ?_; rintro e w2 ⟨rfl, rfl⟩))
        have HE0 := zH (Plys.empty w1)
        have HX2 := zH (HX.out.alloc (.cells #[] 31))
        have hbx : w.heap.size ≤ w1.heap.size := HX.out.size
        have HBX := zH hbx
        clear hbx
        go_loopg [6, 7, 8] l.length (fun n out s i wr => ∃ (k : Nat) (L : List PlE), k ≤ l.length ∧ n = l.length - k ∧ i = .int .i64 k ∧ s = .int .i64 (total (plOf L) : Nat) ∧ (k < l.length → (l.getD k sg0).v = 1) ∧ PathSt w wr w.heap.size tol l k out L)
        case atStart => exact ⟨0, [], Nat.zero_le _, rfl, rfl, rfl, fun h => first_v HP.out h, plys_nil_st (HE0.out.mono HBX.out) HX2.out⟩
        case round =>
          obtain ⟨k, L, hk, rfl, rfl, rfl, hf1, hst⟩ := hrel
          have HST := zH hst
          clear hst ht ht2
          have hk3 : k ≤ 300 := by have := HN.out; omega
          by_cases hlt : k < l.length
          · have HSUB := zH (subpath_any _ l tol k (plOf L) wr (HU.out.ext HST.out.x) HN.out HP.out hlt (hf1 hlt) HST.out.says)
            have HLT := zH hlt
            have hlt2 : (k : Int) < (l.length : Int) := by omega
            have HTO := zH (HST.out.tot hk3)
            clear hf1
            go_upto_region 10 with (go_at_call 17; refine HSUB.out.mono ?_; rintro e w2 ⟨As, pts, n, c, cl, next, er, rfl, hx, hor⟩)
            have hb9 := Blk.new w2 31 #[.slice As n c, .bool cl]
            have hx9 : Ext w2 (w2.alloc (.cells #[.slice As n c, .bool cl] 31)) := (Ext.refl _).alloc _
            have hs9 : wr.heap.size ≤ w2.heap.size := hx.size
            generalize w2.alloc (.cells #[.slice As n c, .bool cl] 31) = wa at *
            generalize hX9 : w2.heap.size = X9 at *
            clear hX9
            have HB9 := zH hb9
            have HXA := zH (hx.trans hx9)
            rcases hor with ⟨he, hpe⟩ | ⟨rfl, k2, rfl, hkk, hk2, hto, hne, hle, hnx, rfl, hrow, b, hob⟩
            · have be : (er != 0) = true := by simp [bne, he]
              have HO := zH (out_bad HP.out HT.out hpe he)
              have HXX := zH (HST.out.x.trans HXA.out)
              clear hb9 hx9 hx hs9 hpe he
              go_wp2_with fail
              go_ret2
              exact ⟨.slice none 0 0, [], er, rfl, HO.out, Plys.nil _ _ HXX.out.size, HXX.out⟩
            · have hra := hrow.ext hx9
              have s0 := hb9.cell 0
              have s1 := hb9.cell 1
              simp at s0 s1
              have HH := zH (And.intro hto (And.intro hne (And.intro hle (And.intro hkk hnx))))
              have HR := zH (And.intro hra hob)
              have HK2 := zH hk2
              have hpl : pts.length ≤ 20000 := by have := HN.out; omega
              have htt := HTO.out
              generalize hN : total (plOf L) = N at *
              have HNN := zH hN
              clear hra hrow hto hne hle hkk hnx hb9 hx9 hx hob hk2 hN
              go_upto_region 13 with fail
              refine wp_region_lit ?_
              refine pV (w' := wa) ?_
              (try simp only [Act.put, zA, zB, zC])
              refine pV (w' := wa) ?_
              (try simp only [Act.put, zA, zB, zC])
              refine mv_val (v := (.slice (some ⟨wa.heap.size, 0, none⟩) 1 1)) (w' := (wa.alloc (.cells #[(.slice As pts.length c), .bool cl] 31))) (by rfl) (by go_simp) ?_
              (try simp only [Act.put, zA, zB, zC])
              have hx2 : Ext wa (wa.alloc (.cells #[(.slice As pts.length c), .bool cl] 31)) := (Ext.refl _).alloc _
              have hpl2 := HST.out.pl.ext (HXA.out.trans hx2)
              refine wpList_if (by rfl) (wp_append_rowF _ _ 24 (by rfl) w.heap.size 31 i0 _ 2 32 Try.underlying24 HI.out.1 HI.out.2.1 HI.out.2.2.1 HI.out.2.2.2 rfl (by decide) noUL_zpl _ L.length (plCells L) (by rfl) hpl2.row ⟨wa.heap.size, 0, none⟩ 1 1 [(.slice As pts.length c), .bool cl] (by rfl) rfl (two_new _ _ _ _) (one_pl _ _ ⟨_, HR.out.2⟩) (noUL_pl _ _ ⟨_, HR.out.2⟩) (by decide) (by have := HST.out.len; unfold maxLen; omega) (by have := HST.out.len; omega) hpl2.base ?_)
              intro gx cx w3 hf q2 q3 _q4
              (try simp only [Act.put, zA, zB, zC])
              have hsn := HST.out.pl.snoc (HXA.out.trans hx2) (e := ⟨(.slice As pts.length c), pts, cl⟩) ((HR.out.1.mono HST.out.x.size).ext hx2) b HR.out.2 (HR.out.1.block b HR.out.2) q2 q3 hf
              have hxx : Ext w w3 := ((HST.out.x.trans HXA.out).trans hx2).grown q3 (fun j hj => HST.out.pl.row.block j hj)
              have hnx := PathSt.upto (e := ⟨(.slice As pts.length c), pts, cl⟩) HST.out.pts HST.out.len HH.out.2.2.2.1 (by rw [plOf_snoc]; exact HH.out.1) HH.out.2.1 HH.out.2.2.1 hsn hxx
              have HNX := zH hnx
              clear hnx hsn hxx q2 q3 hf hpl2 hx2 _q4
              refine mv_val (v := .slice (some ⟨gx, 0, none⟩) (L.length + 1) cx) (w' := w3) (by rfl) (by go_simp) ?_
              (try simp only [Act.put, zA, zB, zC])
              go_wp2_with fail
              go_roundg (l.length - k2)
              case measure => have h1 := HLT.out; have h2 := HH.out.2.2.2.1; omega
              case rel => exact ⟨k2, _, HK2.out, rfl, rfl, by rw [plOf_snoc, total_snoc, HNN.out]; go_num, HH.out.2.2.2.2, HNX.out⟩
          · obtain rfl : k = l.length := by omega
            have hge : ¬ (l.length : Int) < (l.length : Int) := by omega
            have HTT := zH HST.out.says
            have htt := HST.out.tot hk3
            generalize hN : total (plOf L) = N at *
            clear hf1
            by_cases hbig : 4096 < N
            · have hO := out_big HP.out HT.out HTT.out hN hbig
              have HO := zH hO
              clear hO hN
              have hb2 : (4096 : Int) < (N : Int) := by omega
              go_wp2_with fail
              go_ret2
              exact ⟨.slice none 0 0, [], 5, rfl, HO.out, Plys.nil _ _ HST.out.x.size, HST.out.x⟩
            · have hO := out_ok HP.out HT.out HTT.out hN hbig
              have HO := zH hO
              clear hO hN
              have hb2 : ¬ (4096 : Int) < (N : Int) := by omega
              go_wp2_with fail
              go_ret2
              exact ⟨_, L, 0, rfl, HO.out, HST.out.pl, HST.out.x⟩
  · have HV := zH (rvalid_f hu hn hp)
    have HO := zH (show PathOut tol l 10 (plOf []) from Or.inl ⟨hp, rfl, rfl⟩)
    clear hp hu
    go_enter Try.func6, Try.ntmps6
    go_wp2_with (first | (go_at_call 15; refine HV.out.mono ?_; rintro e w1 ⟨rfl, hx⟩; have HX := zH hx; clear hx) | (go_at_call 16; refine (HVT.out _).mono ?_; rintro e w2 ⟨rfl, rfl⟩))
    go_ret2
    exact ⟨.slice none 0 0, [], 10, rfl, HO.out, Plys.nil _ _ HX.out.size, HX.out⟩
end Go.Proofs.Ytjkddchkjkocbaa

namespace Go.Proofs.Ytjkddchkjkocbaa
open Go.RowKit
attribute [local go_sem ↓] Go.wp_at_zero Go.wp_at_succ run_eql_point run_neq_point run_max_ii run_min_ii

abbrev PP := List (Int × Int) × Bool
def PlV (w : World) (v : Value) (ps : List PP) : Prop :=
  ∃ A c, v = .slice A ps.length c ∧ (ps ≠ [] → ∃ g, A = some ⟨g, 0, none⟩ ∧ ∀ j, j < ps.length → ∃ As cs, w.cell? ⟨g, j * 2, none⟩ = some (.slice As (ps.getD j ([], false)).1.length cs) ∧ w.cell? ⟨g, j * 2 + 1, none⟩ = some (.bool (ps.getD j ([], false)).2) ∧ PtsV w (.slice As (ps.getD j ([], false)).1.length cs) (ps.getD j ([], false)).1)
theorem PlV.ext {w w' : World} {v : Value} {ps : List PP} (h : PlV w v ps) (x : Ext w w') : PlV w' v ps := by
  obtain ⟨A, c, rfl, h1⟩ := h
  refine ⟨A, c, rfl, fun hn => ?_⟩
  obtain ⟨g, hg, h2⟩ := h1 hn
  refine ⟨g, hg, fun j hj => ?_⟩
  obtain ⟨As, cs, e1, e2, e3⟩ := h2 j hj
  exact ⟨As, cs, x.get e1, x.get e2, e3.ext x⟩
theorem plOf_getD (L : List PlE) (j : Nat) : (plOf L).getD j ([], false) = ((L.getD j ⟨.slice none 0 0, [], false⟩).pts, (L.getD j ⟨.slice none 0 0, [], false⟩).cl) := by
  unfold plOf
  simp only [List.getD_eq_getElem?_getD, List.getElem?_map]
  cases L[j]? <;> rfl
theorem plOf_length (L : List PlE) : (plOf L).length = L.length := by unfold plOf; rw [List.length_map]
theorem Plys.reads {w : World} {base : Nat} {v : Value} {L : List PlE} (h : Plys w base v L) : PlV w v (plOf L) := by
  obtain ⟨A, c, hv, h1⟩ := h.read
  refine ⟨A, c, by rw [plOf_length]; exact hv, fun hn => ?_⟩
  obtain ⟨g, hg, h2⟩ := h1 (fun e => hn (by rw [e]; rfl))
  refine ⟨g, hg, fun j hj => ?_⟩
  rw [plOf_length] at hj
  obtain ⟨As, cs, e1, e2⟩ := h2 j hj
  rw [plOf_getD]
  refine ⟨As, cs, e1, e2, ?_⟩
  have he : L.getD j ⟨.slice none 0 0, [], false⟩ ∈ L := by simp [List.getD, hj]
  obtain ⟨A2, c2, hs⟩ := RowN.slice (h.el _ he)
  obtain ⟨_, ⟨e, hz⟩ | ⟨gv, cap, rest, rfl, p1, p2, _⟩⟩ := h.row
  · exact absurd hj (by omega)
  · injection hv with ha hb hc
    rw [hg] at ha
    injection ha with ha
    injection ha with ha
    subst ha
    have q := plCells_get L j (L.getD j ⟨.slice none 0 0, [], false⟩) (by simp [List.getD, hj])
    have c1 := (p2.cell (j * 2)).trans (show _ = some (L.getD j ⟨.slice none 0 0, [], false⟩).s by rw [List.getElem?_toArray, List.getElem?_append_left (List.getElem?_eq_some_iff.1 q.1).1]; exact q.1)
    rw [e1] at c1
    injection c1 with c1
    show PtsV w (.slice As (L.getD j ⟨.slice none 0 0, [], false⟩).pts.length cs) _
    rw [c1]
    exact (h.el _ he).pts
theorem samePt_t {u v : Value} {ps : List (Int × Int)} {w : World} (hu : PtsV w u ps) (hv : PtsV w v ps) (h1 : ps.length ≤ 100000) :
    Calls Try.prog 10 #[u, v] w fun e w' => e = .returned (.bool true) ∧ Ext w w' := by
  refine (samePts_any u v ps ps w hu hv h1 h1).mono ?_
  rintro e w' ⟨rfl, hx⟩
  exact ⟨by simp, hx⟩
set_option maxRecDepth 20000 in
set_option maxHeartbeats 4000000 in
theorem same_any (u v : Value) (ps : List PP) (w : World) (hu : PlV w u ps) (hv : PlV w v ps) (hn : ps.length ≤ 300) (hl : ∀ p, p ∈ ps → p.1.length ≤ 100000) :
    Calls Try.prog 7 #[u, v] w fun e w' => e = .returned (.bool true) ∧ Ext w w' := by
  obtain ⟨A, ca, rfl, hA⟩ := hu
  obtain ⟨B, cb, rfl, hB⟩ := hv
  have hne : ((ps.length : Int) != (ps.length : Int)) = false := by simp
  have HA := zH hA
  have HB := zH hB
  have HL := zH hl
  clear hA hB hl
  go_enter Try.func7, Try.ntmps7
  go_wp2_with fail
  go_loopg [5] ps.length (fun n i wr => ∃ k : Nat, k ≤ ps.length ∧ n = ps.length - k ∧ i = .int .i64 k ∧ Ext w wr)
  case atStart => exact ⟨0, Nat.zero_le _, rfl, rfl, Ext.refl _⟩
  case round =>
    obtain ⟨k, hk, rfl, rfl, hx⟩ := hrel
    by_cases hlt : k < ps.length
    · obtain ⟨ga, rfl, ha⟩ := HA.out (by rintro rfl; simp at hlt)
      obtain ⟨gb, rfl, hb⟩ := HB.out (by rintro rfl; simp at hlt)
      obtain ⟨A1, c1, a1, a2, a3⟩ := ha k hlt
      obtain ⟨B1, d1, b1, b2, b3⟩ := hb k hlt
      have hm : ps.getD k ([], false) ∈ ps := by simp [List.getD, hlt]
      have hlen := HL.out _ hm
      have HS := zH (fun W (hW : Ext wr W) => samePt_t (a3.ext (hx.trans hW)) (b3.ext (hx.trans hW)) hlen)
      clear a3 b3 ha hb hm
      have a1 := hx.get a1
      have a2 := hx.get a2
      have b1 := hx.get b1
      have b2 := hx.get b2
      generalize (ps.getD k ([], false)).1 = pts at *
      generalize (ps.getD k ([], false)).2 = cl at *
      have HX := zH hx
      have hlt2 : (k : Int) < (ps.length : Int) := by omega
      have f1 : ∀ x, Ext wr x → x.cell? ⟨ga, k * 2, none⟩ = some (.slice A1 pts.length c1) := fun x h => h.get a1
      have f2 : ∀ x, Ext wr x → x.cell? ⟨ga, k * 2 + 1, none⟩ = some (.bool cl) := fun x h => h.get a2
      have f3 : ∀ x, Ext wr x → x.cell? ⟨gb, k * 2, none⟩ = some (.slice B1 pts.length d1) := fun x h => h.get b1
      have f4 : ∀ x, Ext wr x → x.cell? ⟨gb, k * 2 + 1, none⟩ = some (.bool cl) := fun x h => h.get b2
      have bcl : (cl != cl) = false := by simp
      clear a1 a2 b1 b2 hx
      go_upto_region 6 with fail
      go_region_held3 (fun w' => Ext wr w') (first | assumption | exact Ext.drew (Ext.refl _) | (apply Ext.via; assumption; assumption)) (first | (go_at_call 10; refine (HS.out _ (by first | assumption | exact Ext.drew (Ext.refl _) | (apply Ext.via; assumption; assumption))).mono ?_; rintro e w2 ⟨rfl, hx2⟩))
      all_goals go_wp2_with fail
      all_goals go_roundg (ps.length - (k + 1))
      all_goals first | (case' measure => omega) | skip
      case rel => exact ⟨k + 1, hlt, rfl, by go_num, HX.out.trans ‹Ext wr _›⟩
    · obtain rfl : k = ps.length := by omega
      have hge : ¬ (ps.length : Int) < (ps.length : Int) := by omega
      go_wp2_with fail
      go_ret
      exact ⟨rfl, hx⟩
end Go.Proofs.Ytjkddchkjkocbaa

namespace Go.Proofs.Ytjkddchkjkocbaa
open Go.ChangeShapes Go.WideShapes Go.ChangeAt Go.RowKit

theorem own : ownKnob Try.prog.godebug = none := by kernel_rfl
theorem laidOut : laidOutB Try.prog = true := by kernel_rfl
theorem cells_int : Try.prog.cellsOf 3 = 1 := by kernel_rfl
theorem cells_pt : Try.prog.cellsOf 33 = 2 := by kernel_rfl
section
variable {H : Type} {enc : TypeId × Value → H} {w : World} {base : Nat} {spare : Nat → Bool} {held : Bool}

theorem pt_open {fuel : Nat} {cs : List Value} {x : DataW H × List MemPlace} (h : DataW.trod enc Try.prog w base spare held fuel 33 cs = some x) : ∃ a : Int × Int, cs = [.int .i64 a.1, .int .i64 a.2] := by
  obtain ⟨y0, y1, n, _, hl, h0, h1⟩ := trod_struct2 Try.underlying33 h
  rw [cells_pt] at hl
  rw [cells_int] at h0 h1
  obtain ⟨a, e0, _, _⟩ := DataW.trod_int Try.underlying3 h0
  obtain ⟨b, e1, _, _⟩ := DataW.trod_int Try.underlying3 h1
  match cs, hl with
  | [u, v], _ =>
    simp at e0 e1
    exact ⟨(a, b), by rw [e0, e1]⟩

end
end Go.Proofs.Ytjkddchkjkocbaa

namespace Go.Proofs.Ytjkddchkjkocbaa
open Go.ChangeShapes Go.WideShapes Go.ChangeAt Go.RowKit

section
variable {H : Type} {enc : TypeId × Value → H} {P : Program} {w : World} {base : Nat} {spare : Nat → Bool} {held : Bool}

theorem slice_open {t e : TypeId} {fuel : Nat} {cs : List Value} {x : DataW H × List MemPlace} (ht : P.underlying t = some (.slice e)) (hs : 0 < P.cellsOf e) (h : DataW.trod enc P w base spare held fuel t cs = some x) :
    ∃ A len cap, cs = [.slice A len cap] ∧ len ≤ cap ∧ cap ≤ maxLen ∧ (0 < len → ∃ g off, A = some ⟨g, off, none⟩ ∧ ∀ i, i < len → ∃ (cs' : List Value) (n : Nat) (y : DataW H × List MemPlace), cs'.length = P.cellsOf e ∧
      (∀ j u, cs'[j]? = some u → w.cell? ⟨g, off + i * P.cellsOf e + j, none⟩ = some u) ∧ DataW.trod enc P w base spare held n e cs' = some y) := by
  rcases Deep.open_slice ht h with ⟨rfl, _⟩ | ⟨a, len, cap, m, n, D, Pl, rfl, hb, hl, hm, hmm, _, hx⟩
  · exact ⟨none, 0, 0, rfl, Nat.le_refl _, Nat.zero_le _, fun h0 => absurd h0 (by omega)⟩
  · refine ⟨some a, len, cap, rfl, hl, hm, fun h0 => ?_⟩
    have hle : len ≤ m := by rw [hmm]; split <;> omega
    have hsp : a.spot = none := by
      obtain ⟨cs', h1, h2⟩ := hx 0 (by omega)
      obtain ⟨_, hlen, hcell⟩ := World.cells?_some h1
      have g0 := hcell 0 hs
      cases hq : a.spot with
      | none => rfl
      | some s =>
        exfalso
        obtain ⟨c0, hc0⟩ : ∃ c0, cs'[0]? = some c0 := by
          cases cs' with
          | nil => simp at hlen; omega
          | cons c _ => exact ⟨c, rfl⟩
        rw [hc0] at g0
        have e : ((a.add (0 * P.cellsOf e)).add 0).spot = some s := by simp [Addr.add, hq]
        unfold World.cell? at g0
        rw [e] at g0
        revert g0
        split <;> simp
    obtain ⟨g, off, sp⟩ := a
    obtain rfl : sp = none := hsp
    refine ⟨g, off, rfl, fun i hi => ?_⟩
    obtain ⟨cs', h1, h2⟩ := hx i (by omega)
    obtain ⟨_, hlen, hcell⟩ := World.cells?_some h1
    refine ⟨cs', n, _, hlen, fun j u hj => ?_, h2⟩
    have hjl : j < P.cellsOf e := by
      have := (List.getElem?_eq_some_iff.1 hj).1
      omega
    have g1 := hcell j hjl
    rw [hj] at g1
    have e : ((⟨g, off, none⟩ : Addr).add (i * P.cellsOf e)).add j = ⟨g, off + i * P.cellsOf e + j, none⟩ := by
      rw [Deep.add_add]
      unfold Addr.add
      by_cases hz : i * P.cellsOf e + j = 0
      · rw [if_pos hz]
        congr 1
        omega
      · rw [if_neg hz]
        congr 1
        show off + (i * P.cellsOf e + j) = off + i * P.cellsOf e + j
        omega
    rw [e] at g1
    exact g1
end
theorem list_of {α : Type} [Inhabited α] (n : Nat) (p : Nat → α → Prop) (h : ∀ i, i < n → ∃ x, p i x) : ∃ l : List α, l.length = n ∧ ∀ i (d : α), i < n → p i (l.getD i d) := by
  obtain ⟨f, hf⟩ := Deep.choose_lt (p := p) h
  refine ⟨(List.range n).map f, by simp, fun i d hi => ?_⟩
  have e : ((List.range n).map f).getD i d = f i := by simp [List.getD, hi]
  rw [e]
  exact hf i hi
end Go.Proofs.Ytjkddchkjkocbaa
