/- How a law's arguments are opened: points and arrays of four points. -/
import Derived.Test.YtkepeihlggkadaaRows
import Derived.ProofKit
import Derived.OpenShut
import Derived.Below
import Derived.Test.YtkepeihlggkadaaBase
namespace Go.Proofs.Ytkepeihlggkadaa
open Go.ChangeShapes Go.WideShapes Go.ChangeAt Go.RowKit

theorem own : ownKnob Try.prog.godebug = none := by kernel_rfl
theorem laidOut : laidOutB Try.prog = true := by kernel_rfl
theorem cells_int : Try.prog.cellsOf 3 = 1 := by kernel_rfl
theorem cells_pt : Try.prog.cellsOf 23 = 2 := by kernel_rfl
theorem cells_pts4 : Try.prog.cellsOf 24 = 8 := by kernel_rfl

theorem okWide_array {P : Program} {w : World} {r : Reach} {base : Nat} {t e : TypeId} {n : Nat} {v : Value} (ht : P.underlying t = some (.array n e)) (h : Value.okWide P w r base t v) : ∃ cs, v = .agg cs ∧ cs.size = P.cellsOf t := by
  simp only [Value.okWide, ht] at h
  obtain ⟨cs, h1, h2, _⟩ := h
  exact ⟨cs, h1, h2⟩

section
variable {H : Type} {enc : TypeId × Value → H} {w : World} {base : Nat} {spare : Nat → Bool} {held : Bool}

theorem pt_open {fuel : Nat} {cs : List Value} {x : DataW H × List MemPlace} (h : DataW.trod enc Try.prog w base spare held fuel 23 cs = some x) : ∃ a : Int × Int, cs = [.int .i64 a.1, .int .i64 a.2] := by
  obtain ⟨y0, y1, n, _, hl, h0, h1⟩ := trod_struct2 Try.underlying23 h
  rw [cells_pt] at hl
  rw [cells_int] at h0 h1
  obtain ⟨a, e0, _, _⟩ := DataW.trod_int Try.underlying3 h0
  obtain ⟨b, e1, _, _⟩ := DataW.trod_int Try.underlying3 h1
  match cs, hl with
  | [u, v], _ =>
    simp at e0 e1
    exact ⟨(a, b), by rw [e0, e1]⟩

theorem pts4_open {fuel : Nat} {cs : List Value} {x : DataW H × List MemPlace} (h : DataW.trod enc Try.prog w base spare held fuel 24 cs = some x) :
    ∃ a b c d : Int × Int, cs = [.int .i64 a.1, .int .i64 a.2, .int .i64 b.1, .int .i64 b.2, .int .i64 c.1, .int .i64 c.2, .int .i64 d.1, .int .i64 d.2] := by
  obtain ⟨xs, m, _, _, hl, hx, hi⟩ := DataW.trod_array Try.underlying24 h
  rw [cells_pts4] at hl
  rw [cells_pt] at hi
  match xs, hx with
  | [x0, x1, x2, x3], _ =>
    obtain ⟨a, ea⟩ := pt_open (show DataW.trod enc Try.prog w base spare held m 23 _ = some x0 from hi 0 (by omega))
    obtain ⟨b, eb⟩ := pt_open (show DataW.trod enc Try.prog w base spare held m 23 _ = some x1 from hi 1 (by omega))
    obtain ⟨c, ec⟩ := pt_open (show DataW.trod enc Try.prog w base spare held m 23 _ = some x2 from hi 2 (by omega))
    obtain ⟨d, ed⟩ := pt_open (show DataW.trod enc Try.prog w base spare held m 23 _ = some x3 from hi 3 (by omega))
    match cs, hl with
    | [c0, c1, c2, c3, c4, c5, c6, c7], _ =>
      simp at ea eb ec ed
      refine ⟨a, b, c, d, ?_⟩
      rw [ea.1, ea.2, eb.1, eb.2, ec.1, ec.2, ed.1, ed.2]
end
end Go.Proofs.Ytkepeihlggkadaa
