/-
  No cell of these rows narrows 'for every input' (looked for: loops, veiled, ifaces, maps, wideKeys, modest, calm, conditions, laid).
  DERIVED. THE GIVEN ROWS OF THIS SEAT. 3 by the template 'for every input the law returns true; each argument reads behind the call as it read before'; 0 by the template 'total and deterministic' (their statements: YtlipfipniibpoabGreatTotals.lean).
  GIVEN WITH THE SEED: the statements are not yours to turn. If you find one false, say at which input.
  Laid BY PROGRAM, IN A SANDBOX (cutbox-rows.mjs): the forced cells as the released guide's own fill.sh prints them over the translation 32a5d38dee3e5be8… (all of the seat's roots in one cut). By AI agents, Wed Nov 11 2026. No macro, syntax, notation, axiom, sorry.
-/
import Derived.Test.YtlipfipniibpoabGreatChecked
import GoSem.Claim
import GoSem.ClaimJoined
import GoSem.ClaimMapViews
import Derived.JoinedTies
import Derived.KernelRfl
namespace Go.Proofs.YtlipfipniibpoabGreat
/- THE CELL 'sum', in the pinned program and in every row, IS THE sha256 OF THE DUMP (.gsa) THAT YtlipfipniibpoabGreatProg.lean LOADS. Nothing in Lean hashes anything: it is a label: what it is worth is what the hold of that sum in a sandbox is worth. -/
noncomputable def Tryz.pinned : Pinned := { name := "ytlipfipniibpoabgreat", sum := "32a5d38dee3e5be8ccf4a9041168cf88b205718d392d037ff0bf17e9b9ffb856", checked := Tryz.checked }
namespace Rows
def none {H : Type} : Left H := { results := [], args := [] }

/-- 'grisaillelaw20.CoverageIndependent': WHATEVER THE INPUT: true; the input reads as it did. -/
def coverageIndependentSpec : ChangeSpec := { name := "coverageIndependent", fn := fun _ => fun
  | [d1, d2, d3] => { results := [.lit (.bool true)], args := [d1, d2, d3] }
  | _ => none }
def coverageIndependentRow : OpenClaim := { program := "ytlipfipniibpoabgreat", sum := "32a5d38dee3e5be8ccf4a9041168cf88b205718d392d037ff0bf17e9b9ffb856", func := "grisaille/grisaillelaw20.CoverageIndependent", spec := "coverageIndependent", unfollowed := true, recurses := true, apart := false }
def CoverageIndependentSaid : Prop := coverageIndependentRow.holds Tryz.pinned (OpenSpec.ofChange coverageIndependentSpec)

/-- ITS FALSE NEIGHBOUR: 'it returns false'. Refute it at one input. -/
def coverageIndependentWrong : ChangeSpec := { name := "coverageIndependent", fn := fun _ => fun
  | [d1, d2, d3] => { results := [.lit (.bool false)], args := [d1, d2, d3] }
  | _ => none }
def CoverageIndependentWrongFalsely : Prop := coverageIndependentRow.holds Tryz.pinned (OpenSpec.ofChange coverageIndependentWrong)

/-- 'grisaillelaw20.CoverageOutside': WHATEVER THE INPUT: true; the input reads as it did. -/
def coverageOutsideSpec : ChangeSpec := { name := "coverageOutside", fn := fun _ => fun
  | [d1, d2, d3] => { results := [.lit (.bool true)], args := [d1, d2, d3] }
  | _ => none }
def coverageOutsideRow : OpenClaim := { program := "ytlipfipniibpoabgreat", sum := "32a5d38dee3e5be8ccf4a9041168cf88b205718d392d037ff0bf17e9b9ffb856", func := "grisaille/grisaillelaw20.CoverageOutside", spec := "coverageOutside", unfollowed := true, recurses := true, apart := false }
def CoverageOutsideSaid : Prop := coverageOutsideRow.holds Tryz.pinned (OpenSpec.ofChange coverageOutsideSpec)

/-- ITS FALSE NEIGHBOUR: 'it returns false'. Refute it at one input. -/
def coverageOutsideWrong : ChangeSpec := { name := "coverageOutside", fn := fun _ => fun
  | [d1, d2, d3] => { results := [.lit (.bool false)], args := [d1, d2, d3] }
  | _ => none }
def CoverageOutsideWrongFalsely : Prop := coverageOutsideRow.holds Tryz.pinned (OpenSpec.ofChange coverageOutsideWrong)

/-- 'grisaillelaw20.CoverageConvex': WHATEVER THE INPUT: true; the input reads as it did. -/
def coverageConvexSpec : ChangeSpec := { name := "coverageConvex", fn := fun _ => fun
  | [d1, d2] => { results := [.lit (.bool true)], args := [d1, d2] }
  | _ => none }
def coverageConvexRow : OpenClaim := { program := "ytlipfipniibpoabgreat", sum := "32a5d38dee3e5be8ccf4a9041168cf88b205718d392d037ff0bf17e9b9ffb856", func := "grisaille/grisaillelaw20.CoverageConvex", spec := "coverageConvex", unfollowed := true, recurses := true, apart := false }
def CoverageConvexSaid : Prop := coverageConvexRow.holds Tryz.pinned (OpenSpec.ofChange coverageConvexSpec)

/-- ITS FALSE NEIGHBOUR: 'it returns false'. Refute it at one input. -/
def coverageConvexWrong : ChangeSpec := { name := "coverageConvex", fn := fun _ => fun
  | [d1, d2] => { results := [.lit (.bool false)], args := [d1, d2] }
  | _ => none }
def CoverageConvexWrongFalsely : Prop := coverageConvexRow.holds Tryz.pinned (OpenSpec.ofChange coverageConvexWrong)

/- THE SECOND FORM. 'bulk': how many values and letters a reading holds, each counted each time it is reached (what is shared counts as often as it is met; a slice's spare places count too). A statement '..UptoSaid' is the law's where the arguments, and the package variables that the reading takes, are together of bulk at most 1048576: NARROWER than '..Said'. Prove '..Said' where nothing that the law and all that it calls make is longer than what came in: it says more and counts as full. Else prove '..UptoSaid'. A law counts once. -/
mutual
def uptoBulk {H : Type} : DataW H → Nat
  | .lit (.string bytes) => bytes.length + 1
  | .lit _ => 1
  | .nil => 1
  | .ptr d => uptoBulk d + 1
  | .slice elems spare => uptoBulkAll elems + uptoBulkAll spare + 1
  | .agg parts => uptoBulkAll parts + 1
  | .iface _ d => uptoBulk d + 1
  | .map entries => uptoBulkEntries entries + 1
  | .held _ => 1
def uptoBulkAll {H : Type} : List (DataW H) → Nat
  | [] => 0
  | d :: r => uptoBulk d + uptoBulkAll r
def uptoBulkEntries {H : Type} : List (Lit × DataW H) → Nat
  | [] => 0
  | x :: r => uptoBulkEntry x + uptoBulkEntries r
def uptoBulkEntry {H : Type} : Lit × DataW H → Nat
  | (.string bytes, d) => bytes.length + uptoBulk d + 1
  | (_, d) => uptoBulk d + 1
 end
def uptoSmall : (H : Type) → List (DataW H) → Bool := fun _ ds => decide (uptoBulkAll ds ≤ 1048576)
def OpenSpec.upto (s : _root_.Go.ChangeSpec) : _root_.Go.OpenSpec := { _root_.Go.OpenSpec.ofChange s with cond := some uptoSmall }

/-- 'grisaillelaw20.CoverageIndependent', WHERE WHAT IT READS IS OF BULK AT MOST 1048576: true; the input reads as it did. -/
def coverageIndependentUptoRow : OpenClaim := { program := "ytlipfipniibpoabgreat", sum := "32a5d38dee3e5be8ccf4a9041168cf88b205718d392d037ff0bf17e9b9ffb856", func := "grisaille/grisaillelaw20.CoverageIndependent", spec := "coverageIndependent", unfollowed := true, recurses := true, apart := false, narrowed := true }
def CoverageIndependentUptoSaid : Prop := coverageIndependentUptoRow.holds Tryz.pinned (OpenSpec.upto coverageIndependentSpec)

/-- 'grisaillelaw20.CoverageOutside', WHERE WHAT IT READS IS OF BULK AT MOST 1048576: true; the input reads as it did. -/
def coverageOutsideUptoRow : OpenClaim := { program := "ytlipfipniibpoabgreat", sum := "32a5d38dee3e5be8ccf4a9041168cf88b205718d392d037ff0bf17e9b9ffb856", func := "grisaille/grisaillelaw20.CoverageOutside", spec := "coverageOutside", unfollowed := true, recurses := true, apart := false, narrowed := true }
def CoverageOutsideUptoSaid : Prop := coverageOutsideUptoRow.holds Tryz.pinned (OpenSpec.upto coverageOutsideSpec)

/-- 'grisaillelaw20.CoverageConvex', WHERE WHAT IT READS IS OF BULK AT MOST 1048576: true; the input reads as it did. -/
def coverageConvexUptoRow : OpenClaim := { program := "ytlipfipniibpoabgreat", sum := "32a5d38dee3e5be8ccf4a9041168cf88b205718d392d037ff0bf17e9b9ffb856", func := "grisaille/grisaillelaw20.CoverageConvex", spec := "coverageConvex", unfollowed := true, recurses := true, apart := false, narrowed := true }
def CoverageConvexUptoSaid : Prop := coverageConvexUptoRow.holds Tryz.pinned (OpenSpec.upto coverageConvexSpec)

end Rows
end Go.Proofs.YtlipfipniibpoabGreat
