/-
  No cell of these rows narrows 'for every input' (looked for: loops, veiled, ifaces, maps, wideKeys, modest, calm, conditions, laid).
  DERIVED. THE GIVEN ROWS OF THIS SEAT. 3 by the template 'for every input the law returns true; each argument reads behind the call as it read before'; 0 by the template 'total and deterministic' (their statements: YtlipfipniibpoaaGreatTotals.lean).
  GIVEN WITH THE SEED: the statements are not yours to turn. If you find one false, say at which input.
  Laid BY PROGRAM, IN A SANDBOX (cutbox-rows.mjs): the forced cells as the released guide's own fill.sh prints them over the translation 49eaba92396f3e8c… (all of the seat's roots in one cut). By AI agents, Wed Nov 11 2026. No macro, syntax, notation, axiom, sorry.
-/
import Derived.Test.YtlipfipniibpoaaGreatChecked
import GoSem.Claim
import GoSem.ClaimJoined
import GoSem.ClaimMapViews
import Derived.JoinedTies
import Derived.KernelRfl
namespace Go.Proofs.YtlipfipniibpoaaGreat
/- THE CELL 'sum', in the pinned program and in every row, IS THE sha256 OF THE DUMP (.gsa) THAT YtlipfipniibpoaaGreatProg.lean LOADS. Nothing in Lean hashes anything: it is a label: what it is worth is what the hold of that sum in a sandbox is worth. -/
noncomputable def Tryz.pinned : Pinned := { name := "ytlipfipniibpoaagreat", sum := "49eaba92396f3e8c54a8b195e99c7997b0e471e7f91a23ee0f212e6b86736ba0", checked := Tryz.checked }
namespace Rows
def none {H : Type} : Left H := { results := [], args := [] }

/-- 'grisaillelaw20.CoverageFromArea': WHATEVER THE INPUT: true; the input reads as it did. -/
def coverageFromAreaSpec : ChangeSpec := { name := "coverageFromArea", fn := fun _ => fun
  | [d1, d2] => { results := [.lit (.bool true)], args := [d1, d2] }
  | _ => none }
def coverageFromAreaRow : OpenClaim := { program := "ytlipfipniibpoaagreat", sum := "49eaba92396f3e8c54a8b195e99c7997b0e471e7f91a23ee0f212e6b86736ba0", func := "grisaille/grisaillelaw20.CoverageFromArea", spec := "coverageFromArea", unfollowed := true, recurses := true, apart := false }
def CoverageFromAreaSaid : Prop := coverageFromAreaRow.holds Tryz.pinned (OpenSpec.ofChange coverageFromAreaSpec)

/-- ITS FALSE NEIGHBOUR: 'it returns false'. Refute it at one input. -/
def coverageFromAreaWrong : ChangeSpec := { name := "coverageFromArea", fn := fun _ => fun
  | [d1, d2] => { results := [.lit (.bool false)], args := [d1, d2] }
  | _ => none }
def CoverageFromAreaWrongFalsely : Prop := coverageFromAreaRow.holds Tryz.pinned (OpenSpec.ofChange coverageFromAreaWrong)

/-- 'grisaillelaw20.CoverageSignedArea': WHATEVER THE INPUT: true; the input reads as it did. -/
def coverageSignedAreaSpec : ChangeSpec := { name := "coverageSignedArea", fn := fun _ => fun
  | [d1, d2] => { results := [.lit (.bool true)], args := [d1, d2] }
  | _ => none }
def coverageSignedAreaRow : OpenClaim := { program := "ytlipfipniibpoaagreat", sum := "49eaba92396f3e8c54a8b195e99c7997b0e471e7f91a23ee0f212e6b86736ba0", func := "grisaille/grisaillelaw20.CoverageSignedArea", spec := "coverageSignedArea", unfollowed := true, recurses := true, apart := false }
def CoverageSignedAreaSaid : Prop := coverageSignedAreaRow.holds Tryz.pinned (OpenSpec.ofChange coverageSignedAreaSpec)

/-- ITS FALSE NEIGHBOUR: 'it returns false'. Refute it at one input. -/
def coverageSignedAreaWrong : ChangeSpec := { name := "coverageSignedArea", fn := fun _ => fun
  | [d1, d2] => { results := [.lit (.bool false)], args := [d1, d2] }
  | _ => none }
def CoverageSignedAreaWrongFalsely : Prop := coverageSignedAreaRow.holds Tryz.pinned (OpenSpec.ofChange coverageSignedAreaWrong)

/-- 'grisaillelaw20.CoverageAccumulate': WHATEVER THE INPUT: true; the input reads as it did. -/
def coverageAccumulateSpec : ChangeSpec := { name := "coverageAccumulate", fn := fun _ => fun
  | [d1, d2] => { results := [.lit (.bool true)], args := [d1, d2] }
  | _ => none }
def coverageAccumulateRow : OpenClaim := { program := "ytlipfipniibpoaagreat", sum := "49eaba92396f3e8c54a8b195e99c7997b0e471e7f91a23ee0f212e6b86736ba0", func := "grisaille/grisaillelaw20.CoverageAccumulate", spec := "coverageAccumulate", unfollowed := true, recurses := true, apart := false }
def CoverageAccumulateSaid : Prop := coverageAccumulateRow.holds Tryz.pinned (OpenSpec.ofChange coverageAccumulateSpec)

/-- ITS FALSE NEIGHBOUR: 'it returns false'. Refute it at one input. -/
def coverageAccumulateWrong : ChangeSpec := { name := "coverageAccumulate", fn := fun _ => fun
  | [d1, d2] => { results := [.lit (.bool false)], args := [d1, d2] }
  | _ => none }
def CoverageAccumulateWrongFalsely : Prop := coverageAccumulateRow.holds Tryz.pinned (OpenSpec.ofChange coverageAccumulateWrong)

/- THE SECOND FORM. 'bulk': how many values and letters a reading holds, each counted each time it is reached (what is shared counts as often as it is met; a slice's spare places count too). A statement '..UptoSaid' is the law's where the arguments, and the package variables that the reading takes, are together of bulk at most 1048576: NARROWER than '..Said'. Prove '..Said' where nothing that the law and all that it calls make is longer than what came in: it says more and counts as full. Else prove '..UptoSaid'. A law counts once. -/
mutual
def uptoBulk {H : Type} : DataW H → Nat
  | .lit (.string bytes) => bytes.length + 1
  | .lit _ => 1
  | .nil => 1
  | .ptr d => uptoBulk d + 1
  | .slice elems spare => uptoBulkAll elems + uptoBulkAll spare + 1
  | .agg parts => uptoBulkAll parts + 1
  | .iface _ d => uptoBulk d + 1
  | .map entries => uptoBulkEntries entries + 1
  | .held _ => 1
def uptoBulkAll {H : Type} : List (DataW H) → Nat
  | [] => 0
  | d :: r => uptoBulk d + uptoBulkAll r
def uptoBulkEntries {H : Type} : List (Lit × DataW H) → Nat
  | [] => 0
  | x :: r => uptoBulkEntry x + uptoBulkEntries r
def uptoBulkEntry {H : Type} : Lit × DataW H → Nat
  | (.string bytes, d) => bytes.length + uptoBulk d + 1
  | (_, d) => uptoBulk d + 1
 end
def uptoSmall : (H : Type) → List (DataW H) → Bool := fun _ ds => decide (uptoBulkAll ds ≤ 1048576)
def OpenSpec.upto (s : _root_.Go.ChangeSpec) : _root_.Go.OpenSpec := { _root_.Go.OpenSpec.ofChange s with cond := some uptoSmall }

/-- 'grisaillelaw20.CoverageFromArea', WHERE WHAT IT READS IS OF BULK AT MOST 1048576: true; the input reads as it did. -/
def coverageFromAreaUptoRow : OpenClaim := { program := "ytlipfipniibpoaagreat", sum := "49eaba92396f3e8c54a8b195e99c7997b0e471e7f91a23ee0f212e6b86736ba0", func := "grisaille/grisaillelaw20.CoverageFromArea", spec := "coverageFromArea", unfollowed := true, recurses := true, apart := false, narrowed := true }
def CoverageFromAreaUptoSaid : Prop := coverageFromAreaUptoRow.holds Tryz.pinned (OpenSpec.upto coverageFromAreaSpec)

/-- 'grisaillelaw20.CoverageSignedArea', WHERE WHAT IT READS IS OF BULK AT MOST 1048576: true; the input reads as it did. -/
def coverageSignedAreaUptoRow : OpenClaim := { program := "ytlipfipniibpoaagreat", sum := "49eaba92396f3e8c54a8b195e99c7997b0e471e7f91a23ee0f212e6b86736ba0", func := "grisaille/grisaillelaw20.CoverageSignedArea", spec := "coverageSignedArea", unfollowed := true, recurses := true, apart := false, narrowed := true }
def CoverageSignedAreaUptoSaid : Prop := coverageSignedAreaUptoRow.holds Tryz.pinned (OpenSpec.upto coverageSignedAreaSpec)

/-- 'grisaillelaw20.CoverageAccumulate', WHERE WHAT IT READS IS OF BULK AT MOST 1048576: true; the input reads as it did. -/
def coverageAccumulateUptoRow : OpenClaim := { program := "ytlipfipniibpoaagreat", sum := "49eaba92396f3e8c54a8b195e99c7997b0e471e7f91a23ee0f212e6b86736ba0", func := "grisaille/grisaillelaw20.CoverageAccumulate", spec := "coverageAccumulate", unfollowed := true, recurses := true, apart := false, narrowed := true }
def CoverageAccumulateUptoSaid : Prop := coverageAccumulateUptoRow.holds Tryz.pinned (OpenSpec.upto coverageAccumulateSpec)

end Rows
end Go.Proofs.YtlipfipniibpoaaGreat
