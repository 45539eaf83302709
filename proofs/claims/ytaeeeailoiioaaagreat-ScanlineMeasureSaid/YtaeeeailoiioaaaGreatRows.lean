/-
  No cell of these rows narrows 'for every input' (looked for: loops, veiled, ifaces, maps, wideKeys, modest, calm, conditions, laid).
  DERIVED. THE GIVEN ROWS OF THIS SEAT. 3 by the template 'for every input the law returns true; each argument reads behind the call as it read before'; 0 by the template 'total and deterministic' (their statements: YtaeeeailoiioaaaGreatTotals.lean).
  GIVEN WITH THE SEED: the statements are not yours to turn. If you find one false, say at which input.
  Laid BY PROGRAM, IN A SANDBOX (cutbox-rows.mjs): the forced cells as the released guide's own fill.sh prints them over the translation 16982384458397cf… (all of the seat's roots in one cut). By AI agents, Wed Nov 11 2026. No macro, syntax, notation, axiom, sorry.
-/
import Derived.Test.YtaeeeailoiioaaaGreatChecked
import GoSem.Claim
import GoSem.ClaimJoined
import GoSem.ClaimMapViews
import Derived.JoinedTies
import Derived.KernelRfl
namespace Go.Proofs.YtaeeeailoiioaaaGreat
/- THE CELL 'sum', in the pinned program and in every row, IS THE sha256 OF THE DUMP (.gsa) THAT YtaeeeailoiioaaaGreatProg.lean LOADS. Nothing in Lean hashes anything: it is a label: what it is worth is what the hold of that sum in a sandbox is worth. -/
noncomputable def Tryz.pinned : Pinned := { name := "ytaeeeailoiioaaagreat", sum := "16982384458397cf79a3561b46678ed81ea2d9a9577b086db47b5d19d2eaa9f2", checked := Tryz.checked }
namespace Rows
def none {H : Type} : Left H := { results := [], args := [] }

/-- 'grisaillelaw18.ScanlineMerge': WHATEVER THE INPUT: true; the input reads as it did. -/
def scanlineMergeSpec : ChangeSpec := { name := "scanlineMerge", fn := fun _ => fun
  | [d] => { results := [.lit (.bool true)], args := [d] }
  | _ => none }
def scanlineMergeRow : OpenClaim := { program := "ytaeeeailoiioaaagreat", sum := "16982384458397cf79a3561b46678ed81ea2d9a9577b086db47b5d19d2eaa9f2", func := "grisaille/grisaillelaw18.ScanlineMerge", spec := "scanlineMerge", unfollowed := true, recurses := true, apart := false }
def ScanlineMergeSaid : Prop := scanlineMergeRow.holds Tryz.pinned (OpenSpec.ofChange scanlineMergeSpec)

/-- ITS FALSE NEIGHBOUR: 'it returns false'. Refute it at one input. -/
def scanlineMergeWrong : ChangeSpec := { name := "scanlineMerge", fn := fun _ => fun
  | [d] => { results := [.lit (.bool false)], args := [d] }
  | _ => none }
def ScanlineMergeWrongFalsely : Prop := scanlineMergeRow.holds Tryz.pinned (OpenSpec.ofChange scanlineMergeWrong)

/-- 'grisaillelaw18.ScanlineLength': WHATEVER THE INPUT: true; the input reads as it did. -/
def scanlineLengthSpec : ChangeSpec := { name := "scanlineLength", fn := fun _ => fun
  | [d1, d2] => { results := [.lit (.bool true)], args := [d1, d2] }
  | _ => none }
def scanlineLengthRow : OpenClaim := { program := "ytaeeeailoiioaaagreat", sum := "16982384458397cf79a3561b46678ed81ea2d9a9577b086db47b5d19d2eaa9f2", func := "grisaille/grisaillelaw18.ScanlineLength", spec := "scanlineLength", unfollowed := true, recurses := true, apart := false }
def ScanlineLengthSaid : Prop := scanlineLengthRow.holds Tryz.pinned (OpenSpec.ofChange scanlineLengthSpec)

/-- ITS FALSE NEIGHBOUR: 'it returns false'. Refute it at one input. -/
def scanlineLengthWrong : ChangeSpec := { name := "scanlineLength", fn := fun _ => fun
  | [d1, d2] => { results := [.lit (.bool false)], args := [d1, d2] }
  | _ => none }
def ScanlineLengthWrongFalsely : Prop := scanlineLengthRow.holds Tryz.pinned (OpenSpec.ofChange scanlineLengthWrong)

/-- 'grisaillelaw18.ScanlineMeasure': WHATEVER THE INPUT: true; the input reads as it did. -/
def scanlineMeasureSpec : ChangeSpec := { name := "scanlineMeasure", fn := fun _ => fun
  | [d1, d2, d3] => { results := [.lit (.bool true)], args := [d1, d2, d3] }
  | _ => none }
def scanlineMeasureRow : OpenClaim := { program := "ytaeeeailoiioaaagreat", sum := "16982384458397cf79a3561b46678ed81ea2d9a9577b086db47b5d19d2eaa9f2", func := "grisaille/grisaillelaw18.ScanlineMeasure", spec := "scanlineMeasure", unfollowed := true, recurses := true, apart := false }
def ScanlineMeasureSaid : Prop := scanlineMeasureRow.holds Tryz.pinned (OpenSpec.ofChange scanlineMeasureSpec)

/-- ITS FALSE NEIGHBOUR: 'it returns false'. Refute it at one input. -/
def scanlineMeasureWrong : ChangeSpec := { name := "scanlineMeasure", fn := fun _ => fun
  | [d1, d2, d3] => { results := [.lit (.bool false)], args := [d1, d2, d3] }
  | _ => none }
def ScanlineMeasureWrongFalsely : Prop := scanlineMeasureRow.holds Tryz.pinned (OpenSpec.ofChange scanlineMeasureWrong)

/- THE SECOND FORM. 'bulk': how many values and letters a reading holds, each counted each time it is reached (what is shared counts as often as it is met; a slice's spare places count too). A statement '..UptoSaid' is the law's where the arguments, and the package variables that the reading takes, are together of bulk at most 1048576: NARROWER than '..Said'. Prove '..Said' where nothing that the law and all that it calls make is longer than what came in: it says more and counts as full. Else prove '..UptoSaid'. A law counts once. -/
mutual
def uptoBulk {H : Type} : DataW H → Nat
  | .lit (.string bytes) => bytes.length + 1
  | .lit _ => 1
  | .nil => 1
  | .ptr d => uptoBulk d + 1
  | .slice elems spare => uptoBulkAll elems + uptoBulkAll spare + 1
  | .agg parts => uptoBulkAll parts + 1
  | .iface _ d => uptoBulk d + 1
  | .map entries => uptoBulkEntries entries + 1
  | .held _ => 1
def uptoBulkAll {H : Type} : List (DataW H) → Nat
  | [] => 0
  | d :: r => uptoBulk d + uptoBulkAll r
def uptoBulkEntries {H : Type} : List (Lit × DataW H) → Nat
  | [] => 0
  | x :: r => uptoBulkEntry x + uptoBulkEntries r
def uptoBulkEntry {H : Type} : Lit × DataW H → Nat
  | (.string bytes, d) => bytes.length + uptoBulk d + 1
  | (_, d) => uptoBulk d + 1
 end
def uptoSmall : (H : Type) → List (DataW H) → Bool := fun _ ds => decide (uptoBulkAll ds ≤ 1048576)
def OpenSpec.upto (s : _root_.Go.ChangeSpec) : _root_.Go.OpenSpec := { _root_.Go.OpenSpec.ofChange s with cond := some uptoSmall }

/-- 'grisaillelaw18.ScanlineMerge', WHERE WHAT IT READS IS OF BULK AT MOST 1048576: true; the input reads as it did. -/
def scanlineMergeUptoRow : OpenClaim := { program := "ytaeeeailoiioaaagreat", sum := "16982384458397cf79a3561b46678ed81ea2d9a9577b086db47b5d19d2eaa9f2", func := "grisaille/grisaillelaw18.ScanlineMerge", spec := "scanlineMerge", unfollowed := true, recurses := true, apart := false, narrowed := true }
def ScanlineMergeUptoSaid : Prop := scanlineMergeUptoRow.holds Tryz.pinned (OpenSpec.upto scanlineMergeSpec)

/-- 'grisaillelaw18.ScanlineLength', WHERE WHAT IT READS IS OF BULK AT MOST 1048576: true; the input reads as it did. -/
def scanlineLengthUptoRow : OpenClaim := { program := "ytaeeeailoiioaaagreat", sum := "16982384458397cf79a3561b46678ed81ea2d9a9577b086db47b5d19d2eaa9f2", func := "grisaille/grisaillelaw18.ScanlineLength", spec := "scanlineLength", unfollowed := true, recurses := true, apart := false, narrowed := true }
def ScanlineLengthUptoSaid : Prop := scanlineLengthUptoRow.holds Tryz.pinned (OpenSpec.upto scanlineLengthSpec)

/-- 'grisaillelaw18.ScanlineMeasure', WHERE WHAT IT READS IS OF BULK AT MOST 1048576: true; the input reads as it did. -/
def scanlineMeasureUptoRow : OpenClaim := { program := "ytaeeeailoiioaaagreat", sum := "16982384458397cf79a3561b46678ed81ea2d9a9577b086db47b5d19d2eaa9f2", func := "grisaille/grisaillelaw18.ScanlineMeasure", spec := "scanlineMeasure", unfollowed := true, recurses := true, apart := false, narrowed := true }
def ScanlineMeasureUptoSaid : Prop := scanlineMeasureUptoRow.holds Tryz.pinned (OpenSpec.upto scanlineMeasureSpec)

end Rows
end Go.Proofs.YtaeeeailoiioaaaGreat
