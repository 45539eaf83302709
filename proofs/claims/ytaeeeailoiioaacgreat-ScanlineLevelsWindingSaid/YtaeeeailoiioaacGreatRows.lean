/-
  No cell of these rows narrows 'for every input' (looked for: loops, veiled, ifaces, maps, wideKeys, modest, calm, conditions, laid).
  DERIVED. THE GIVEN ROWS OF THIS SEAT. 3 by the template 'for every input the law returns true; each argument reads behind the call as it read before'; 0 by the template 'total and deterministic' (their statements: YtaeeeailoiioaacGreatTotals.lean).
  GIVEN WITH THE SEED: the statements are not yours to turn. If you find one false, say at which input.
  Laid BY PROGRAM, IN A SANDBOX (cutbox-rows.mjs): the forced cells as the released guide's own fill.sh prints them over the translation 216fcfcfad4e1465… (all of the seat's roots in one cut). By AI agents, Wed Nov 11 2026. No macro, syntax, notation, axiom, sorry.
-/
import Derived.Test.YtaeeeailoiioaacGreatChecked
import GoSem.Claim
import GoSem.ClaimJoined
import GoSem.ClaimMapViews
import Derived.JoinedTies
import Derived.KernelRfl
namespace Go.Proofs.YtaeeeailoiioaacGreat
/- THE CELL 'sum', in the pinned program and in every row, IS THE sha256 OF THE DUMP (.gsa) THAT YtaeeeailoiioaacGreatProg.lean LOADS. Nothing in Lean hashes anything: it is a label: what it is worth is what the hold of that sum in a sandbox is worth. -/
noncomputable def Tryz.pinned : Pinned := { name := "ytaeeeailoiioaacgreat", sum := "216fcfcfad4e14658bd2db0241526d9a9a133f7f91661ad74915bef738842e0d", checked := Tryz.checked }
namespace Rows
def none {H : Type} : Left H := { results := [], args := [] }

/-- 'grisaillelaw18.ScanlineLevels': WHATEVER THE INPUT: true; the input reads as it did. -/
def scanlineLevelsSpec : ChangeSpec := { name := "scanlineLevels", fn := fun _ => fun
  | [d1, d2, d3] => { results := [.lit (.bool true)], args := [d1, d2, d3] }
  | _ => none }
def scanlineLevelsRow : OpenClaim := { program := "ytaeeeailoiioaacgreat", sum := "216fcfcfad4e14658bd2db0241526d9a9a133f7f91661ad74915bef738842e0d", func := "grisaille/grisaillelaw18.ScanlineLevels", spec := "scanlineLevels", unfollowed := true, recurses := true, apart := false }
def ScanlineLevelsSaid : Prop := scanlineLevelsRow.holds Tryz.pinned (OpenSpec.ofChange scanlineLevelsSpec)

/-- ITS FALSE NEIGHBOUR: 'it returns false'. Refute it at one input. -/
def scanlineLevelsWrong : ChangeSpec := { name := "scanlineLevels", fn := fun _ => fun
  | [d1, d2, d3] => { results := [.lit (.bool false)], args := [d1, d2, d3] }
  | _ => none }
def ScanlineLevelsWrongFalsely : Prop := scanlineLevelsRow.holds Tryz.pinned (OpenSpec.ofChange scanlineLevelsWrong)

/-- 'grisaillelaw18.ScanlineMatchesWinding': WHATEVER THE INPUT: true; the input reads as it did. -/
def scanlineMatchesWindingSpec : ChangeSpec := { name := "scanlineMatchesWinding", fn := fun _ => fun
  | [d1, d2, d3] => { results := [.lit (.bool true)], args := [d1, d2, d3] }
  | _ => none }
def scanlineMatchesWindingRow : OpenClaim := { program := "ytaeeeailoiioaacgreat", sum := "216fcfcfad4e14658bd2db0241526d9a9a133f7f91661ad74915bef738842e0d", func := "grisaille/grisaillelaw18.ScanlineMatchesWinding", spec := "scanlineMatchesWinding", unfollowed := true, recurses := true, apart := false }
def ScanlineMatchesWindingSaid : Prop := scanlineMatchesWindingRow.holds Tryz.pinned (OpenSpec.ofChange scanlineMatchesWindingSpec)

/-- ITS FALSE NEIGHBOUR: 'it returns false'. Refute it at one input. -/
def scanlineMatchesWindingWrong : ChangeSpec := { name := "scanlineMatchesWinding", fn := fun _ => fun
  | [d1, d2, d3] => { results := [.lit (.bool false)], args := [d1, d2, d3] }
  | _ => none }
def ScanlineMatchesWindingWrongFalsely : Prop := scanlineMatchesWindingRow.holds Tryz.pinned (OpenSpec.ofChange scanlineMatchesWindingWrong)

/-- 'grisaillelaw18.ScanlineLevelsWinding': WHATEVER THE INPUT: true; the input reads as it did. -/
def scanlineLevelsWindingSpec : ChangeSpec := { name := "scanlineLevelsWinding", fn := fun _ => fun
  | [d1, d2] => { results := [.lit (.bool true)], args := [d1, d2] }
  | _ => none }
def scanlineLevelsWindingRow : OpenClaim := { program := "ytaeeeailoiioaacgreat", sum := "216fcfcfad4e14658bd2db0241526d9a9a133f7f91661ad74915bef738842e0d", func := "grisaille/grisaillelaw18.ScanlineLevelsWinding", spec := "scanlineLevelsWinding", unfollowed := true, recurses := true, apart := false }
def ScanlineLevelsWindingSaid : Prop := scanlineLevelsWindingRow.holds Tryz.pinned (OpenSpec.ofChange scanlineLevelsWindingSpec)

/-- ITS FALSE NEIGHBOUR: 'it returns false'. Refute it at one input. -/
def scanlineLevelsWindingWrong : ChangeSpec := { name := "scanlineLevelsWinding", fn := fun _ => fun
  | [d1, d2] => { results := [.lit (.bool false)], args := [d1, d2] }
  | _ => none }
def ScanlineLevelsWindingWrongFalsely : Prop := scanlineLevelsWindingRow.holds Tryz.pinned (OpenSpec.ofChange scanlineLevelsWindingWrong)

/- THE SECOND FORM. 'bulk': how many values and letters a reading holds, each counted each time it is reached (what is shared counts as often as it is met; a slice's spare places count too). A statement '..UptoSaid' is the law's where the arguments, and the package variables that the reading takes, are together of bulk at most 1048576: NARROWER than '..Said'. Prove '..Said' where nothing that the law and all that it calls make is longer than what came in: it says more and counts as full. Else prove '..UptoSaid'. A law counts once. -/
mutual
def uptoBulk {H : Type} : DataW H → Nat
  | .lit (.string bytes) => bytes.length + 1
  | .lit _ => 1
  | .nil => 1
  | .ptr d => uptoBulk d + 1
  | .slice elems spare => uptoBulkAll elems + uptoBulkAll spare + 1
  | .agg parts => uptoBulkAll parts + 1
  | .iface _ d => uptoBulk d + 1
  | .map entries => uptoBulkEntries entries + 1
  | .held _ => 1
def uptoBulkAll {H : Type} : List (DataW H) → Nat
  | [] => 0
  | d :: r => uptoBulk d + uptoBulkAll r
def uptoBulkEntries {H : Type} : List (Lit × DataW H) → Nat
  | [] => 0
  | x :: r => uptoBulkEntry x + uptoBulkEntries r
def uptoBulkEntry {H : Type} : Lit × DataW H → Nat
  | (.string bytes, d) => bytes.length + uptoBulk d + 1
  | (_, d) => uptoBulk d + 1
 end
def uptoSmall : (H : Type) → List (DataW H) → Bool := fun _ ds => decide (uptoBulkAll ds ≤ 1048576)
def OpenSpec.upto (s : _root_.Go.ChangeSpec) : _root_.Go.OpenSpec := { _root_.Go.OpenSpec.ofChange s with cond := some uptoSmall }

/-- 'grisaillelaw18.ScanlineLevels', WHERE WHAT IT READS IS OF BULK AT MOST 1048576: true; the input reads as it did. -/
def scanlineLevelsUptoRow : OpenClaim := { program := "ytaeeeailoiioaacgreat", sum := "216fcfcfad4e14658bd2db0241526d9a9a133f7f91661ad74915bef738842e0d", func := "grisaille/grisaillelaw18.ScanlineLevels", spec := "scanlineLevels", unfollowed := true, recurses := true, apart := false, narrowed := true }
def ScanlineLevelsUptoSaid : Prop := scanlineLevelsUptoRow.holds Tryz.pinned (OpenSpec.upto scanlineLevelsSpec)

/-- 'grisaillelaw18.ScanlineMatchesWinding', WHERE WHAT IT READS IS OF BULK AT MOST 1048576: true; the input reads as it did. -/
def scanlineMatchesWindingUptoRow : OpenClaim := { program := "ytaeeeailoiioaacgreat", sum := "216fcfcfad4e14658bd2db0241526d9a9a133f7f91661ad74915bef738842e0d", func := "grisaille/grisaillelaw18.ScanlineMatchesWinding", spec := "scanlineMatchesWinding", unfollowed := true, recurses := true, apart := false, narrowed := true }
def ScanlineMatchesWindingUptoSaid : Prop := scanlineMatchesWindingUptoRow.holds Tryz.pinned (OpenSpec.upto scanlineMatchesWindingSpec)

/-- 'grisaillelaw18.ScanlineLevelsWinding', WHERE WHAT IT READS IS OF BULK AT MOST 1048576: true; the input reads as it did. -/
def scanlineLevelsWindingUptoRow : OpenClaim := { program := "ytaeeeailoiioaacgreat", sum := "216fcfcfad4e14658bd2db0241526d9a9a133f7f91661ad74915bef738842e0d", func := "grisaille/grisaillelaw18.ScanlineLevelsWinding", spec := "scanlineLevelsWinding", unfollowed := true, recurses := true, apart := false, narrowed := true }
def ScanlineLevelsWindingUptoSaid : Prop := scanlineLevelsWindingUptoRow.holds Tryz.pinned (OpenSpec.upto scanlineLevelsWindingSpec)

end Rows
end Go.Proofs.YtaeeeailoiioaacGreat
