/-
  No cell of these rows narrows 'for every input' (looked for: loops, veiled, ifaces, maps, wideKeys, modest, calm, conditions, laid).
  DERIVED. THE GIVEN ROWS OF THIS SEAT. 3 by the template 'for every input the law returns true; each argument reads behind the call as it read before'; 0 by the template 'total and deterministic' (their statements: YtaeeeailoiioaabGreatTotals.lean).
  GIVEN WITH THE SEED: the statements are not yours to turn. If you find one false, say at which input.
  Laid BY PROGRAM, IN A SANDBOX (cutbox-rows.mjs): the forced cells as the released guide's own fill.sh prints them over the translation 204cf0b17d48fdd7… (all of the seat's roots in one cut). By AI agents, Wed Nov 11 2026. No macro, syntax, notation, axiom, sorry.
-/
import Derived.Test.YtaeeeailoiioaabGreatChecked
import GoSem.Claim
import GoSem.ClaimJoined
import GoSem.ClaimMapViews
import Derived.JoinedTies
import Derived.KernelRfl
namespace Go.Proofs.YtaeeeailoiioaabGreat
/- THE CELL 'sum', in the pinned program and in every row, IS THE sha256 OF THE DUMP (.gsa) THAT YtaeeeailoiioaabGreatProg.lean LOADS. Nothing in Lean hashes anything: it is a label: what it is worth is what the hold of that sum in a sandbox is worth. -/
noncomputable def Tryz.pinned : Pinned := { name := "ytaeeeailoiioaabgreat", sum := "204cf0b17d48fdd72e7bf509bf574cdfad17de99fcc82c9c3c053524eed46ee9", checked := Tryz.checked }
namespace Rows
def none {H : Type} : Left H := { results := [], args := [] }

/-- 'grisaillelaw18.ScanlineSetLengths': WHATEVER THE INPUT: true; the input reads as it did. -/
def scanlineSetLengthsSpec : ChangeSpec := { name := "scanlineSetLengths", fn := fun _ => fun
  | [d1, d2, d3] => { results := [.lit (.bool true)], args := [d1, d2, d3] }
  | _ => none }
def scanlineSetLengthsRow : OpenClaim := { program := "ytaeeeailoiioaabgreat", sum := "204cf0b17d48fdd72e7bf509bf574cdfad17de99fcc82c9c3c053524eed46ee9", func := "grisaille/grisaillelaw18.ScanlineSetLengths", spec := "scanlineSetLengths", unfollowed := true, recurses := true, apart := false }
def ScanlineSetLengthsSaid : Prop := scanlineSetLengthsRow.holds Tryz.pinned (OpenSpec.ofChange scanlineSetLengthsSpec)

/-- ITS FALSE NEIGHBOUR: 'it returns false'. Refute it at one input. -/
def scanlineSetLengthsWrong : ChangeSpec := { name := "scanlineSetLengths", fn := fun _ => fun
  | [d1, d2, d3] => { results := [.lit (.bool false)], args := [d1, d2, d3] }
  | _ => none }
def ScanlineSetLengthsWrongFalsely : Prop := scanlineSetLengthsRow.holds Tryz.pinned (OpenSpec.ofChange scanlineSetLengthsWrong)

/-- 'grisaillelaw18.ScanlineCrossings': WHATEVER THE INPUT: true; the input reads as it did. -/
def scanlineCrossingsSpec : ChangeSpec := { name := "scanlineCrossings", fn := fun _ => fun
  | [d1, d2] => { results := [.lit (.bool true)], args := [d1, d2] }
  | _ => none }
def scanlineCrossingsRow : OpenClaim := { program := "ytaeeeailoiioaabgreat", sum := "204cf0b17d48fdd72e7bf509bf574cdfad17de99fcc82c9c3c053524eed46ee9", func := "grisaille/grisaillelaw18.ScanlineCrossings", spec := "scanlineCrossings", unfollowed := true, recurses := true, apart := false }
def ScanlineCrossingsSaid : Prop := scanlineCrossingsRow.holds Tryz.pinned (OpenSpec.ofChange scanlineCrossingsSpec)

/-- ITS FALSE NEIGHBOUR: 'it returns false'. Refute it at one input. -/
def scanlineCrossingsWrong : ChangeSpec := { name := "scanlineCrossings", fn := fun _ => fun
  | [d1, d2] => { results := [.lit (.bool false)], args := [d1, d2] }
  | _ => none }
def ScanlineCrossingsWrongFalsely : Prop := scanlineCrossingsRow.holds Tryz.pinned (OpenSpec.ofChange scanlineCrossingsWrong)

/-- 'grisaillelaw18.ScanlineSpans': WHATEVER THE INPUT: true; the input reads as it did. -/
def scanlineSpansSpec : ChangeSpec := { name := "scanlineSpans", fn := fun _ => fun
  | [d1, d2, d3] => { results := [.lit (.bool true)], args := [d1, d2, d3] }
  | _ => none }
def scanlineSpansRow : OpenClaim := { program := "ytaeeeailoiioaabgreat", sum := "204cf0b17d48fdd72e7bf509bf574cdfad17de99fcc82c9c3c053524eed46ee9", func := "grisaille/grisaillelaw18.ScanlineSpans", spec := "scanlineSpans", unfollowed := true, recurses := true, apart := false }
def ScanlineSpansSaid : Prop := scanlineSpansRow.holds Tryz.pinned (OpenSpec.ofChange scanlineSpansSpec)

/-- ITS FALSE NEIGHBOUR: 'it returns false'. Refute it at one input. -/
def scanlineSpansWrong : ChangeSpec := { name := "scanlineSpans", fn := fun _ => fun
  | [d1, d2, d3] => { results := [.lit (.bool false)], args := [d1, d2, d3] }
  | _ => none }
def ScanlineSpansWrongFalsely : Prop := scanlineSpansRow.holds Tryz.pinned (OpenSpec.ofChange scanlineSpansWrong)

/- THE SECOND FORM. 'bulk': how many values and letters a reading holds, each counted each time it is reached (what is shared counts as often as it is met; a slice's spare places count too). A statement '..UptoSaid' is the law's where the arguments, and the package variables that the reading takes, are together of bulk at most 1048576: NARROWER than '..Said'. Prove '..Said' where nothing that the law and all that it calls make is longer than what came in: it says more and counts as full. Else prove '..UptoSaid'. A law counts once. -/
mutual
def uptoBulk {H : Type} : DataW H → Nat
  | .lit (.string bytes) => bytes.length + 1
  | .lit _ => 1
  | .nil => 1
  | .ptr d => uptoBulk d + 1
  | .slice elems spare => uptoBulkAll elems + uptoBulkAll spare + 1
  | .agg parts => uptoBulkAll parts + 1
  | .iface _ d => uptoBulk d + 1
  | .map entries => uptoBulkEntries entries + 1
  | .held _ => 1
def uptoBulkAll {H : Type} : List (DataW H) → Nat
  | [] => 0
  | d :: r => uptoBulk d + uptoBulkAll r
def uptoBulkEntries {H : Type} : List (Lit × DataW H) → Nat
  | [] => 0
  | x :: r => uptoBulkEntry x + uptoBulkEntries r
def uptoBulkEntry {H : Type} : Lit × DataW H → Nat
  | (.string bytes, d) => bytes.length + uptoBulk d + 1
  | (_, d) => uptoBulk d + 1
 end
def uptoSmall : (H : Type) → List (DataW H) → Bool := fun _ ds => decide (uptoBulkAll ds ≤ 1048576)
def OpenSpec.upto (s : _root_.Go.ChangeSpec) : _root_.Go.OpenSpec := { _root_.Go.OpenSpec.ofChange s with cond := some uptoSmall }

/-- 'grisaillelaw18.ScanlineSetLengths', WHERE WHAT IT READS IS OF BULK AT MOST 1048576: true; the input reads as it did. -/
def scanlineSetLengthsUptoRow : OpenClaim := { program := "ytaeeeailoiioaabgreat", sum := "204cf0b17d48fdd72e7bf509bf574cdfad17de99fcc82c9c3c053524eed46ee9", func := "grisaille/grisaillelaw18.ScanlineSetLengths", spec := "scanlineSetLengths", unfollowed := true, recurses := true, apart := false, narrowed := true }
def ScanlineSetLengthsUptoSaid : Prop := scanlineSetLengthsUptoRow.holds Tryz.pinned (OpenSpec.upto scanlineSetLengthsSpec)

/-- 'grisaillelaw18.ScanlineCrossings', WHERE WHAT IT READS IS OF BULK AT MOST 1048576: true; the input reads as it did. -/
def scanlineCrossingsUptoRow : OpenClaim := { program := "ytaeeeailoiioaabgreat", sum := "204cf0b17d48fdd72e7bf509bf574cdfad17de99fcc82c9c3c053524eed46ee9", func := "grisaille/grisaillelaw18.ScanlineCrossings", spec := "scanlineCrossings", unfollowed := true, recurses := true, apart := false, narrowed := true }
def ScanlineCrossingsUptoSaid : Prop := scanlineCrossingsUptoRow.holds Tryz.pinned (OpenSpec.upto scanlineCrossingsSpec)

/-- 'grisaillelaw18.ScanlineSpans', WHERE WHAT IT READS IS OF BULK AT MOST 1048576: true; the input reads as it did. -/
def scanlineSpansUptoRow : OpenClaim := { program := "ytaeeeailoiioaabgreat", sum := "204cf0b17d48fdd72e7bf509bf574cdfad17de99fcc82c9c3c053524eed46ee9", func := "grisaille/grisaillelaw18.ScanlineSpans", spec := "scanlineSpans", unfollowed := true, recurses := true, apart := false, narrowed := true }
def ScanlineSpansUptoSaid : Prop := scanlineSpansUptoRow.holds Tryz.pinned (OpenSpec.upto scanlineSpansSpec)

end Rows
end Go.Proofs.YtaeeeailoiioaabGreat
