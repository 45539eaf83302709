/-
  No cell of these rows narrows 'for every input' (looked for: loops, veiled, ifaces, maps, wideKeys, modest, calm, conditions, laid).
  DERIVED. THE GIVEN ROWS OF THIS SEAT. 3 by the template 'for every input the law returns true; each argument reads behind the call as it read before'; 0 by the template 'total and deterministic' (their statements: YtiokhlgdelipdabGreatTotals.lean).
  GIVEN WITH THE SEED: the statements are not yours to turn. If you find one false, say at which input.
  Laid BY PROGRAM, IN A SANDBOX (cutbox-rows.mjs): the forced cells as the released guide's own fill.sh prints them over the translation 3033c8c84d75c712… (all of the seat's roots in one cut). By AI agents, Wed Nov 11 2026. No macro, syntax, notation, axiom, sorry.
-/
import Derived.Test.YtiokhlgdelipdabGreatChecked
import GoSem.Claim
import GoSem.ClaimJoined
import GoSem.ClaimMapViews
import Derived.JoinedTies
import Derived.KernelRfl
namespace Go.Proofs.YtiokhlgdelipdabGreat
/- THE CELL 'sum', in the pinned program and in every row, IS THE sha256 OF THE DUMP (.gsa) THAT YtiokhlgdelipdabGreatProg.lean LOADS. Nothing in Lean hashes anything: it is a label: what it is worth is what the hold of that sum in a sandbox is worth. -/
noncomputable def Tryz.pinned : Pinned := { name := "ytiokhlgdelipdabgreat", sum := "3033c8c84d75c71201989dd80cf1b7742a99626b85a69cc266e0501d8f789c98", checked := Tryz.checked }
namespace Rows
def none {H : Type} : Left H := { results := [], args := [] }

/-- 'grisaillelaw17.IntersectListed': WHATEVER THE INPUT: true; the input reads as it did. -/
def intersectListedSpec : ChangeSpec := { name := "intersectListed", fn := fun _ => fun
  | [d] => { results := [.lit (.bool true)], args := [d] }
  | _ => none }
def intersectListedRow : OpenClaim := { program := "ytiokhlgdelipdabgreat", sum := "3033c8c84d75c71201989dd80cf1b7742a99626b85a69cc266e0501d8f789c98", func := "grisaille/grisaillelaw17.IntersectListed", spec := "intersectListed", unfollowed := true, recurses := true, apart := false }
def IntersectListedSaid : Prop := intersectListedRow.holds Tryz.pinned (OpenSpec.ofChange intersectListedSpec)

/-- ITS FALSE NEIGHBOUR: 'it returns false'. Refute it at one input. -/
def intersectListedWrong : ChangeSpec := { name := "intersectListed", fn := fun _ => fun
  | [d] => { results := [.lit (.bool false)], args := [d] }
  | _ => none }
def IntersectListedWrongFalsely : Prop := intersectListedRow.holds Tryz.pinned (OpenSpec.ofChange intersectListedWrong)

/-- 'grisaillelaw17.IntersectIntersections': WHATEVER THE INPUT: true; the input reads as it did. -/
def intersectIntersectionsSpec : ChangeSpec := { name := "intersectIntersections", fn := fun _ => fun
  | [d] => { results := [.lit (.bool true)], args := [d] }
  | _ => none }
def intersectIntersectionsRow : OpenClaim := { program := "ytiokhlgdelipdabgreat", sum := "3033c8c84d75c71201989dd80cf1b7742a99626b85a69cc266e0501d8f789c98", func := "grisaille/grisaillelaw17.IntersectIntersections", spec := "intersectIntersections", unfollowed := true, recurses := true, apart := false }
def IntersectIntersectionsSaid : Prop := intersectIntersectionsRow.holds Tryz.pinned (OpenSpec.ofChange intersectIntersectionsSpec)

/-- ITS FALSE NEIGHBOUR: 'it returns false'. Refute it at one input. -/
def intersectIntersectionsWrong : ChangeSpec := { name := "intersectIntersections", fn := fun _ => fun
  | [d] => { results := [.lit (.bool false)], args := [d] }
  | _ => none }
def IntersectIntersectionsWrongFalsely : Prop := intersectIntersectionsRow.holds Tryz.pinned (OpenSpec.ofChange intersectIntersectionsWrong)

/-- 'grisaillelaw17.IntersectInvariance': WHATEVER THE INPUT: true; the input reads as it did. -/
def intersectInvarianceSpec : ChangeSpec := { name := "intersectInvariance", fn := fun _ => fun
  | [d1, d2] => { results := [.lit (.bool true)], args := [d1, d2] }
  | _ => none }
def intersectInvarianceRow : OpenClaim := { program := "ytiokhlgdelipdabgreat", sum := "3033c8c84d75c71201989dd80cf1b7742a99626b85a69cc266e0501d8f789c98", func := "grisaille/grisaillelaw17.IntersectInvariance", spec := "intersectInvariance", unfollowed := true, recurses := true, apart := false }
def IntersectInvarianceSaid : Prop := intersectInvarianceRow.holds Tryz.pinned (OpenSpec.ofChange intersectInvarianceSpec)

/-- ITS FALSE NEIGHBOUR: 'it returns false'. Refute it at one input. -/
def intersectInvarianceWrong : ChangeSpec := { name := "intersectInvariance", fn := fun _ => fun
  | [d1, d2] => { results := [.lit (.bool false)], args := [d1, d2] }
  | _ => none }
def IntersectInvarianceWrongFalsely : Prop := intersectInvarianceRow.holds Tryz.pinned (OpenSpec.ofChange intersectInvarianceWrong)

/- THE SECOND FORM. 'bulk': how many values and letters a reading holds, each counted each time it is reached (what is shared counts as often as it is met; a slice's spare places count too). A statement '..UptoSaid' is the law's where the arguments, and the package variables that the reading takes, are together of bulk at most 1048576: NARROWER than '..Said'. Prove '..Said' where nothing that the law and all that it calls make is longer than what came in: it says more and counts as full. Else prove '..UptoSaid'. A law counts once. -/
mutual
def uptoBulk {H : Type} : DataW H → Nat
  | .lit (.string bytes) => bytes.length + 1
  | .lit _ => 1
  | .nil => 1
  | .ptr d => uptoBulk d + 1
  | .slice elems spare => uptoBulkAll elems + uptoBulkAll spare + 1
  | .agg parts => uptoBulkAll parts + 1
  | .iface _ d => uptoBulk d + 1
  | .map entries => uptoBulkEntries entries + 1
  | .held _ => 1
def uptoBulkAll {H : Type} : List (DataW H) → Nat
  | [] => 0
  | d :: r => uptoBulk d + uptoBulkAll r
def uptoBulkEntries {H : Type} : List (Lit × DataW H) → Nat
  | [] => 0
  | x :: r => uptoBulkEntry x + uptoBulkEntries r
def uptoBulkEntry {H : Type} : Lit × DataW H → Nat
  | (.string bytes, d) => bytes.length + uptoBulk d + 1
  | (_, d) => uptoBulk d + 1
 end
def uptoSmall : (H : Type) → List (DataW H) → Bool := fun _ ds => decide (uptoBulkAll ds ≤ 1048576)
def OpenSpec.upto (s : _root_.Go.ChangeSpec) : _root_.Go.OpenSpec := { _root_.Go.OpenSpec.ofChange s with cond := some uptoSmall }

/-- 'grisaillelaw17.IntersectListed', WHERE WHAT IT READS IS OF BULK AT MOST 1048576: true; the input reads as it did. -/
def intersectListedUptoRow : OpenClaim := { program := "ytiokhlgdelipdabgreat", sum := "3033c8c84d75c71201989dd80cf1b7742a99626b85a69cc266e0501d8f789c98", func := "grisaille/grisaillelaw17.IntersectListed", spec := "intersectListed", unfollowed := true, recurses := true, apart := false, narrowed := true }
def IntersectListedUptoSaid : Prop := intersectListedUptoRow.holds Tryz.pinned (OpenSpec.upto intersectListedSpec)

/-- 'grisaillelaw17.IntersectIntersections', WHERE WHAT IT READS IS OF BULK AT MOST 1048576: true; the input reads as it did. -/
def intersectIntersectionsUptoRow : OpenClaim := { program := "ytiokhlgdelipdabgreat", sum := "3033c8c84d75c71201989dd80cf1b7742a99626b85a69cc266e0501d8f789c98", func := "grisaille/grisaillelaw17.IntersectIntersections", spec := "intersectIntersections", unfollowed := true, recurses := true, apart := false, narrowed := true }
def IntersectIntersectionsUptoSaid : Prop := intersectIntersectionsUptoRow.holds Tryz.pinned (OpenSpec.upto intersectIntersectionsSpec)

/-- 'grisaillelaw17.IntersectInvariance', WHERE WHAT IT READS IS OF BULK AT MOST 1048576: true; the input reads as it did. -/
def intersectInvarianceUptoRow : OpenClaim := { program := "ytiokhlgdelipdabgreat", sum := "3033c8c84d75c71201989dd80cf1b7742a99626b85a69cc266e0501d8f789c98", func := "grisaille/grisaillelaw17.IntersectInvariance", spec := "intersectInvariance", unfollowed := true, recurses := true, apart := false, narrowed := true }
def IntersectInvarianceUptoSaid : Prop := intersectInvarianceUptoRow.holds Tryz.pinned (OpenSpec.upto intersectInvarianceSpec)

end Rows
end Go.Proofs.YtiokhlgdelipdabGreat
