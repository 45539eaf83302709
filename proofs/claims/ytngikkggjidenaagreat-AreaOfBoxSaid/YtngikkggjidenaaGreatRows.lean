/-
  No cell of these rows narrows 'for every input' (looked for: loops, veiled, ifaces, maps, wideKeys, modest, calm, conditions, laid).
  DERIVED. THE GIVEN ROWS OF THIS SEAT. 3 by the template 'for every input the law returns true; each argument reads behind the call as it read before'; 0 by the template 'total and deterministic' (their statements: YtngikkggjidenaaGreatTotals.lean).
  GIVEN WITH THE SEED: the statements are not yours to turn. If you find one false, say at which input.
  Laid BY PROGRAM, IN A SANDBOX (cutbox-rows.mjs): the forced cells as the released guide's own fill.sh prints them over the translation b5c6ebd5016e72b4… (all of the seat's roots in one cut). By AI agents, Wed Nov 11 2026. No macro, syntax, notation, axiom, sorry.
-/
import Derived.Test.YtngikkggjidenaaGreatChecked
import GoSem.Claim
import GoSem.ClaimJoined
import GoSem.ClaimMapViews
import Derived.JoinedTies
import Derived.KernelRfl
namespace Go.Proofs.YtngikkggjidenaaGreat
/- THE CELL 'sum', in the pinned program and in every row, IS THE sha256 OF THE DUMP (.gsa) THAT YtngikkggjidenaaGreatProg.lean LOADS. Nothing in Lean hashes anything: it is a label: what it is worth is what the hold of that sum in a sandbox is worth. -/
noncomputable def Tryz.pinned : Pinned := { name := "ytngikkggjidenaagreat", sum := "b5c6ebd5016e72b43bdb27d0656452f658b1859f0a27334e7421e4bbef0a3096", checked := Tryz.checked }
namespace Rows
def none {H : Type} : Left H := { results := [], args := [] }

/-- 'grisaillelaw19.AreaAdditive': WHATEVER THE INPUT: true; the input reads as it did. -/
def areaAdditiveSpec : ChangeSpec := { name := "areaAdditive", fn := fun _ => fun
  | [d1, d2, d3, d4, d5] => { results := [.lit (.bool true)], args := [d1, d2, d3, d4, d5] }
  | _ => none }
def areaAdditiveRow : OpenClaim := { program := "ytngikkggjidenaagreat", sum := "b5c6ebd5016e72b43bdb27d0656452f658b1859f0a27334e7421e4bbef0a3096", func := "grisaille/grisaillelaw19.AreaAdditive", spec := "areaAdditive", unfollowed := true, recurses := true, apart := false }
def AreaAdditiveSaid : Prop := areaAdditiveRow.holds Tryz.pinned (OpenSpec.ofChange areaAdditiveSpec)

/-- ITS FALSE NEIGHBOUR: 'it returns false'. Refute it at one input. -/
def areaAdditiveWrong : ChangeSpec := { name := "areaAdditive", fn := fun _ => fun
  | [d1, d2, d3, d4, d5] => { results := [.lit (.bool false)], args := [d1, d2, d3, d4, d5] }
  | _ => none }
def AreaAdditiveWrongFalsely : Prop := areaAdditiveRow.holds Tryz.pinned (OpenSpec.ofChange areaAdditiveWrong)

/-- 'grisaillelaw19.AreaOfBox': WHATEVER THE INPUT: true; the input reads as it did. -/
def areaOfBoxSpec : ChangeSpec := { name := "areaOfBox", fn := fun _ => fun
  | [d1, d2, d3, d4, d5] => { results := [.lit (.bool true)], args := [d1, d2, d3, d4, d5] }
  | _ => none }
def areaOfBoxRow : OpenClaim := { program := "ytngikkggjidenaagreat", sum := "b5c6ebd5016e72b43bdb27d0656452f658b1859f0a27334e7421e4bbef0a3096", func := "grisaille/grisaillelaw19.AreaOfBox", spec := "areaOfBox", unfollowed := true, recurses := true, apart := false }
def AreaOfBoxSaid : Prop := areaOfBoxRow.holds Tryz.pinned (OpenSpec.ofChange areaOfBoxSpec)

/-- ITS FALSE NEIGHBOUR: 'it returns false'. Refute it at one input. -/
def areaOfBoxWrong : ChangeSpec := { name := "areaOfBox", fn := fun _ => fun
  | [d1, d2, d3, d4, d5] => { results := [.lit (.bool false)], args := [d1, d2, d3, d4, d5] }
  | _ => none }
def AreaOfBoxWrongFalsely : Prop := areaOfBoxRow.holds Tryz.pinned (OpenSpec.ofChange areaOfBoxWrong)

/-- 'grisaillelaw19.AreaInBox': WHATEVER THE INPUT: true; the input reads as it did. -/
def areaInBoxSpec : ChangeSpec := { name := "areaInBox", fn := fun _ => fun
  | [d1, d2, d3, d4] => { results := [.lit (.bool true)], args := [d1, d2, d3, d4] }
  | _ => none }
def areaInBoxRow : OpenClaim := { program := "ytngikkggjidenaagreat", sum := "b5c6ebd5016e72b43bdb27d0656452f658b1859f0a27334e7421e4bbef0a3096", func := "grisaille/grisaillelaw19.AreaInBox", spec := "areaInBox", unfollowed := true, recurses := true, apart := false }
def AreaInBoxSaid : Prop := areaInBoxRow.holds Tryz.pinned (OpenSpec.ofChange areaInBoxSpec)

/-- ITS FALSE NEIGHBOUR: 'it returns false'. Refute it at one input. -/
def areaInBoxWrong : ChangeSpec := { name := "areaInBox", fn := fun _ => fun
  | [d1, d2, d3, d4] => { results := [.lit (.bool false)], args := [d1, d2, d3, d4] }
  | _ => none }
def AreaInBoxWrongFalsely : Prop := areaInBoxRow.holds Tryz.pinned (OpenSpec.ofChange areaInBoxWrong)

/- THE SECOND FORM. 'bulk': how many values and letters a reading holds, each counted each time it is reached (what is shared counts as often as it is met; a slice's spare places count too). A statement '..UptoSaid' is the law's where the arguments, and the package variables that the reading takes, are together of bulk at most 1048576: NARROWER than '..Said'. Prove '..Said' where nothing that the law and all that it calls make is longer than what came in: it says more and counts as full. Else prove '..UptoSaid'. A law counts once. -/
mutual
def uptoBulk {H : Type} : DataW H → Nat
  | .lit (.string bytes) => bytes.length + 1
  | .lit _ => 1
  | .nil => 1
  | .ptr d => uptoBulk d + 1
  | .slice elems spare => uptoBulkAll elems + uptoBulkAll spare + 1
  | .agg parts => uptoBulkAll parts + 1
  | .iface _ d => uptoBulk d + 1
  | .map entries => uptoBulkEntries entries + 1
  | .held _ => 1
def uptoBulkAll {H : Type} : List (DataW H) → Nat
  | [] => 0
  | d :: r => uptoBulk d + uptoBulkAll r
def uptoBulkEntries {H : Type} : List (Lit × DataW H) → Nat
  | [] => 0
  | x :: r => uptoBulkEntry x + uptoBulkEntries r
def uptoBulkEntry {H : Type} : Lit × DataW H → Nat
  | (.string bytes, d) => bytes.length + uptoBulk d + 1
  | (_, d) => uptoBulk d + 1
 end
def uptoSmall : (H : Type) → List (DataW H) → Bool := fun _ ds => decide (uptoBulkAll ds ≤ 1048576)
def OpenSpec.upto (s : _root_.Go.ChangeSpec) : _root_.Go.OpenSpec := { _root_.Go.OpenSpec.ofChange s with cond := some uptoSmall }

/-- 'grisaillelaw19.AreaAdditive', WHERE WHAT IT READS IS OF BULK AT MOST 1048576: true; the input reads as it did. -/
def areaAdditiveUptoRow : OpenClaim := { program := "ytngikkggjidenaagreat", sum := "b5c6ebd5016e72b43bdb27d0656452f658b1859f0a27334e7421e4bbef0a3096", func := "grisaille/grisaillelaw19.AreaAdditive", spec := "areaAdditive", unfollowed := true, recurses := true, apart := false, narrowed := true }
def AreaAdditiveUptoSaid : Prop := areaAdditiveUptoRow.holds Tryz.pinned (OpenSpec.upto areaAdditiveSpec)

/-- 'grisaillelaw19.AreaOfBox', WHERE WHAT IT READS IS OF BULK AT MOST 1048576: true; the input reads as it did. -/
def areaOfBoxUptoRow : OpenClaim := { program := "ytngikkggjidenaagreat", sum := "b5c6ebd5016e72b43bdb27d0656452f658b1859f0a27334e7421e4bbef0a3096", func := "grisaille/grisaillelaw19.AreaOfBox", spec := "areaOfBox", unfollowed := true, recurses := true, apart := false, narrowed := true }
def AreaOfBoxUptoSaid : Prop := areaOfBoxUptoRow.holds Tryz.pinned (OpenSpec.upto areaOfBoxSpec)

/-- 'grisaillelaw19.AreaInBox', WHERE WHAT IT READS IS OF BULK AT MOST 1048576: true; the input reads as it did. -/
def areaInBoxUptoRow : OpenClaim := { program := "ytngikkggjidenaagreat", sum := "b5c6ebd5016e72b43bdb27d0656452f658b1859f0a27334e7421e4bbef0a3096", func := "grisaille/grisaillelaw19.AreaInBox", spec := "areaInBox", unfollowed := true, recurses := true, apart := false, narrowed := true }
def AreaInBoxUptoSaid : Prop := areaInBoxUptoRow.holds Tryz.pinned (OpenSpec.upto areaInBoxSpec)

end Rows
end Go.Proofs.YtngikkggjidenaaGreat
