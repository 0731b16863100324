/-
  No cell of these rows narrows 'for every input' (looked for: loops, veiled, ifaces, maps, wideKeys, modest, calm, conditions, laid).
  DERIVED. THE GIVEN ROWS OF THIS SEAT. 6 by the template 'for every input the law returns true; each argument reads behind the call as it read before'; 0 by the template 'total and deterministic' (their statements: YthnidhkfelfkdaaTotals.lean).
  GIVEN WITH THE SEED: the statements are not yours to turn. If you find one false, say at which input.
  Laid BY PROGRAM, IN A SANDBOX (cutbox-rows.mjs): the forced cells as the released guide's own fill.sh prints them over the translation 515920bc603f0e2b… (all of the seat's roots in one cut). By AI agents, Wed Nov 11 2026. No macro, syntax, notation, axiom, sorry.
-/
import Derived.Test.YthnidhkfelfkdaaChecked
import GoSem.Claim
import GoSem.ClaimJoined
import GoSem.ClaimMapViews
import Derived.JoinedTies
import Derived.KernelRfl
namespace Go.Proofs.Ythnidhkfelfkdaa
/- THE CELL 'sum', in the pinned program and in every row, IS THE sha256 OF THE DUMP (.gsa) THAT YthnidhkfelfkdaaProg.lean LOADS. Nothing in Lean hashes anything: it is a label: what it is worth is what the hold of that sum in a sandbox is worth. -/
noncomputable def Try.pinned : Pinned := { name := "ythnidhkfelfkdaa", sum := "515920bc603f0e2b623cf2c5ffe13318145e9a3aa97a1ecf10858cc8b0bed29c", checked := Try.checked }
namespace Rows
def none {H : Type} : Left H := { results := [], args := [] }

/-- 'laws.FnExactCountRigid': WHATEVER THE INPUT: true; the input reads as it did. -/
def fnExactCountRigidSpec : ChangeSpec := { name := "fnExactCountRigid", fn := fun _ => fun
  | [d] => { results := [.lit (.bool true)], args := [d] }
  | _ => none }
def fnExactCountRigidRow : OpenClaim := { program := "ythnidhkfelfkdaa", sum := "515920bc603f0e2b623cf2c5ffe13318145e9a3aa97a1ecf10858cc8b0bed29c", func := "loop.example/g02078/laws.FnExactCountRigid", spec := "fnExactCountRigid", apart := false }
def FnExactCountRigidSaid : Prop := fnExactCountRigidRow.holds Try.pinned (OpenSpec.ofChange fnExactCountRigidSpec)

/-- ITS FALSE NEIGHBOUR: 'it returns false'. Refute it at one input. -/
def fnExactCountRigidWrong : ChangeSpec := { name := "fnExactCountRigid", fn := fun _ => fun
  | [d] => { results := [.lit (.bool false)], args := [d] }
  | _ => none }
def FnExactCountRigidWrongFalsely : Prop := fnExactCountRigidRow.holds Try.pinned (OpenSpec.ofChange fnExactCountRigidWrong)

/-- 'laws.FnExactCountByBodies': WHATEVER THE INPUT: true; the input reads as it did. -/
def fnExactCountByBodiesSpec : ChangeSpec := { name := "fnExactCountByBodies", fn := fun _ => fun
  | [d] => { results := [.lit (.bool true)], args := [d] }
  | _ => none }
def fnExactCountByBodiesRow : OpenClaim := { program := "ythnidhkfelfkdaa", sum := "515920bc603f0e2b623cf2c5ffe13318145e9a3aa97a1ecf10858cc8b0bed29c", func := "loop.example/g02078/laws.FnExactCountByBodies", spec := "fnExactCountByBodies", apart := false }
def FnExactCountByBodiesSaid : Prop := fnExactCountByBodiesRow.holds Try.pinned (OpenSpec.ofChange fnExactCountByBodiesSpec)

/-- ITS FALSE NEIGHBOUR: 'it returns false'. Refute it at one input. -/
def fnExactCountByBodiesWrong : ChangeSpec := { name := "fnExactCountByBodies", fn := fun _ => fun
  | [d] => { results := [.lit (.bool false)], args := [d] }
  | _ => none }
def FnExactCountByBodiesWrongFalsely : Prop := fnExactCountByBodiesRow.holds Try.pinned (OpenSpec.ofChange fnExactCountByBodiesWrong)

/-- 'laws.FnExactJointKinds': WHATEVER THE INPUT: true; the input reads as it did. -/
def fnExactJointKindsSpec : ChangeSpec := { name := "fnExactJointKinds", fn := fun _ => fun
  | [d] => { results := [.lit (.bool true)], args := [d] }
  | _ => none }
def fnExactJointKindsRow : OpenClaim := { program := "ythnidhkfelfkdaa", sum := "515920bc603f0e2b623cf2c5ffe13318145e9a3aa97a1ecf10858cc8b0bed29c", func := "loop.example/g02078/laws.FnExactJointKinds", spec := "fnExactJointKinds", apart := false }
def FnExactJointKindsSaid : Prop := fnExactJointKindsRow.holds Try.pinned (OpenSpec.ofChange fnExactJointKindsSpec)

/-- ITS FALSE NEIGHBOUR: 'it returns false'. Refute it at one input. -/
def fnExactJointKindsWrong : ChangeSpec := { name := "fnExactJointKinds", fn := fun _ => fun
  | [d] => { results := [.lit (.bool false)], args := [d] }
  | _ => none }
def FnExactJointKindsWrongFalsely : Prop := fnExactJointKindsRow.holds Try.pinned (OpenSpec.ofChange fnExactJointKindsWrong)

/-- 'laws.FnExactRigidGraphs': WHATEVER THE INPUT: true; the input reads as it did. -/
def fnExactRigidGraphsSpec : ChangeSpec := { name := "fnExactRigidGraphs", fn := fun _ => fun
  | [d] => { results := [.lit (.bool true)], args := [d] }
  | _ => none }
def fnExactRigidGraphsRow : OpenClaim := { program := "ythnidhkfelfkdaa", sum := "515920bc603f0e2b623cf2c5ffe13318145e9a3aa97a1ecf10858cc8b0bed29c", func := "loop.example/g02078/laws.FnExactRigidGraphs", spec := "fnExactRigidGraphs", apart := false }
def FnExactRigidGraphsSaid : Prop := fnExactRigidGraphsRow.holds Try.pinned (OpenSpec.ofChange fnExactRigidGraphsSpec)

/-- ITS FALSE NEIGHBOUR: 'it returns false'. Refute it at one input. -/
def fnExactRigidGraphsWrong : ChangeSpec := { name := "fnExactRigidGraphs", fn := fun _ => fun
  | [d] => { results := [.lit (.bool false)], args := [d] }
  | _ => none }
def FnExactRigidGraphsWrongFalsely : Prop := fnExactRigidGraphsRow.holds Try.pinned (OpenSpec.ofChange fnExactRigidGraphsWrong)

/-- 'laws.FnExactSharedPoints': WHATEVER THE INPUT: true; the input reads as it did. -/
def fnExactSharedPointsSpec : ChangeSpec := { name := "fnExactSharedPoints", fn := fun _ => fun
  | [d] => { results := [.lit (.bool true)], args := [d] }
  | _ => none }
def fnExactSharedPointsRow : OpenClaim := { program := "ythnidhkfelfkdaa", sum := "515920bc603f0e2b623cf2c5ffe13318145e9a3aa97a1ecf10858cc8b0bed29c", func := "loop.example/g02078/laws.FnExactSharedPoints", spec := "fnExactSharedPoints", apart := false }
def FnExactSharedPointsSaid : Prop := fnExactSharedPointsRow.holds Try.pinned (OpenSpec.ofChange fnExactSharedPointsSpec)

/-- ITS FALSE NEIGHBOUR: 'it returns false'. Refute it at one input. -/
def fnExactSharedPointsWrong : ChangeSpec := { name := "fnExactSharedPoints", fn := fun _ => fun
  | [d] => { results := [.lit (.bool false)], args := [d] }
  | _ => none }
def FnExactSharedPointsWrongFalsely : Prop := fnExactSharedPointsRow.holds Try.pinned (OpenSpec.ofChange fnExactSharedPointsWrong)

/-- 'laws.FnExactBodiesOf': WHATEVER THE INPUT: true; the input reads as it did. -/
def fnExactBodiesOfSpec : ChangeSpec := { name := "fnExactBodiesOf", fn := fun _ => fun
  | [d] => { results := [.lit (.bool true)], args := [d] }
  | _ => none }
def fnExactBodiesOfRow : OpenClaim := { program := "ythnidhkfelfkdaa", sum := "515920bc603f0e2b623cf2c5ffe13318145e9a3aa97a1ecf10858cc8b0bed29c", func := "loop.example/g02078/laws.FnExactBodiesOf", spec := "fnExactBodiesOf", apart := false }
def FnExactBodiesOfSaid : Prop := fnExactBodiesOfRow.holds Try.pinned (OpenSpec.ofChange fnExactBodiesOfSpec)

/-- ITS FALSE NEIGHBOUR: 'it returns false'. Refute it at one input. -/
def fnExactBodiesOfWrong : ChangeSpec := { name := "fnExactBodiesOf", fn := fun _ => fun
  | [d] => { results := [.lit (.bool false)], args := [d] }
  | _ => none }
def FnExactBodiesOfWrongFalsely : Prop := fnExactBodiesOfRow.holds Try.pinned (OpenSpec.ofChange fnExactBodiesOfWrong)

/- THE SECOND FORM. 'bulk': how many values and letters a reading holds, each counted each time it is reached (what is shared counts as often as it is met; a slice's spare places count too). A statement '..UptoSaid' is the law's where the arguments, and the package variables that the reading takes, are together of bulk at most 1048576: NARROWER than '..Said'. Prove '..Said' where nothing that the law and all that it calls make is longer than what came in: it says more and counts as full. Else prove '..UptoSaid'. A law counts once. -/
mutual
def uptoBulk {H : Type} : DataW H → Nat
  | .lit (.string bytes) => bytes.length + 1
  | .lit _ => 1
  | .nil => 1
  | .ptr d => uptoBulk d + 1
  | .slice elems spare => uptoBulkAll elems + uptoBulkAll spare + 1
  | .agg parts => uptoBulkAll parts + 1
  | .iface _ d => uptoBulk d + 1
  | .map entries => uptoBulkEntries entries + 1
  | .held _ => 1
def uptoBulkAll {H : Type} : List (DataW H) → Nat
  | [] => 0
  | d :: r => uptoBulk d + uptoBulkAll r
def uptoBulkEntries {H : Type} : List (Lit × DataW H) → Nat
  | [] => 0
  | x :: r => uptoBulkEntry x + uptoBulkEntries r
def uptoBulkEntry {H : Type} : Lit × DataW H → Nat
  | (.string bytes, d) => bytes.length + uptoBulk d + 1
  | (_, d) => uptoBulk d + 1
 end
def uptoSmall : (H : Type) → List (DataW H) → Bool := fun _ ds => decide (uptoBulkAll ds ≤ 1048576)
def OpenSpec.upto (s : _root_.Go.ChangeSpec) : _root_.Go.OpenSpec := { _root_.Go.OpenSpec.ofChange s with cond := some uptoSmall }

/-- 'laws.FnExactCountRigid', WHERE WHAT IT READS IS OF BULK AT MOST 1048576: true; the input reads as it did. -/
def fnExactCountRigidUptoRow : OpenClaim := { program := "ythnidhkfelfkdaa", sum := "515920bc603f0e2b623cf2c5ffe13318145e9a3aa97a1ecf10858cc8b0bed29c", func := "loop.example/g02078/laws.FnExactCountRigid", spec := "fnExactCountRigid", apart := false, narrowed := true }
def FnExactCountRigidUptoSaid : Prop := fnExactCountRigidUptoRow.holds Try.pinned (OpenSpec.upto fnExactCountRigidSpec)

/-- 'laws.FnExactCountByBodies', WHERE WHAT IT READS IS OF BULK AT MOST 1048576: true; the input reads as it did. -/
def fnExactCountByBodiesUptoRow : OpenClaim := { program := "ythnidhkfelfkdaa", sum := "515920bc603f0e2b623cf2c5ffe13318145e9a3aa97a1ecf10858cc8b0bed29c", func := "loop.example/g02078/laws.FnExactCountByBodies", spec := "fnExactCountByBodies", apart := false, narrowed := true }
def FnExactCountByBodiesUptoSaid : Prop := fnExactCountByBodiesUptoRow.holds Try.pinned (OpenSpec.upto fnExactCountByBodiesSpec)

/-- 'laws.FnExactJointKinds', WHERE WHAT IT READS IS OF BULK AT MOST 1048576: true; the input reads as it did. -/
def fnExactJointKindsUptoRow : OpenClaim := { program := "ythnidhkfelfkdaa", sum := "515920bc603f0e2b623cf2c5ffe13318145e9a3aa97a1ecf10858cc8b0bed29c", func := "loop.example/g02078/laws.FnExactJointKinds", spec := "fnExactJointKinds", apart := false, narrowed := true }
def FnExactJointKindsUptoSaid : Prop := fnExactJointKindsUptoRow.holds Try.pinned (OpenSpec.upto fnExactJointKindsSpec)

/-- 'laws.FnExactRigidGraphs', WHERE WHAT IT READS IS OF BULK AT MOST 1048576: true; the input reads as it did. -/
def fnExactRigidGraphsUptoRow : OpenClaim := { program := "ythnidhkfelfkdaa", sum := "515920bc603f0e2b623cf2c5ffe13318145e9a3aa97a1ecf10858cc8b0bed29c", func := "loop.example/g02078/laws.FnExactRigidGraphs", spec := "fnExactRigidGraphs", apart := false, narrowed := true }
def FnExactRigidGraphsUptoSaid : Prop := fnExactRigidGraphsUptoRow.holds Try.pinned (OpenSpec.upto fnExactRigidGraphsSpec)

/-- 'laws.FnExactSharedPoints', WHERE WHAT IT READS IS OF BULK AT MOST 1048576: true; the input reads as it did. -/
def fnExactSharedPointsUptoRow : OpenClaim := { program := "ythnidhkfelfkdaa", sum := "515920bc603f0e2b623cf2c5ffe13318145e9a3aa97a1ecf10858cc8b0bed29c", func := "loop.example/g02078/laws.FnExactSharedPoints", spec := "fnExactSharedPoints", apart := false, narrowed := true }
def FnExactSharedPointsUptoSaid : Prop := fnExactSharedPointsUptoRow.holds Try.pinned (OpenSpec.upto fnExactSharedPointsSpec)

/-- 'laws.FnExactBodiesOf', WHERE WHAT IT READS IS OF BULK AT MOST 1048576: true; the input reads as it did. -/
def fnExactBodiesOfUptoRow : OpenClaim := { program := "ythnidhkfelfkdaa", sum := "515920bc603f0e2b623cf2c5ffe13318145e9a3aa97a1ecf10858cc8b0bed29c", func := "loop.example/g02078/laws.FnExactBodiesOf", spec := "fnExactBodiesOf", apart := false, narrowed := true }
def FnExactBodiesOfUptoSaid : Prop := fnExactBodiesOfUptoRow.holds Try.pinned (OpenSpec.upto fnExactBodiesOfSpec)

end Rows
end Go.Proofs.Ythnidhkfelfkdaa
