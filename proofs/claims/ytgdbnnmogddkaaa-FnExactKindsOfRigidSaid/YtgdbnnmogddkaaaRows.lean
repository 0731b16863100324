/-
  No cell of these rows narrows 'for every input' (looked for: loops, veiled, ifaces, maps, wideKeys, modest, calm, conditions, laid).
  DERIVED. THE GIVEN ROWS OF THIS SEAT. 8 by the template 'for every input the law returns true; each argument reads behind the call as it read before'; 0 by the template 'total and deterministic' (their statements: YtgdbnnmogddkaaaTotals.lean).
  GIVEN WITH THE SEED: the statements are not yours to turn. If you find one false, say at which input.
  Laid BY PROGRAM, IN A SANDBOX (cutbox-rows.mjs): the forced cells as the released guide's own fill.sh prints them over the translation 0ef169e63c402051… (all of the seat's roots in one cut). By AI agents, Wed Nov 11 2026. No macro, syntax, notation, axiom, sorry.
-/
import Derived.Test.YtgdbnnmogddkaaaChecked
import GoSem.Claim
import GoSem.ClaimJoined
import GoSem.ClaimMapViews
import Derived.JoinedTies
import Derived.KernelRfl
namespace Go.Proofs.Ytgdbnnmogddkaaa
/- THE CELL 'sum', in the pinned program and in every row, IS THE sha256 OF THE DUMP (.gsa) THAT YtgdbnnmogddkaaaProg.lean LOADS. Nothing in Lean hashes anything: it is a label: what it is worth is what the hold of that sum in a sandbox is worth. -/
noncomputable def Try.pinned : Pinned := { name := "ytgdbnnmogddkaaa", sum := "0ef169e63c4020514e4141a54042a8190048ccc9d73228b29b4e6bbf84503925", checked := Try.checked }
namespace Rows
def none {H : Type} : Left H := { results := [], args := [] }

/-- 'laws.FnExactInspectLine': WHATEVER THE INPUT: true; the input reads as it did. -/
def fnExactInspectLineSpec : ChangeSpec := { name := "fnExactInspectLine", fn := fun _ => fun
  | [d] => { results := [.lit (.bool true)], args := [d] }
  | _ => none }
def fnExactInspectLineRow : OpenClaim := { program := "ytgdbnnmogddkaaa", sum := "0ef169e63c4020514e4141a54042a8190048ccc9d73228b29b4e6bbf84503925", func := "loop.example/g02078/laws.FnExactInspectLine", spec := "fnExactInspectLine", apart := false }
def FnExactInspectLineSaid : Prop := fnExactInspectLineRow.holds Try.pinned (OpenSpec.ofChange fnExactInspectLineSpec)

/-- ITS FALSE NEIGHBOUR: 'it returns false'. Refute it at one input. -/
def fnExactInspectLineWrong : ChangeSpec := { name := "fnExactInspectLine", fn := fun _ => fun
  | [d] => { results := [.lit (.bool false)], args := [d] }
  | _ => none }
def FnExactInspectLineWrongFalsely : Prop := fnExactInspectLineRow.holds Try.pinned (OpenSpec.ofChange fnExactInspectLineWrong)

/-- 'laws.FnExactApplyRepair': WHATEVER THE INPUT: true; the input reads as it did. -/
def fnExactApplyRepairSpec : ChangeSpec := { name := "fnExactApplyRepair", fn := fun _ => fun
  | [d1, d2] => { results := [.lit (.bool true)], args := [d1, d2] }
  | _ => none }
def fnExactApplyRepairRow : OpenClaim := { program := "ytgdbnnmogddkaaa", sum := "0ef169e63c4020514e4141a54042a8190048ccc9d73228b29b4e6bbf84503925", func := "loop.example/g02078/laws.FnExactApplyRepair", spec := "fnExactApplyRepair", unfollowed := true, recurses := true, apart := false }
def FnExactApplyRepairSaid : Prop := fnExactApplyRepairRow.holds Try.pinned (OpenSpec.ofChange fnExactApplyRepairSpec)

/-- ITS FALSE NEIGHBOUR: 'it returns false'. Refute it at one input. -/
def fnExactApplyRepairWrong : ChangeSpec := { name := "fnExactApplyRepair", fn := fun _ => fun
  | [d1, d2] => { results := [.lit (.bool false)], args := [d1, d2] }
  | _ => none }
def FnExactApplyRepairWrongFalsely : Prop := fnExactApplyRepairRow.holds Try.pinned (OpenSpec.ofChange fnExactApplyRepairWrong)

/-- 'laws.FnExactIsRepair': WHATEVER THE INPUT: true; the input reads as it did. -/
def fnExactIsRepairSpec : ChangeSpec := { name := "fnExactIsRepair", fn := fun _ => fun
  | [d1, d2] => { results := [.lit (.bool true)], args := [d1, d2] }
  | _ => none }
def fnExactIsRepairRow : OpenClaim := { program := "ytgdbnnmogddkaaa", sum := "0ef169e63c4020514e4141a54042a8190048ccc9d73228b29b4e6bbf84503925", func := "loop.example/g02078/laws.FnExactIsRepair", spec := "fnExactIsRepair", unfollowed := true, recurses := true, apart := false }
def FnExactIsRepairSaid : Prop := fnExactIsRepairRow.holds Try.pinned (OpenSpec.ofChange fnExactIsRepairSpec)

/-- ITS FALSE NEIGHBOUR: 'it returns false'. Refute it at one input. -/
def fnExactIsRepairWrong : ChangeSpec := { name := "fnExactIsRepair", fn := fun _ => fun
  | [d1, d2] => { results := [.lit (.bool false)], args := [d1, d2] }
  | _ => none }
def FnExactIsRepairWrongFalsely : Prop := fnExactIsRepairRow.holds Try.pinned (OpenSpec.ofChange fnExactIsRepairWrong)

/-- 'laws.FnExactCanRepair': WHATEVER THE INPUT: true; the input reads as it did. -/
def fnExactCanRepairSpec : ChangeSpec := { name := "fnExactCanRepair", fn := fun _ => fun
  | [d1, d2] => { results := [.lit (.bool true)], args := [d1, d2] }
  | _ => none }
def fnExactCanRepairRow : OpenClaim := { program := "ytgdbnnmogddkaaa", sum := "0ef169e63c4020514e4141a54042a8190048ccc9d73228b29b4e6bbf84503925", func := "loop.example/g02078/laws.FnExactCanRepair", spec := "fnExactCanRepair", unfollowed := true, recurses := true, apart := false }
def FnExactCanRepairSaid : Prop := fnExactCanRepairRow.holds Try.pinned (OpenSpec.ofChange fnExactCanRepairSpec)

/-- ITS FALSE NEIGHBOUR: 'it returns false'. Refute it at one input. -/
def fnExactCanRepairWrong : ChangeSpec := { name := "fnExactCanRepair", fn := fun _ => fun
  | [d1, d2] => { results := [.lit (.bool false)], args := [d1, d2] }
  | _ => none }
def FnExactCanRepairWrongFalsely : Prop := fnExactCanRepairRow.holds Try.pinned (OpenSpec.ofChange fnExactCanRepairWrong)

/-- 'laws.FnExactRepairBars': WHATEVER THE INPUT: true; the input reads as it did. -/
def fnExactRepairBarsSpec : ChangeSpec := { name := "fnExactRepairBars", fn := fun _ => fun
  | [d] => { results := [.lit (.bool true)], args := [d] }
  | _ => none }
def fnExactRepairBarsRow : OpenClaim := { program := "ytgdbnnmogddkaaa", sum := "0ef169e63c4020514e4141a54042a8190048ccc9d73228b29b4e6bbf84503925", func := "loop.example/g02078/laws.FnExactRepairBars", spec := "fnExactRepairBars", unfollowed := true, recurses := true, apart := false }
def FnExactRepairBarsSaid : Prop := fnExactRepairBarsRow.holds Try.pinned (OpenSpec.ofChange fnExactRepairBarsSpec)

/-- ITS FALSE NEIGHBOUR: 'it returns false'. Refute it at one input. -/
def fnExactRepairBarsWrong : ChangeSpec := { name := "fnExactRepairBars", fn := fun _ => fun
  | [d] => { results := [.lit (.bool false)], args := [d] }
  | _ => none }
def FnExactRepairBarsWrongFalsely : Prop := fnExactRepairBarsRow.holds Try.pinned (OpenSpec.ofChange fnExactRepairBarsWrong)

/-- 'laws.FnExactCanonicalGraph': WHATEVER THE INPUT: true; the input reads as it did. -/
def fnExactCanonicalGraphSpec : ChangeSpec := { name := "fnExactCanonicalGraph", fn := fun _ => fun
  | [d] => { results := [.lit (.bool true)], args := [d] }
  | _ => none }
def fnExactCanonicalGraphRow : OpenClaim := { program := "ytgdbnnmogddkaaa", sum := "0ef169e63c4020514e4141a54042a8190048ccc9d73228b29b4e6bbf84503925", func := "loop.example/g02078/laws.FnExactCanonicalGraph", spec := "fnExactCanonicalGraph", unfollowed := true, recurses := true, apart := false }
def FnExactCanonicalGraphSaid : Prop := fnExactCanonicalGraphRow.holds Try.pinned (OpenSpec.ofChange fnExactCanonicalGraphSpec)

/-- ITS FALSE NEIGHBOUR: 'it returns false'. Refute it at one input. -/
def fnExactCanonicalGraphWrong : ChangeSpec := { name := "fnExactCanonicalGraph", fn := fun _ => fun
  | [d] => { results := [.lit (.bool false)], args := [d] }
  | _ => none }
def FnExactCanonicalGraphWrongFalsely : Prop := fnExactCanonicalGraphRow.holds Try.pinned (OpenSpec.ofChange fnExactCanonicalGraphWrong)

/-- 'laws.FnExactAreIsomorphic': WHATEVER THE INPUT: true; the input reads as it did. -/
def fnExactAreIsomorphicSpec : ChangeSpec := { name := "fnExactAreIsomorphic", fn := fun _ => fun
  | [d1, d2] => { results := [.lit (.bool true)], args := [d1, d2] }
  | _ => none }
def fnExactAreIsomorphicRow : OpenClaim := { program := "ytgdbnnmogddkaaa", sum := "0ef169e63c4020514e4141a54042a8190048ccc9d73228b29b4e6bbf84503925", func := "loop.example/g02078/laws.FnExactAreIsomorphic", spec := "fnExactAreIsomorphic", unfollowed := true, recurses := true, apart := false }
def FnExactAreIsomorphicSaid : Prop := fnExactAreIsomorphicRow.holds Try.pinned (OpenSpec.ofChange fnExactAreIsomorphicSpec)

/-- ITS FALSE NEIGHBOUR: 'it returns false'. Refute it at one input. -/
def fnExactAreIsomorphicWrong : ChangeSpec := { name := "fnExactAreIsomorphic", fn := fun _ => fun
  | [d1, d2] => { results := [.lit (.bool false)], args := [d1, d2] }
  | _ => none }
def FnExactAreIsomorphicWrongFalsely : Prop := fnExactAreIsomorphicRow.holds Try.pinned (OpenSpec.ofChange fnExactAreIsomorphicWrong)

/-- 'laws.FnExactKindsOfRigid': WHATEVER THE INPUT: true; the input reads as it did. -/
def fnExactKindsOfRigidSpec : ChangeSpec := { name := "fnExactKindsOfRigid", fn := fun _ => fun
  | [d] => { results := [.lit (.bool true)], args := [d] }
  | _ => none }
def fnExactKindsOfRigidRow : OpenClaim := { program := "ytgdbnnmogddkaaa", sum := "0ef169e63c4020514e4141a54042a8190048ccc9d73228b29b4e6bbf84503925", func := "loop.example/g02078/laws.FnExactKindsOfRigid", spec := "fnExactKindsOfRigid", unfollowed := true, recurses := true, apart := false }
def FnExactKindsOfRigidSaid : Prop := fnExactKindsOfRigidRow.holds Try.pinned (OpenSpec.ofChange fnExactKindsOfRigidSpec)

/-- ITS FALSE NEIGHBOUR: 'it returns false'. Refute it at one input. -/
def fnExactKindsOfRigidWrong : ChangeSpec := { name := "fnExactKindsOfRigid", fn := fun _ => fun
  | [d] => { results := [.lit (.bool false)], args := [d] }
  | _ => none }
def FnExactKindsOfRigidWrongFalsely : Prop := fnExactKindsOfRigidRow.holds Try.pinned (OpenSpec.ofChange fnExactKindsOfRigidWrong)

/- THE SECOND FORM. 'bulk': how many values and letters a reading holds, each counted each time it is reached (what is shared counts as often as it is met; a slice's spare places count too). A statement '..UptoSaid' is the law's where the arguments, and the package variables that the reading takes, are together of bulk at most 1048576: NARROWER than '..Said'. Prove '..Said' where nothing that the law and all that it calls make is longer than what came in: it says more and counts as full. Else prove '..UptoSaid'. A law counts once. -/
mutual
def uptoBulk {H : Type} : DataW H → Nat
  | .lit (.string bytes) => bytes.length + 1
  | .lit _ => 1
  | .nil => 1
  | .ptr d => uptoBulk d + 1
  | .slice elems spare => uptoBulkAll elems + uptoBulkAll spare + 1
  | .agg parts => uptoBulkAll parts + 1
  | .iface _ d => uptoBulk d + 1
  | .map entries => uptoBulkEntries entries + 1
  | .held _ => 1
def uptoBulkAll {H : Type} : List (DataW H) → Nat
  | [] => 0
  | d :: r => uptoBulk d + uptoBulkAll r
def uptoBulkEntries {H : Type} : List (Lit × DataW H) → Nat
  | [] => 0
  | x :: r => uptoBulkEntry x + uptoBulkEntries r
def uptoBulkEntry {H : Type} : Lit × DataW H → Nat
  | (.string bytes, d) => bytes.length + uptoBulk d + 1
  | (_, d) => uptoBulk d + 1
 end
def uptoSmall : (H : Type) → List (DataW H) → Bool := fun _ ds => decide (uptoBulkAll ds ≤ 1048576)
def OpenSpec.upto (s : _root_.Go.ChangeSpec) : _root_.Go.OpenSpec := { _root_.Go.OpenSpec.ofChange s with cond := some uptoSmall }

/-- 'laws.FnExactInspectLine', WHERE WHAT IT READS IS OF BULK AT MOST 1048576: true; the input reads as it did. -/
def fnExactInspectLineUptoRow : OpenClaim := { program := "ytgdbnnmogddkaaa", sum := "0ef169e63c4020514e4141a54042a8190048ccc9d73228b29b4e6bbf84503925", func := "loop.example/g02078/laws.FnExactInspectLine", spec := "fnExactInspectLine", apart := false, narrowed := true }
def FnExactInspectLineUptoSaid : Prop := fnExactInspectLineUptoRow.holds Try.pinned (OpenSpec.upto fnExactInspectLineSpec)

/-- 'laws.FnExactApplyRepair', WHERE WHAT IT READS IS OF BULK AT MOST 1048576: true; the input reads as it did. -/
def fnExactApplyRepairUptoRow : OpenClaim := { program := "ytgdbnnmogddkaaa", sum := "0ef169e63c4020514e4141a54042a8190048ccc9d73228b29b4e6bbf84503925", func := "loop.example/g02078/laws.FnExactApplyRepair", spec := "fnExactApplyRepair", unfollowed := true, recurses := true, apart := false, narrowed := true }
def FnExactApplyRepairUptoSaid : Prop := fnExactApplyRepairUptoRow.holds Try.pinned (OpenSpec.upto fnExactApplyRepairSpec)

/-- 'laws.FnExactIsRepair', WHERE WHAT IT READS IS OF BULK AT MOST 1048576: true; the input reads as it did. -/
def fnExactIsRepairUptoRow : OpenClaim := { program := "ytgdbnnmogddkaaa", sum := "0ef169e63c4020514e4141a54042a8190048ccc9d73228b29b4e6bbf84503925", func := "loop.example/g02078/laws.FnExactIsRepair", spec := "fnExactIsRepair", unfollowed := true, recurses := true, apart := false, narrowed := true }
def FnExactIsRepairUptoSaid : Prop := fnExactIsRepairUptoRow.holds Try.pinned (OpenSpec.upto fnExactIsRepairSpec)

/-- 'laws.FnExactCanRepair', WHERE WHAT IT READS IS OF BULK AT MOST 1048576: true; the input reads as it did. -/
def fnExactCanRepairUptoRow : OpenClaim := { program := "ytgdbnnmogddkaaa", sum := "0ef169e63c4020514e4141a54042a8190048ccc9d73228b29b4e6bbf84503925", func := "loop.example/g02078/laws.FnExactCanRepair", spec := "fnExactCanRepair", unfollowed := true, recurses := true, apart := false, narrowed := true }
def FnExactCanRepairUptoSaid : Prop := fnExactCanRepairUptoRow.holds Try.pinned (OpenSpec.upto fnExactCanRepairSpec)

/-- 'laws.FnExactRepairBars', WHERE WHAT IT READS IS OF BULK AT MOST 1048576: true; the input reads as it did. -/
def fnExactRepairBarsUptoRow : OpenClaim := { program := "ytgdbnnmogddkaaa", sum := "0ef169e63c4020514e4141a54042a8190048ccc9d73228b29b4e6bbf84503925", func := "loop.example/g02078/laws.FnExactRepairBars", spec := "fnExactRepairBars", unfollowed := true, recurses := true, apart := false, narrowed := true }
def FnExactRepairBarsUptoSaid : Prop := fnExactRepairBarsUptoRow.holds Try.pinned (OpenSpec.upto fnExactRepairBarsSpec)

/-- 'laws.FnExactCanonicalGraph', WHERE WHAT IT READS IS OF BULK AT MOST 1048576: true; the input reads as it did. -/
def fnExactCanonicalGraphUptoRow : OpenClaim := { program := "ytgdbnnmogddkaaa", sum := "0ef169e63c4020514e4141a54042a8190048ccc9d73228b29b4e6bbf84503925", func := "loop.example/g02078/laws.FnExactCanonicalGraph", spec := "fnExactCanonicalGraph", unfollowed := true, recurses := true, apart := false, narrowed := true }
def FnExactCanonicalGraphUptoSaid : Prop := fnExactCanonicalGraphUptoRow.holds Try.pinned (OpenSpec.upto fnExactCanonicalGraphSpec)

/-- 'laws.FnExactAreIsomorphic', WHERE WHAT IT READS IS OF BULK AT MOST 1048576: true; the input reads as it did. -/
def fnExactAreIsomorphicUptoRow : OpenClaim := { program := "ytgdbnnmogddkaaa", sum := "0ef169e63c4020514e4141a54042a8190048ccc9d73228b29b4e6bbf84503925", func := "loop.example/g02078/laws.FnExactAreIsomorphic", spec := "fnExactAreIsomorphic", unfollowed := true, recurses := true, apart := false, narrowed := true }
def FnExactAreIsomorphicUptoSaid : Prop := fnExactAreIsomorphicUptoRow.holds Try.pinned (OpenSpec.upto fnExactAreIsomorphicSpec)

/-- 'laws.FnExactKindsOfRigid', WHERE WHAT IT READS IS OF BULK AT MOST 1048576: true; the input reads as it did. -/
def fnExactKindsOfRigidUptoRow : OpenClaim := { program := "ytgdbnnmogddkaaa", sum := "0ef169e63c4020514e4141a54042a8190048ccc9d73228b29b4e6bbf84503925", func := "loop.example/g02078/laws.FnExactKindsOfRigid", spec := "fnExactKindsOfRigid", unfollowed := true, recurses := true, apart := false, narrowed := true }
def FnExactKindsOfRigidUptoSaid : Prop := fnExactKindsOfRigidUptoRow.holds Try.pinned (OpenSpec.upto fnExactKindsOfRigidSpec)

end Rows
end Go.Proofs.Ytgdbnnmogddkaaa
