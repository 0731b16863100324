/-
  No cell of these rows narrows 'for every input' (looked for: loops, veiled, ifaces, maps, wideKeys, modest, calm, conditions, laid).
  DERIVED. THE GIVEN ROWS OF THIS SEAT. 6 by the template 'for every input the law returns true; each argument reads behind the call as it read before'; 0 by the template 'total and deterministic' (their statements: YtffnfeefjdmifaaTotals.lean).
  GIVEN WITH THE SEED: the statements are not yours to turn. If you find one false, say at which input.
  Laid BY PROGRAM, IN A SANDBOX (cutbox-rows.mjs): the forced cells as the released guide's own fill.sh prints them over the translation d7db45e784e32087… (all of the seat's roots in one cut). By AI agents, Wed Nov 11 2026. No macro, syntax, notation, axiom, sorry.
-/
import Derived.Test.YtffnfeefjdmifaaChecked
import GoSem.Claim
import GoSem.ClaimJoined
import GoSem.ClaimMapViews
import Derived.JoinedTies
import Derived.KernelRfl
namespace Go.Proofs.Ytffnfeefjdmifaa
/- THE CELL 'sum', in the pinned program and in every row, IS THE sha256 OF THE DUMP (.gsa) THAT YtffnfeefjdmifaaProg.lean LOADS. Nothing in Lean hashes anything: it is a label: what it is worth is what the hold of that sum in a sandbox is worth. -/
noncomputable def Try.pinned : Pinned := { name := "ytffnfeefjdmifaa", sum := "d7db45e784e3208760f9a035c7c426ac5298872f8443650ba9f5cc19d3d57305", checked := Try.checked }
namespace Rows
def none {H : Type} : Left H := { results := [], args := [] }

/-- 'laws.FnExactRigidGraphs': WHATEVER THE INPUT: true; the input reads as it did. -/
def fnExactRigidGraphsSpec : ChangeSpec := { name := "fnExactRigidGraphs", fn := fun _ => fun
  | [d] => { results := [.lit (.bool true)], args := [d] }
  | _ => none }
def fnExactRigidGraphsRow : OpenClaim := { program := "ytffnfeefjdmifaa", sum := "d7db45e784e3208760f9a035c7c426ac5298872f8443650ba9f5cc19d3d57305", func := "loop.example/g02078/laws.FnExactRigidGraphs", spec := "fnExactRigidGraphs", apart := false }
def FnExactRigidGraphsSaid : Prop := fnExactRigidGraphsRow.holds Try.pinned (OpenSpec.ofChange fnExactRigidGraphsSpec)

/-- ITS FALSE NEIGHBOUR: 'it returns false'. Refute it at one input. -/
def fnExactRigidGraphsWrong : ChangeSpec := { name := "fnExactRigidGraphs", fn := fun _ => fun
  | [d] => { results := [.lit (.bool false)], args := [d] }
  | _ => none }
def FnExactRigidGraphsWrongFalsely : Prop := fnExactRigidGraphsRow.holds Try.pinned (OpenSpec.ofChange fnExactRigidGraphsWrong)

/-- 'laws.FnExactBodiesOf': WHATEVER THE INPUT: true; the input reads as it did. -/
def fnExactBodiesOfSpec : ChangeSpec := { name := "fnExactBodiesOf", fn := fun _ => fun
  | [d] => { results := [.lit (.bool true)], args := [d] }
  | _ => none }
def fnExactBodiesOfRow : OpenClaim := { program := "ytffnfeefjdmifaa", sum := "d7db45e784e3208760f9a035c7c426ac5298872f8443650ba9f5cc19d3d57305", func := "loop.example/g02078/laws.FnExactBodiesOf", spec := "fnExactBodiesOf", apart := false }
def FnExactBodiesOfSaid : Prop := fnExactBodiesOfRow.holds Try.pinned (OpenSpec.ofChange fnExactBodiesOfSpec)

/-- ITS FALSE NEIGHBOUR: 'it returns false'. Refute it at one input. -/
def fnExactBodiesOfWrong : ChangeSpec := { name := "fnExactBodiesOf", fn := fun _ => fun
  | [d] => { results := [.lit (.bool false)], args := [d] }
  | _ => none }
def FnExactBodiesOfWrongFalsely : Prop := fnExactBodiesOfRow.holds Try.pinned (OpenSpec.ofChange fnExactBodiesOfWrong)

/-- 'laws.FnExactCountLine': WHATEVER THE INPUT: true; the input reads as it did. -/
def fnExactCountLineSpec : ChangeSpec := { name := "fnExactCountLine", fn := fun _ => fun
  | [d1, d2, d3] => { results := [.lit (.bool true)], args := [d1, d2, d3] }
  | _ => none }
def fnExactCountLineRow : OpenClaim := { program := "ytffnfeefjdmifaa", sum := "d7db45e784e3208760f9a035c7c426ac5298872f8443650ba9f5cc19d3d57305", func := "loop.example/g02078/laws.FnExactCountLine", spec := "fnExactCountLine", apart := false }
def FnExactCountLineSaid : Prop := fnExactCountLineRow.holds Try.pinned (OpenSpec.ofChange fnExactCountLineSpec)

/-- ITS FALSE NEIGHBOUR: 'it returns false'. Refute it at one input. -/
def fnExactCountLineWrong : ChangeSpec := { name := "fnExactCountLine", fn := fun _ => fun
  | [d1, d2, d3] => { results := [.lit (.bool false)], args := [d1, d2, d3] }
  | _ => none }
def FnExactCountLineWrongFalsely : Prop := fnExactCountLineRow.holds Try.pinned (OpenSpec.ofChange fnExactCountLineWrong)

/-- 'laws.FnExactIsGainSparse': WHATEVER THE INPUT: true; the input reads as it did. -/
def fnExactIsGainSparseSpec : ChangeSpec := { name := "fnExactIsGainSparse", fn := fun _ => fun
  | [d] => { results := [.lit (.bool true)], args := [d] }
  | _ => none }
def fnExactIsGainSparseRow : OpenClaim := { program := "ytffnfeefjdmifaa", sum := "d7db45e784e3208760f9a035c7c426ac5298872f8443650ba9f5cc19d3d57305", func := "loop.example/g02078/laws.FnExactIsGainSparse", spec := "fnExactIsGainSparse", recurses := true, apart := false }
def FnExactIsGainSparseSaid : Prop := fnExactIsGainSparseRow.holds Try.pinned (OpenSpec.ofChange fnExactIsGainSparseSpec)

/-- ITS FALSE NEIGHBOUR: 'it returns false'. Refute it at one input. -/
def fnExactIsGainSparseWrong : ChangeSpec := { name := "fnExactIsGainSparse", fn := fun _ => fun
  | [d] => { results := [.lit (.bool false)], args := [d] }
  | _ => none }
def FnExactIsGainSparseWrongFalsely : Prop := fnExactIsGainSparseRow.holds Try.pinned (OpenSpec.ofChange fnExactIsGainSparseWrong)

/-- 'laws.FnExactFormatClaim': WHATEVER THE INPUT: true; the input reads as it did. -/
def fnExactFormatClaimSpec : ChangeSpec := { name := "fnExactFormatClaim", fn := fun _ => fun
  | [d] => { results := [.lit (.bool true)], args := [d] }
  | _ => none }
def fnExactFormatClaimRow : OpenClaim := { program := "ytffnfeefjdmifaa", sum := "d7db45e784e3208760f9a035c7c426ac5298872f8443650ba9f5cc19d3d57305", func := "loop.example/g02078/laws.FnExactFormatClaim", spec := "fnExactFormatClaim", apart := false }
def FnExactFormatClaimSaid : Prop := fnExactFormatClaimRow.holds Try.pinned (OpenSpec.ofChange fnExactFormatClaimSpec)

/-- ITS FALSE NEIGHBOUR: 'it returns false'. Refute it at one input. -/
def fnExactFormatClaimWrong : ChangeSpec := { name := "fnExactFormatClaim", fn := fun _ => fun
  | [d] => { results := [.lit (.bool false)], args := [d] }
  | _ => none }
def FnExactFormatClaimWrongFalsely : Prop := fnExactFormatClaimRow.holds Try.pinned (OpenSpec.ofChange fnExactFormatClaimWrong)

/-- 'laws.FnExactGainFreedom': WHATEVER THE INPUT: true; the input reads as it did. -/
def fnExactGainFreedomSpec : ChangeSpec := { name := "fnExactGainFreedom", fn := fun _ => fun
  | [d] => { results := [.lit (.bool true)], args := [d] }
  | _ => none }
def fnExactGainFreedomRow : OpenClaim := { program := "ytffnfeefjdmifaa", sum := "d7db45e784e3208760f9a035c7c426ac5298872f8443650ba9f5cc19d3d57305", func := "loop.example/g02078/laws.FnExactGainFreedom", spec := "fnExactGainFreedom", recurses := true, apart := false }
def FnExactGainFreedomSaid : Prop := fnExactGainFreedomRow.holds Try.pinned (OpenSpec.ofChange fnExactGainFreedomSpec)

/-- ITS FALSE NEIGHBOUR: 'it returns false'. Refute it at one input. -/
def fnExactGainFreedomWrong : ChangeSpec := { name := "fnExactGainFreedom", fn := fun _ => fun
  | [d] => { results := [.lit (.bool false)], args := [d] }
  | _ => none }
def FnExactGainFreedomWrongFalsely : Prop := fnExactGainFreedomRow.holds Try.pinned (OpenSpec.ofChange fnExactGainFreedomWrong)

/- THE SECOND FORM. 'bulk': how many values and letters a reading holds, each counted each time it is reached (what is shared counts as often as it is met; a slice's spare places count too). A statement '..UptoSaid' is the law's where the arguments, and the package variables that the reading takes, are together of bulk at most 1048576: NARROWER than '..Said'. Prove '..Said' where nothing that the law and all that it calls make is longer than what came in: it says more and counts as full. Else prove '..UptoSaid'. A law counts once. -/
mutual
def uptoBulk {H : Type} : DataW H → Nat
  | .lit (.string bytes) => bytes.length + 1
  | .lit _ => 1
  | .nil => 1
  | .ptr d => uptoBulk d + 1
  | .slice elems spare => uptoBulkAll elems + uptoBulkAll spare + 1
  | .agg parts => uptoBulkAll parts + 1
  | .iface _ d => uptoBulk d + 1
  | .map entries => uptoBulkEntries entries + 1
  | .held _ => 1
def uptoBulkAll {H : Type} : List (DataW H) → Nat
  | [] => 0
  | d :: r => uptoBulk d + uptoBulkAll r
def uptoBulkEntries {H : Type} : List (Lit × DataW H) → Nat
  | [] => 0
  | x :: r => uptoBulkEntry x + uptoBulkEntries r
def uptoBulkEntry {H : Type} : Lit × DataW H → Nat
  | (.string bytes, d) => bytes.length + uptoBulk d + 1
  | (_, d) => uptoBulk d + 1
 end
def uptoSmall : (H : Type) → List (DataW H) → Bool := fun _ ds => decide (uptoBulkAll ds ≤ 1048576)
def OpenSpec.upto (s : _root_.Go.ChangeSpec) : _root_.Go.OpenSpec := { _root_.Go.OpenSpec.ofChange s with cond := some uptoSmall }

/-- 'laws.FnExactRigidGraphs', WHERE WHAT IT READS IS OF BULK AT MOST 1048576: true; the input reads as it did. -/
def fnExactRigidGraphsUptoRow : OpenClaim := { program := "ytffnfeefjdmifaa", sum := "d7db45e784e3208760f9a035c7c426ac5298872f8443650ba9f5cc19d3d57305", func := "loop.example/g02078/laws.FnExactRigidGraphs", spec := "fnExactRigidGraphs", apart := false, narrowed := true }
def FnExactRigidGraphsUptoSaid : Prop := fnExactRigidGraphsUptoRow.holds Try.pinned (OpenSpec.upto fnExactRigidGraphsSpec)

/-- 'laws.FnExactBodiesOf', WHERE WHAT IT READS IS OF BULK AT MOST 1048576: true; the input reads as it did. -/
def fnExactBodiesOfUptoRow : OpenClaim := { program := "ytffnfeefjdmifaa", sum := "d7db45e784e3208760f9a035c7c426ac5298872f8443650ba9f5cc19d3d57305", func := "loop.example/g02078/laws.FnExactBodiesOf", spec := "fnExactBodiesOf", apart := false, narrowed := true }
def FnExactBodiesOfUptoSaid : Prop := fnExactBodiesOfUptoRow.holds Try.pinned (OpenSpec.upto fnExactBodiesOfSpec)

/-- 'laws.FnExactCountLine', WHERE WHAT IT READS IS OF BULK AT MOST 1048576: true; the input reads as it did. -/
def fnExactCountLineUptoRow : OpenClaim := { program := "ytffnfeefjdmifaa", sum := "d7db45e784e3208760f9a035c7c426ac5298872f8443650ba9f5cc19d3d57305", func := "loop.example/g02078/laws.FnExactCountLine", spec := "fnExactCountLine", apart := false, narrowed := true }
def FnExactCountLineUptoSaid : Prop := fnExactCountLineUptoRow.holds Try.pinned (OpenSpec.upto fnExactCountLineSpec)

/-- 'laws.FnExactIsGainSparse', WHERE WHAT IT READS IS OF BULK AT MOST 1048576: true; the input reads as it did. -/
def fnExactIsGainSparseUptoRow : OpenClaim := { program := "ytffnfeefjdmifaa", sum := "d7db45e784e3208760f9a035c7c426ac5298872f8443650ba9f5cc19d3d57305", func := "loop.example/g02078/laws.FnExactIsGainSparse", spec := "fnExactIsGainSparse", recurses := true, apart := false, narrowed := true }
def FnExactIsGainSparseUptoSaid : Prop := fnExactIsGainSparseUptoRow.holds Try.pinned (OpenSpec.upto fnExactIsGainSparseSpec)

/-- 'laws.FnExactFormatClaim', WHERE WHAT IT READS IS OF BULK AT MOST 1048576: true; the input reads as it did. -/
def fnExactFormatClaimUptoRow : OpenClaim := { program := "ytffnfeefjdmifaa", sum := "d7db45e784e3208760f9a035c7c426ac5298872f8443650ba9f5cc19d3d57305", func := "loop.example/g02078/laws.FnExactFormatClaim", spec := "fnExactFormatClaim", apart := false, narrowed := true }
def FnExactFormatClaimUptoSaid : Prop := fnExactFormatClaimUptoRow.holds Try.pinned (OpenSpec.upto fnExactFormatClaimSpec)

/-- 'laws.FnExactGainFreedom', WHERE WHAT IT READS IS OF BULK AT MOST 1048576: true; the input reads as it did. -/
def fnExactGainFreedomUptoRow : OpenClaim := { program := "ytffnfeefjdmifaa", sum := "d7db45e784e3208760f9a035c7c426ac5298872f8443650ba9f5cc19d3d57305", func := "loop.example/g02078/laws.FnExactGainFreedom", spec := "fnExactGainFreedom", recurses := true, apart := false, narrowed := true }
def FnExactGainFreedomUptoSaid : Prop := fnExactGainFreedomUptoRow.holds Try.pinned (OpenSpec.upto fnExactGainFreedomSpec)

end Rows
end Go.Proofs.Ytffnfeefjdmifaa
