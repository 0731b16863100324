/-
  No cell of these rows narrows 'for every input' (looked for: loops, veiled, ifaces, maps, wideKeys, modest, calm, conditions, laid).
  DERIVED. THE GIVEN ROWS OF THIS SEAT. 6 by the template 'for every input the law returns true; each argument reads behind the call as it read before'; 0 by the template 'total and deterministic' (their statements: YtgddbgmnehkblaaTotals.lean).
  GIVEN WITH THE SEED: the statements are not yours to turn. If you find one false, say at which input.
  Laid BY PROGRAM, IN A SANDBOX (cutbox-rows.mjs): the forced cells as the released guide's own fill.sh prints them over the translation 847db0a46638629d… (all of the seat's roots in one cut). By AI agents, Wed Nov 11 2026. No macro, syntax, notation, axiom, sorry.
-/
import Derived.Test.YtgddbgmnehkblaaChecked
import GoSem.Claim
import GoSem.ClaimJoined
import GoSem.ClaimMapViews
import Derived.JoinedTies
import Derived.KernelRfl
namespace Go.Proofs.Ytgddbgmnehkblaa
/- THE CELL 'sum', in the pinned program and in every row, IS THE sha256 OF THE DUMP (.gsa) THAT YtgddbgmnehkblaaProg.lean LOADS. Nothing in Lean hashes anything: it is a label: what it is worth is what the hold of that sum in a sandbox is worth. -/
noncomputable def Try.pinned : Pinned := { name := "ytgddbgmnehkblaa", sum := "847db0a46638629d9dca2366ca989d43ab1ed2eae05dae6bb870b19e09acc10f", checked := Try.checked }
namespace Rows
def none {H : Type} : Left H := { results := [], args := [] }

/-- 'laws.FnExactClaimWord': WHATEVER THE INPUT: true; the input reads as it did. -/
def fnExactClaimWordSpec : ChangeSpec := { name := "fnExactClaimWord", fn := fun _ => fun
  | [d] => { results := [.lit (.bool true)], args := [d] }
  | _ => none }
def fnExactClaimWordRow : OpenClaim := { program := "ytgddbgmnehkblaa", sum := "847db0a46638629d9dca2366ca989d43ab1ed2eae05dae6bb870b19e09acc10f", func := "loop.example/g02078/laws.FnExactClaimWord", spec := "fnExactClaimWord", apart := false }
def FnExactClaimWordSaid : Prop := fnExactClaimWordRow.holds Try.pinned (OpenSpec.ofChange fnExactClaimWordSpec)

/-- ITS FALSE NEIGHBOUR: 'it returns false'. Refute it at one input. -/
def fnExactClaimWordWrong : ChangeSpec := { name := "fnExactClaimWord", fn := fun _ => fun
  | [d] => { results := [.lit (.bool false)], args := [d] }
  | _ => none }
def FnExactClaimWordWrongFalsely : Prop := fnExactClaimWordRow.holds Try.pinned (OpenSpec.ofChange fnExactClaimWordWrong)

/-- 'laws.FnExactCountKind': WHATEVER THE INPUT: true; the input reads as it did. -/
def fnExactCountKindSpec : ChangeSpec := { name := "fnExactCountKind", fn := fun _ => fun
  | [d1, d2] => { results := [.lit (.bool true)], args := [d1, d2] }
  | _ => none }
def fnExactCountKindRow : OpenClaim := { program := "ytgddbgmnehkblaa", sum := "847db0a46638629d9dca2366ca989d43ab1ed2eae05dae6bb870b19e09acc10f", func := "loop.example/g02078/laws.FnExactCountKind", spec := "fnExactCountKind", apart := false }
def FnExactCountKindSaid : Prop := fnExactCountKindRow.holds Try.pinned (OpenSpec.ofChange fnExactCountKindSpec)

/-- ITS FALSE NEIGHBOUR: 'it returns false'. Refute it at one input. -/
def fnExactCountKindWrong : ChangeSpec := { name := "fnExactCountKind", fn := fun _ => fun
  | [d1, d2] => { results := [.lit (.bool false)], args := [d1, d2] }
  | _ => none }
def FnExactCountKindWrongFalsely : Prop := fnExactCountKindRow.holds Try.pinned (OpenSpec.ofChange fnExactCountKindWrong)

/-- 'laws.FnExactIsGainGraph': WHATEVER THE INPUT: true; the input reads as it did. -/
def fnExactIsGainGraphSpec : ChangeSpec := { name := "fnExactIsGainGraph", fn := fun _ => fun
  | [d] => { results := [.lit (.bool true)], args := [d] }
  | _ => none }
def fnExactIsGainGraphRow : OpenClaim := { program := "ytgddbgmnehkblaa", sum := "847db0a46638629d9dca2366ca989d43ab1ed2eae05dae6bb870b19e09acc10f", func := "loop.example/g02078/laws.FnExactIsGainGraph", spec := "fnExactIsGainGraph", apart := false }
def FnExactIsGainGraphSaid : Prop := fnExactIsGainGraphRow.holds Try.pinned (OpenSpec.ofChange fnExactIsGainGraphSpec)

/-- ITS FALSE NEIGHBOUR: 'it returns false'. Refute it at one input. -/
def fnExactIsGainGraphWrong : ChangeSpec := { name := "fnExactIsGainGraph", fn := fun _ => fun
  | [d] => { results := [.lit (.bool false)], args := [d] }
  | _ => none }
def FnExactIsGainGraphWrongFalsely : Prop := fnExactIsGainGraphRow.holds Try.pinned (OpenSpec.ofChange fnExactIsGainGraphWrong)

/-- 'laws.FnExactEqualGains': WHATEVER THE INPUT: true; the input reads as it did. -/
def fnExactEqualGainsSpec : ChangeSpec := { name := "fnExactEqualGains", fn := fun _ => fun
  | [d1, d2] => { results := [.lit (.bool true)], args := [d1, d2] }
  | _ => none }
def fnExactEqualGainsRow : OpenClaim := { program := "ytgddbgmnehkblaa", sum := "847db0a46638629d9dca2366ca989d43ab1ed2eae05dae6bb870b19e09acc10f", func := "loop.example/g02078/laws.FnExactEqualGains", spec := "fnExactEqualGains", apart := false }
def FnExactEqualGainsSaid : Prop := fnExactEqualGainsRow.holds Try.pinned (OpenSpec.ofChange fnExactEqualGainsSpec)

/-- ITS FALSE NEIGHBOUR: 'it returns false'. Refute it at one input. -/
def fnExactEqualGainsWrong : ChangeSpec := { name := "fnExactEqualGains", fn := fun _ => fun
  | [d1, d2] => { results := [.lit (.bool false)], args := [d1, d2] }
  | _ => none }
def FnExactEqualGainsWrongFalsely : Prop := fnExactEqualGainsRow.holds Try.pinned (OpenSpec.ofChange fnExactEqualGainsWrong)

/-- 'laws.FnExactSwitchGains': WHATEVER THE INPUT: true; the input reads as it did. -/
def fnExactSwitchGainsSpec : ChangeSpec := { name := "fnExactSwitchGains", fn := fun _ => fun
  | [d1, d2, d3, d4] => { results := [.lit (.bool true)], args := [d1, d2, d3, d4] }
  | _ => none }
def fnExactSwitchGainsRow : OpenClaim := { program := "ytgddbgmnehkblaa", sum := "847db0a46638629d9dca2366ca989d43ab1ed2eae05dae6bb870b19e09acc10f", func := "loop.example/g02078/laws.FnExactSwitchGains", spec := "fnExactSwitchGains", apart := false }
def FnExactSwitchGainsSaid : Prop := fnExactSwitchGainsRow.holds Try.pinned (OpenSpec.ofChange fnExactSwitchGainsSpec)

/-- ITS FALSE NEIGHBOUR: 'it returns false'. Refute it at one input. -/
def fnExactSwitchGainsWrong : ChangeSpec := { name := "fnExactSwitchGains", fn := fun _ => fun
  | [d1, d2, d3, d4] => { results := [.lit (.bool false)], args := [d1, d2, d3, d4] }
  | _ => none }
def FnExactSwitchGainsWrongFalsely : Prop := fnExactSwitchGainsRow.holds Try.pinned (OpenSpec.ofChange fnExactSwitchGainsWrong)

/-- 'laws.FnExactLoosePoints': WHATEVER THE INPUT: true; the input reads as it did. -/
def fnExactLoosePointsSpec : ChangeSpec := { name := "fnExactLoosePoints", fn := fun _ => fun
  | [d] => { results := [.lit (.bool true)], args := [d] }
  | _ => none }
def fnExactLoosePointsRow : OpenClaim := { program := "ytgddbgmnehkblaa", sum := "847db0a46638629d9dca2366ca989d43ab1ed2eae05dae6bb870b19e09acc10f", func := "loop.example/g02078/laws.FnExactLoosePoints", spec := "fnExactLoosePoints", apart := false }
def FnExactLoosePointsSaid : Prop := fnExactLoosePointsRow.holds Try.pinned (OpenSpec.ofChange fnExactLoosePointsSpec)

/-- ITS FALSE NEIGHBOUR: 'it returns false'. Refute it at one input. -/
def fnExactLoosePointsWrong : ChangeSpec := { name := "fnExactLoosePoints", fn := fun _ => fun
  | [d] => { results := [.lit (.bool false)], args := [d] }
  | _ => none }
def FnExactLoosePointsWrongFalsely : Prop := fnExactLoosePointsRow.holds Try.pinned (OpenSpec.ofChange fnExactLoosePointsWrong)

/- THE SECOND FORM. 'bulk': how many values and letters a reading holds, each counted each time it is reached (what is shared counts as often as it is met; a slice's spare places count too). A statement '..UptoSaid' is the law's where the arguments, and the package variables that the reading takes, are together of bulk at most 1048576: NARROWER than '..Said'. Prove '..Said' where nothing that the law and all that it calls make is longer than what came in: it says more and counts as full. Else prove '..UptoSaid'. A law counts once. -/
mutual
def uptoBulk {H : Type} : DataW H → Nat
  | .lit (.string bytes) => bytes.length + 1
  | .lit _ => 1
  | .nil => 1
  | .ptr d => uptoBulk d + 1
  | .slice elems spare => uptoBulkAll elems + uptoBulkAll spare + 1
  | .agg parts => uptoBulkAll parts + 1
  | .iface _ d => uptoBulk d + 1
  | .map entries => uptoBulkEntries entries + 1
  | .held _ => 1
def uptoBulkAll {H : Type} : List (DataW H) → Nat
  | [] => 0
  | d :: r => uptoBulk d + uptoBulkAll r
def uptoBulkEntries {H : Type} : List (Lit × DataW H) → Nat
  | [] => 0
  | x :: r => uptoBulkEntry x + uptoBulkEntries r
def uptoBulkEntry {H : Type} : Lit × DataW H → Nat
  | (.string bytes, d) => bytes.length + uptoBulk d + 1
  | (_, d) => uptoBulk d + 1
 end
def uptoSmall : (H : Type) → List (DataW H) → Bool := fun _ ds => decide (uptoBulkAll ds ≤ 1048576)
def OpenSpec.upto (s : _root_.Go.ChangeSpec) : _root_.Go.OpenSpec := { _root_.Go.OpenSpec.ofChange s with cond := some uptoSmall }

/-- 'laws.FnExactClaimWord', WHERE WHAT IT READS IS OF BULK AT MOST 1048576: true; the input reads as it did. -/
def fnExactClaimWordUptoRow : OpenClaim := { program := "ytgddbgmnehkblaa", sum := "847db0a46638629d9dca2366ca989d43ab1ed2eae05dae6bb870b19e09acc10f", func := "loop.example/g02078/laws.FnExactClaimWord", spec := "fnExactClaimWord", apart := false, narrowed := true }
def FnExactClaimWordUptoSaid : Prop := fnExactClaimWordUptoRow.holds Try.pinned (OpenSpec.upto fnExactClaimWordSpec)

/-- 'laws.FnExactCountKind', WHERE WHAT IT READS IS OF BULK AT MOST 1048576: true; the input reads as it did. -/
def fnExactCountKindUptoRow : OpenClaim := { program := "ytgddbgmnehkblaa", sum := "847db0a46638629d9dca2366ca989d43ab1ed2eae05dae6bb870b19e09acc10f", func := "loop.example/g02078/laws.FnExactCountKind", spec := "fnExactCountKind", apart := false, narrowed := true }
def FnExactCountKindUptoSaid : Prop := fnExactCountKindUptoRow.holds Try.pinned (OpenSpec.upto fnExactCountKindSpec)

/-- 'laws.FnExactIsGainGraph', WHERE WHAT IT READS IS OF BULK AT MOST 1048576: true; the input reads as it did. -/
def fnExactIsGainGraphUptoRow : OpenClaim := { program := "ytgddbgmnehkblaa", sum := "847db0a46638629d9dca2366ca989d43ab1ed2eae05dae6bb870b19e09acc10f", func := "loop.example/g02078/laws.FnExactIsGainGraph", spec := "fnExactIsGainGraph", apart := false, narrowed := true }
def FnExactIsGainGraphUptoSaid : Prop := fnExactIsGainGraphUptoRow.holds Try.pinned (OpenSpec.upto fnExactIsGainGraphSpec)

/-- 'laws.FnExactEqualGains', WHERE WHAT IT READS IS OF BULK AT MOST 1048576: true; the input reads as it did. -/
def fnExactEqualGainsUptoRow : OpenClaim := { program := "ytgddbgmnehkblaa", sum := "847db0a46638629d9dca2366ca989d43ab1ed2eae05dae6bb870b19e09acc10f", func := "loop.example/g02078/laws.FnExactEqualGains", spec := "fnExactEqualGains", apart := false, narrowed := true }
def FnExactEqualGainsUptoSaid : Prop := fnExactEqualGainsUptoRow.holds Try.pinned (OpenSpec.upto fnExactEqualGainsSpec)

/-- 'laws.FnExactSwitchGains', WHERE WHAT IT READS IS OF BULK AT MOST 1048576: true; the input reads as it did. -/
def fnExactSwitchGainsUptoRow : OpenClaim := { program := "ytgddbgmnehkblaa", sum := "847db0a46638629d9dca2366ca989d43ab1ed2eae05dae6bb870b19e09acc10f", func := "loop.example/g02078/laws.FnExactSwitchGains", spec := "fnExactSwitchGains", apart := false, narrowed := true }
def FnExactSwitchGainsUptoSaid : Prop := fnExactSwitchGainsUptoRow.holds Try.pinned (OpenSpec.upto fnExactSwitchGainsSpec)

/-- 'laws.FnExactLoosePoints', WHERE WHAT IT READS IS OF BULK AT MOST 1048576: true; the input reads as it did. -/
def fnExactLoosePointsUptoRow : OpenClaim := { program := "ytgddbgmnehkblaa", sum := "847db0a46638629d9dca2366ca989d43ab1ed2eae05dae6bb870b19e09acc10f", func := "loop.example/g02078/laws.FnExactLoosePoints", spec := "fnExactLoosePoints", apart := false, narrowed := true }
def FnExactLoosePointsUptoSaid : Prop := fnExactLoosePointsUptoRow.holds Try.pinned (OpenSpec.upto fnExactLoosePointsSpec)

end Rows
end Go.Proofs.Ytgddbgmnehkblaa
