/-
  No cell of these rows narrows 'for every input' (looked for: loops, veiled, ifaces, maps, wideKeys, modest, calm, conditions, laid).
  DERIVED. THE GIVEN ROWS OF THIS SEAT. 6 by the template 'for every input the law returns true; each argument reads behind the call as it read before'; 0 by the template 'total and deterministic' (their statements: YtgddbgmnehkblabTotals.lean).
  GIVEN WITH THE SEED: the statements are not yours to turn. If you find one false, say at which input.
  Laid BY PROGRAM, IN A SANDBOX (cutbox-rows.mjs): the forced cells as the released guide's own fill.sh prints them over the translation f7f66b5e9b1240a5… (all of the seat's roots in one cut). By AI agents, Wed Nov 11 2026. No macro, syntax, notation, axiom, sorry.
-/
import Derived.Test.YtgddbgmnehkblabChecked
import GoSem.Claim
import GoSem.ClaimJoined
import GoSem.ClaimMapViews
import Derived.JoinedTies
import Derived.KernelRfl
namespace Go.Proofs.Ytgddbgmnehkblab
/- THE CELL 'sum', in the pinned program and in every row, IS THE sha256 OF THE DUMP (.gsa) THAT YtgddbgmnehkblabProg.lean LOADS. Nothing in Lean hashes anything: it is a label: what it is worth is what the hold of that sum in a sandbox is worth. -/
noncomputable def Try.pinned : Pinned := { name := "ytgddbgmnehkblab", sum := "f7f66b5e9b1240a52aa48fdcd970e8b60caf0d4df6a0bb8b2408b71570bac11f", checked := Try.checked }
namespace Rows
def none {H : Type} : Left H := { results := [], args := [] }

/-- 'laws.FnExactIsBalanced': WHATEVER THE INPUT: true; the input reads as it did. -/
def fnExactIsBalancedSpec : ChangeSpec := { name := "fnExactIsBalanced", fn := fun _ => fun
  | [d1, d2] => { results := [.lit (.bool true)], args := [d1, d2] }
  | _ => none }
def fnExactIsBalancedRow : OpenClaim := { program := "ytgddbgmnehkblab", sum := "f7f66b5e9b1240a52aa48fdcd970e8b60caf0d4df6a0bb8b2408b71570bac11f", func := "loop.example/g02078/laws.FnExactIsBalanced", spec := "fnExactIsBalanced", apart := false }
def FnExactIsBalancedSaid : Prop := fnExactIsBalancedRow.holds Try.pinned (OpenSpec.ofChange fnExactIsBalancedSpec)

/-- ITS FALSE NEIGHBOUR: 'it returns false'. Refute it at one input. -/
def fnExactIsBalancedWrong : ChangeSpec := { name := "fnExactIsBalanced", fn := fun _ => fun
  | [d1, d2] => { results := [.lit (.bool false)], args := [d1, d2] }
  | _ => none }
def FnExactIsBalancedWrongFalsely : Prop := fnExactIsBalancedRow.holds Try.pinned (OpenSpec.ofChange fnExactIsBalancedWrong)

/-- 'laws.FnExactEqualSites': WHATEVER THE INPUT: true; the input reads as it did. -/
def fnExactEqualSitesSpec : ChangeSpec := { name := "fnExactEqualSites", fn := fun _ => fun
  | [d1, d2] => { results := [.lit (.bool true)], args := [d1, d2] }
  | _ => none }
def fnExactEqualSitesRow : OpenClaim := { program := "ytgddbgmnehkblab", sum := "f7f66b5e9b1240a52aa48fdcd970e8b60caf0d4df6a0bb8b2408b71570bac11f", func := "loop.example/g02078/laws.FnExactEqualSites", spec := "fnExactEqualSites", apart := false }
def FnExactEqualSitesSaid : Prop := fnExactEqualSitesRow.holds Try.pinned (OpenSpec.ofChange fnExactEqualSitesSpec)

/-- ITS FALSE NEIGHBOUR: 'it returns false'. Refute it at one input. -/
def fnExactEqualSitesWrong : ChangeSpec := { name := "fnExactEqualSites", fn := fun _ => fun
  | [d1, d2] => { results := [.lit (.bool false)], args := [d1, d2] }
  | _ => none }
def FnExactEqualSitesWrongFalsely : Prop := fnExactEqualSitesRow.holds Try.pinned (OpenSpec.ofChange fnExactEqualSitesWrong)

/-- 'laws.FnExactIsSite': WHATEVER THE INPUT: true; the input reads as it did. -/
def fnExactIsSiteSpec : ChangeSpec := { name := "fnExactIsSite", fn := fun _ => fun
  | [d] => { results := [.lit (.bool true)], args := [d] }
  | _ => none }
def fnExactIsSiteRow : OpenClaim := { program := "ytgddbgmnehkblab", sum := "f7f66b5e9b1240a52aa48fdcd970e8b60caf0d4df6a0bb8b2408b71570bac11f", func := "loop.example/g02078/laws.FnExactIsSite", spec := "fnExactIsSite", apart := false }
def FnExactIsSiteSaid : Prop := fnExactIsSiteRow.holds Try.pinned (OpenSpec.ofChange fnExactIsSiteSpec)

/-- ITS FALSE NEIGHBOUR: 'it returns false'. Refute it at one input. -/
def fnExactIsSiteWrong : ChangeSpec := { name := "fnExactIsSite", fn := fun _ => fun
  | [d] => { results := [.lit (.bool false)], args := [d] }
  | _ => none }
def FnExactIsSiteWrongFalsely : Prop := fnExactIsSiteRow.holds Try.pinned (OpenSpec.ofChange fnExactIsSiteWrong)

/-- 'laws.FnExactEqualClaims': WHATEVER THE INPUT: true; the input reads as it did. -/
def fnExactEqualClaimsSpec : ChangeSpec := { name := "fnExactEqualClaims", fn := fun _ => fun
  | [d1, d2] => { results := [.lit (.bool true)], args := [d1, d2] }
  | _ => none }
def fnExactEqualClaimsRow : OpenClaim := { program := "ytgddbgmnehkblab", sum := "f7f66b5e9b1240a52aa48fdcd970e8b60caf0d4df6a0bb8b2408b71570bac11f", func := "loop.example/g02078/laws.FnExactEqualClaims", spec := "fnExactEqualClaims", apart := false }
def FnExactEqualClaimsSaid : Prop := fnExactEqualClaimsRow.holds Try.pinned (OpenSpec.ofChange fnExactEqualClaimsSpec)

/-- ITS FALSE NEIGHBOUR: 'it returns false'. Refute it at one input. -/
def fnExactEqualClaimsWrong : ChangeSpec := { name := "fnExactEqualClaims", fn := fun _ => fun
  | [d1, d2] => { results := [.lit (.bool false)], args := [d1, d2] }
  | _ => none }
def FnExactEqualClaimsWrongFalsely : Prop := fnExactEqualClaimsRow.holds Try.pinned (OpenSpec.ofChange fnExactEqualClaimsWrong)

/-- 'laws.FnExactNewSite': WHATEVER THE INPUT: true; the input reads as it did. -/
def fnExactNewSiteSpec : ChangeSpec := { name := "fnExactNewSite", fn := fun _ => fun
  | [d] => { results := [.lit (.bool true)], args := [d] }
  | _ => none }
def fnExactNewSiteRow : OpenClaim := { program := "ytgddbgmnehkblab", sum := "f7f66b5e9b1240a52aa48fdcd970e8b60caf0d4df6a0bb8b2408b71570bac11f", func := "loop.example/g02078/laws.FnExactNewSite", spec := "fnExactNewSite", apart := false }
def FnExactNewSiteSaid : Prop := fnExactNewSiteRow.holds Try.pinned (OpenSpec.ofChange fnExactNewSiteSpec)

/-- ITS FALSE NEIGHBOUR: 'it returns false'. Refute it at one input. -/
def fnExactNewSiteWrong : ChangeSpec := { name := "fnExactNewSite", fn := fun _ => fun
  | [d] => { results := [.lit (.bool false)], args := [d] }
  | _ => none }
def FnExactNewSiteWrongFalsely : Prop := fnExactNewSiteRow.holds Try.pinned (OpenSpec.ofChange fnExactNewSiteWrong)

/-- 'laws.FnExactBodyCount': WHATEVER THE INPUT: true; the input reads as it did. -/
def fnExactBodyCountSpec : ChangeSpec := { name := "fnExactBodyCount", fn := fun _ => fun
  | [d] => { results := [.lit (.bool true)], args := [d] }
  | _ => none }
def fnExactBodyCountRow : OpenClaim := { program := "ytgddbgmnehkblab", sum := "f7f66b5e9b1240a52aa48fdcd970e8b60caf0d4df6a0bb8b2408b71570bac11f", func := "loop.example/g02078/laws.FnExactBodyCount", spec := "fnExactBodyCount", apart := false }
def FnExactBodyCountSaid : Prop := fnExactBodyCountRow.holds Try.pinned (OpenSpec.ofChange fnExactBodyCountSpec)

/-- ITS FALSE NEIGHBOUR: 'it returns false'. Refute it at one input. -/
def fnExactBodyCountWrong : ChangeSpec := { name := "fnExactBodyCount", fn := fun _ => fun
  | [d] => { results := [.lit (.bool false)], args := [d] }
  | _ => none }
def FnExactBodyCountWrongFalsely : Prop := fnExactBodyCountRow.holds Try.pinned (OpenSpec.ofChange fnExactBodyCountWrong)

/- THE SECOND FORM. 'bulk': how many values and letters a reading holds, each counted each time it is reached (what is shared counts as often as it is met; a slice's spare places count too). A statement '..UptoSaid' is the law's where the arguments, and the package variables that the reading takes, are together of bulk at most 1048576: NARROWER than '..Said'. Prove '..Said' where nothing that the law and all that it calls make is longer than what came in: it says more and counts as full. Else prove '..UptoSaid'. A law counts once. -/
mutual
def uptoBulk {H : Type} : DataW H → Nat
  | .lit (.string bytes) => bytes.length + 1
  | .lit _ => 1
  | .nil => 1
  | .ptr d => uptoBulk d + 1
  | .slice elems spare => uptoBulkAll elems + uptoBulkAll spare + 1
  | .agg parts => uptoBulkAll parts + 1
  | .iface _ d => uptoBulk d + 1
  | .map entries => uptoBulkEntries entries + 1
  | .held _ => 1
def uptoBulkAll {H : Type} : List (DataW H) → Nat
  | [] => 0
  | d :: r => uptoBulk d + uptoBulkAll r
def uptoBulkEntries {H : Type} : List (Lit × DataW H) → Nat
  | [] => 0
  | x :: r => uptoBulkEntry x + uptoBulkEntries r
def uptoBulkEntry {H : Type} : Lit × DataW H → Nat
  | (.string bytes, d) => bytes.length + uptoBulk d + 1
  | (_, d) => uptoBulk d + 1
 end
def uptoSmall : (H : Type) → List (DataW H) → Bool := fun _ ds => decide (uptoBulkAll ds ≤ 1048576)
def OpenSpec.upto (s : _root_.Go.ChangeSpec) : _root_.Go.OpenSpec := { _root_.Go.OpenSpec.ofChange s with cond := some uptoSmall }

/-- 'laws.FnExactIsBalanced', WHERE WHAT IT READS IS OF BULK AT MOST 1048576: true; the input reads as it did. -/
def fnExactIsBalancedUptoRow : OpenClaim := { program := "ytgddbgmnehkblab", sum := "f7f66b5e9b1240a52aa48fdcd970e8b60caf0d4df6a0bb8b2408b71570bac11f", func := "loop.example/g02078/laws.FnExactIsBalanced", spec := "fnExactIsBalanced", apart := false, narrowed := true }
def FnExactIsBalancedUptoSaid : Prop := fnExactIsBalancedUptoRow.holds Try.pinned (OpenSpec.upto fnExactIsBalancedSpec)

/-- 'laws.FnExactEqualSites', WHERE WHAT IT READS IS OF BULK AT MOST 1048576: true; the input reads as it did. -/
def fnExactEqualSitesUptoRow : OpenClaim := { program := "ytgddbgmnehkblab", sum := "f7f66b5e9b1240a52aa48fdcd970e8b60caf0d4df6a0bb8b2408b71570bac11f", func := "loop.example/g02078/laws.FnExactEqualSites", spec := "fnExactEqualSites", apart := false, narrowed := true }
def FnExactEqualSitesUptoSaid : Prop := fnExactEqualSitesUptoRow.holds Try.pinned (OpenSpec.upto fnExactEqualSitesSpec)

/-- 'laws.FnExactIsSite', WHERE WHAT IT READS IS OF BULK AT MOST 1048576: true; the input reads as it did. -/
def fnExactIsSiteUptoRow : OpenClaim := { program := "ytgddbgmnehkblab", sum := "f7f66b5e9b1240a52aa48fdcd970e8b60caf0d4df6a0bb8b2408b71570bac11f", func := "loop.example/g02078/laws.FnExactIsSite", spec := "fnExactIsSite", apart := false, narrowed := true }
def FnExactIsSiteUptoSaid : Prop := fnExactIsSiteUptoRow.holds Try.pinned (OpenSpec.upto fnExactIsSiteSpec)

/-- 'laws.FnExactEqualClaims', WHERE WHAT IT READS IS OF BULK AT MOST 1048576: true; the input reads as it did. -/
def fnExactEqualClaimsUptoRow : OpenClaim := { program := "ytgddbgmnehkblab", sum := "f7f66b5e9b1240a52aa48fdcd970e8b60caf0d4df6a0bb8b2408b71570bac11f", func := "loop.example/g02078/laws.FnExactEqualClaims", spec := "fnExactEqualClaims", apart := false, narrowed := true }
def FnExactEqualClaimsUptoSaid : Prop := fnExactEqualClaimsUptoRow.holds Try.pinned (OpenSpec.upto fnExactEqualClaimsSpec)

/-- 'laws.FnExactNewSite', WHERE WHAT IT READS IS OF BULK AT MOST 1048576: true; the input reads as it did. -/
def fnExactNewSiteUptoRow : OpenClaim := { program := "ytgddbgmnehkblab", sum := "f7f66b5e9b1240a52aa48fdcd970e8b60caf0d4df6a0bb8b2408b71570bac11f", func := "loop.example/g02078/laws.FnExactNewSite", spec := "fnExactNewSite", apart := false, narrowed := true }
def FnExactNewSiteUptoSaid : Prop := fnExactNewSiteUptoRow.holds Try.pinned (OpenSpec.upto fnExactNewSiteSpec)

/-- 'laws.FnExactBodyCount', WHERE WHAT IT READS IS OF BULK AT MOST 1048576: true; the input reads as it did. -/
def fnExactBodyCountUptoRow : OpenClaim := { program := "ytgddbgmnehkblab", sum := "f7f66b5e9b1240a52aa48fdcd970e8b60caf0d4df6a0bb8b2408b71570bac11f", func := "loop.example/g02078/laws.FnExactBodyCount", spec := "fnExactBodyCount", apart := false, narrowed := true }
def FnExactBodyCountUptoSaid : Prop := fnExactBodyCountUptoRow.holds Try.pinned (OpenSpec.upto fnExactBodyCountSpec)

end Rows
end Go.Proofs.Ytgddbgmnehkblab
