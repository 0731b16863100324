/-
  No cell of these rows narrows 'for every input' (looked for: loops, veiled, ifaces, maps, wideKeys, modest, calm, conditions, laid).
  DERIVED. THE GIVEN ROWS OF THIS SEAT. 8 by the template 'for every input the law returns true; each argument reads behind the call as it read before'; 0 by the template 'total and deterministic' (their statements: YtkkjoghiigiokaaGreatTotals.lean).
  GIVEN WITH THE SEED: the statements are not yours to turn. If you find one false, say at which input.
  Laid BY PROGRAM, IN A SANDBOX (cutbox-rows.mjs): the forced cells as the released guide's own fill.sh prints them over the translation f1fbcbde78658849… (all of the seat's roots in one cut). By AI agents, Wed Nov 11 2026. No macro, syntax, notation, axiom, sorry.
-/
import Derived.Test.YtkkjoghiigiokaaGreatChecked
import GoSem.Claim
import GoSem.ClaimJoined
import GoSem.ClaimMapViews
import Derived.JoinedTies
import Derived.KernelRfl
namespace Go.Proofs.YtkkjoghiigiokaaGreat
/- THE CELL 'sum', in the pinned program and in every row, IS THE sha256 OF THE DUMP (.gsa) THAT YtkkjoghiigiokaaGreatProg.lean LOADS. Nothing in Lean hashes anything: it is a label: what it is worth is what the hold of that sum in a sandbox is worth. -/
noncomputable def Tryz.pinned : Pinned := { name := "ytkkjoghiigiokaagreat", sum := "f1fbcbde78658849f93043218b1e0c3cf2df9aa270a1935d98d287898535e68a", checked := Tryz.checked }
namespace Rows
def none {H : Type} : Left H := { results := [], args := [] }

/-- 'laws.FnExactClaimOfGraph': WHATEVER THE INPUT: true; the input reads as it did. -/
def fnExactClaimOfGraphSpec : ChangeSpec := { name := "fnExactClaimOfGraph", fn := fun _ => fun
  | [d1, d2] => { results := [.lit (.bool true)], args := [d1, d2] }
  | _ => none }
def fnExactClaimOfGraphRow : OpenClaim := { program := "ytkkjoghiigiokaagreat", sum := "f1fbcbde78658849f93043218b1e0c3cf2df9aa270a1935d98d287898535e68a", func := "loop.example/g02078/laws.FnExactClaimOfGraph", spec := "fnExactClaimOfGraph", unfollowed := true, recurses := true, apart := false }
def FnExactClaimOfGraphSaid : Prop := fnExactClaimOfGraphRow.holds Tryz.pinned (OpenSpec.ofChange fnExactClaimOfGraphSpec)

/-- ITS FALSE NEIGHBOUR: 'it returns false'. Refute it at one input. -/
def fnExactClaimOfGraphWrong : ChangeSpec := { name := "fnExactClaimOfGraph", fn := fun _ => fun
  | [d1, d2] => { results := [.lit (.bool false)], args := [d1, d2] }
  | _ => none }
def FnExactClaimOfGraphWrongFalsely : Prop := fnExactClaimOfGraphRow.holds Tryz.pinned (OpenSpec.ofChange fnExactClaimOfGraphWrong)

/-- 'laws.FnExactCheckClaim': WHATEVER THE INPUT: true; the input reads as it did. -/
def fnExactCheckClaimSpec : ChangeSpec := { name := "fnExactCheckClaim", fn := fun _ => fun
  | [d] => { results := [.lit (.bool true)], args := [d] }
  | _ => none }
def fnExactCheckClaimRow : OpenClaim := { program := "ytkkjoghiigiokaagreat", sum := "f1fbcbde78658849f93043218b1e0c3cf2df9aa270a1935d98d287898535e68a", func := "loop.example/g02078/laws.FnExactCheckClaim", spec := "fnExactCheckClaim", unfollowed := true, recurses := true, apart := false }
def FnExactCheckClaimSaid : Prop := fnExactCheckClaimRow.holds Tryz.pinned (OpenSpec.ofChange fnExactCheckClaimSpec)

/-- ITS FALSE NEIGHBOUR: 'it returns false'. Refute it at one input. -/
def fnExactCheckClaimWrong : ChangeSpec := { name := "fnExactCheckClaim", fn := fun _ => fun
  | [d] => { results := [.lit (.bool false)], args := [d] }
  | _ => none }
def FnExactCheckClaimWrongFalsely : Prop := fnExactCheckClaimRow.holds Tryz.pinned (OpenSpec.ofChange fnExactCheckClaimWrong)

/-- 'laws.FnExactSensorLine': WHATEVER THE INPUT: true; the input reads as it did. -/
def fnExactSensorLineSpec : ChangeSpec := { name := "fnExactSensorLine", fn := fun _ => fun
  | [d1, d2] => { results := [.lit (.bool true)], args := [d1, d2] }
  | _ => none }
def fnExactSensorLineRow : OpenClaim := { program := "ytkkjoghiigiokaagreat", sum := "f1fbcbde78658849f93043218b1e0c3cf2df9aa270a1935d98d287898535e68a", func := "loop.example/g02078/laws.FnExactSensorLine", spec := "fnExactSensorLine", unfollowed := true, recurses := true, apart := false }
def FnExactSensorLineSaid : Prop := fnExactSensorLineRow.holds Tryz.pinned (OpenSpec.ofChange fnExactSensorLineSpec)

/-- ITS FALSE NEIGHBOUR: 'it returns false'. Refute it at one input. -/
def fnExactSensorLineWrong : ChangeSpec := { name := "fnExactSensorLine", fn := fun _ => fun
  | [d1, d2] => { results := [.lit (.bool false)], args := [d1, d2] }
  | _ => none }
def FnExactSensorLineWrongFalsely : Prop := fnExactSensorLineRow.holds Tryz.pinned (OpenSpec.ofChange fnExactSensorLineWrong)

/-- 'laws.FnExactFrameworkLine': WHATEVER THE INPUT: true; the input reads as it did. -/
def fnExactFrameworkLineSpec : ChangeSpec := { name := "fnExactFrameworkLine", fn := fun _ => fun
  | [d] => { results := [.lit (.bool true)], args := [d] }
  | _ => none }
def fnExactFrameworkLineRow : OpenClaim := { program := "ytkkjoghiigiokaagreat", sum := "f1fbcbde78658849f93043218b1e0c3cf2df9aa270a1935d98d287898535e68a", func := "loop.example/g02078/laws.FnExactFrameworkLine", spec := "fnExactFrameworkLine", apart := false }
def FnExactFrameworkLineSaid : Prop := fnExactFrameworkLineRow.holds Tryz.pinned (OpenSpec.ofChange fnExactFrameworkLineSpec)

/-- ITS FALSE NEIGHBOUR: 'it returns false'. Refute it at one input. -/
def fnExactFrameworkLineWrong : ChangeSpec := { name := "fnExactFrameworkLine", fn := fun _ => fun
  | [d] => { results := [.lit (.bool false)], args := [d] }
  | _ => none }
def FnExactFrameworkLineWrongFalsely : Prop := fnExactFrameworkLineRow.holds Tryz.pinned (OpenSpec.ofChange fnExactFrameworkLineWrong)

/-- 'laws.FnExactPinnedLine': WHATEVER THE INPUT: true; the input reads as it did. -/
def fnExactPinnedLineSpec : ChangeSpec := { name := "fnExactPinnedLine", fn := fun _ => fun
  | [d] => { results := [.lit (.bool true)], args := [d] }
  | _ => none }
def fnExactPinnedLineRow : OpenClaim := { program := "ytkkjoghiigiokaagreat", sum := "f1fbcbde78658849f93043218b1e0c3cf2df9aa270a1935d98d287898535e68a", func := "loop.example/g02078/laws.FnExactPinnedLine", spec := "fnExactPinnedLine", unfollowed := true, recurses := true, apart := false }
def FnExactPinnedLineSaid : Prop := fnExactPinnedLineRow.holds Tryz.pinned (OpenSpec.ofChange fnExactPinnedLineSpec)

/-- ITS FALSE NEIGHBOUR: 'it returns false'. Refute it at one input. -/
def fnExactPinnedLineWrong : ChangeSpec := { name := "fnExactPinnedLine", fn := fun _ => fun
  | [d] => { results := [.lit (.bool false)], args := [d] }
  | _ => none }
def FnExactPinnedLineWrongFalsely : Prop := fnExactPinnedLineRow.holds Tryz.pinned (OpenSpec.ofChange fnExactPinnedLineWrong)

/-- 'laws.FnExactTensegrityLine': WHATEVER THE INPUT: true; the input reads as it did. -/
def fnExactTensegrityLineSpec : ChangeSpec := { name := "fnExactTensegrityLine", fn := fun _ => fun
  | [d] => { results := [.lit (.bool true)], args := [d] }
  | _ => none }
def fnExactTensegrityLineRow : OpenClaim := { program := "ytkkjoghiigiokaagreat", sum := "f1fbcbde78658849f93043218b1e0c3cf2df9aa270a1935d98d287898535e68a", func := "loop.example/g02078/laws.FnExactTensegrityLine", spec := "fnExactTensegrityLine", unfollowed := true, recurses := true, apart := false }
def FnExactTensegrityLineSaid : Prop := fnExactTensegrityLineRow.holds Tryz.pinned (OpenSpec.ofChange fnExactTensegrityLineSpec)

/-- ITS FALSE NEIGHBOUR: 'it returns false'. Refute it at one input. -/
def fnExactTensegrityLineWrong : ChangeSpec := { name := "fnExactTensegrityLine", fn := fun _ => fun
  | [d] => { results := [.lit (.bool false)], args := [d] }
  | _ => none }
def FnExactTensegrityLineWrongFalsely : Prop := fnExactTensegrityLineRow.holds Tryz.pinned (OpenSpec.ofChange fnExactTensegrityLineWrong)

/-- 'laws.FnExactLinkageLine': WHATEVER THE INPUT: true; the input reads as it did. -/
def fnExactLinkageLineSpec : ChangeSpec := { name := "fnExactLinkageLine", fn := fun _ => fun
  | [d] => { results := [.lit (.bool true)], args := [d] }
  | _ => none }
def fnExactLinkageLineRow : OpenClaim := { program := "ytkkjoghiigiokaagreat", sum := "f1fbcbde78658849f93043218b1e0c3cf2df9aa270a1935d98d287898535e68a", func := "loop.example/g02078/laws.FnExactLinkageLine", spec := "fnExactLinkageLine", unfollowed := true, recurses := true, apart := false }
def FnExactLinkageLineSaid : Prop := fnExactLinkageLineRow.holds Tryz.pinned (OpenSpec.ofChange fnExactLinkageLineSpec)

/-- ITS FALSE NEIGHBOUR: 'it returns false'. Refute it at one input. -/
def fnExactLinkageLineWrong : ChangeSpec := { name := "fnExactLinkageLine", fn := fun _ => fun
  | [d] => { results := [.lit (.bool false)], args := [d] }
  | _ => none }
def FnExactLinkageLineWrongFalsely : Prop := fnExactLinkageLineRow.holds Tryz.pinned (OpenSpec.ofChange fnExactLinkageLineWrong)

/-- 'laws.FnExactClaimOfStructure': WHATEVER THE INPUT: true; the input reads as it did. -/
def fnExactClaimOfStructureSpec : ChangeSpec := { name := "fnExactClaimOfStructure", fn := fun _ => fun
  | [d1, d2] => { results := [.lit (.bool true)], args := [d1, d2] }
  | _ => none }
def fnExactClaimOfStructureRow : OpenClaim := { program := "ytkkjoghiigiokaagreat", sum := "f1fbcbde78658849f93043218b1e0c3cf2df9aa270a1935d98d287898535e68a", func := "loop.example/g02078/laws.FnExactClaimOfStructure", spec := "fnExactClaimOfStructure", unfollowed := true, recurses := true, apart := false }
def FnExactClaimOfStructureSaid : Prop := fnExactClaimOfStructureRow.holds Tryz.pinned (OpenSpec.ofChange fnExactClaimOfStructureSpec)

/-- ITS FALSE NEIGHBOUR: 'it returns false'. Refute it at one input. -/
def fnExactClaimOfStructureWrong : ChangeSpec := { name := "fnExactClaimOfStructure", fn := fun _ => fun
  | [d1, d2] => { results := [.lit (.bool false)], args := [d1, d2] }
  | _ => none }
def FnExactClaimOfStructureWrongFalsely : Prop := fnExactClaimOfStructureRow.holds Tryz.pinned (OpenSpec.ofChange fnExactClaimOfStructureWrong)

/- THE SECOND FORM. 'bulk': how many values and letters a reading holds, each counted each time it is reached (what is shared counts as often as it is met; a slice's spare places count too). A statement '..UptoSaid' is the law's where the arguments, and the package variables that the reading takes, are together of bulk at most 1048576: NARROWER than '..Said'. Prove '..Said' where nothing that the law and all that it calls make is longer than what came in: it says more and counts as full. Else prove '..UptoSaid'. A law counts once. -/
mutual
def uptoBulk {H : Type} : DataW H → Nat
  | .lit (.string bytes) => bytes.length + 1
  | .lit _ => 1
  | .nil => 1
  | .ptr d => uptoBulk d + 1
  | .slice elems spare => uptoBulkAll elems + uptoBulkAll spare + 1
  | .agg parts => uptoBulkAll parts + 1
  | .iface _ d => uptoBulk d + 1
  | .map entries => uptoBulkEntries entries + 1
  | .held _ => 1
def uptoBulkAll {H : Type} : List (DataW H) → Nat
  | [] => 0
  | d :: r => uptoBulk d + uptoBulkAll r
def uptoBulkEntries {H : Type} : List (Lit × DataW H) → Nat
  | [] => 0
  | x :: r => uptoBulkEntry x + uptoBulkEntries r
def uptoBulkEntry {H : Type} : Lit × DataW H → Nat
  | (.string bytes, d) => bytes.length + uptoBulk d + 1
  | (_, d) => uptoBulk d + 1
 end
def uptoSmall : (H : Type) → List (DataW H) → Bool := fun _ ds => decide (uptoBulkAll ds ≤ 1048576)
def OpenSpec.upto (s : _root_.Go.ChangeSpec) : _root_.Go.OpenSpec := { _root_.Go.OpenSpec.ofChange s with cond := some uptoSmall }

/-- 'laws.FnExactClaimOfGraph', WHERE WHAT IT READS IS OF BULK AT MOST 1048576: true; the input reads as it did. -/
def fnExactClaimOfGraphUptoRow : OpenClaim := { program := "ytkkjoghiigiokaagreat", sum := "f1fbcbde78658849f93043218b1e0c3cf2df9aa270a1935d98d287898535e68a", func := "loop.example/g02078/laws.FnExactClaimOfGraph", spec := "fnExactClaimOfGraph", unfollowed := true, recurses := true, apart := false, narrowed := true }
def FnExactClaimOfGraphUptoSaid : Prop := fnExactClaimOfGraphUptoRow.holds Tryz.pinned (OpenSpec.upto fnExactClaimOfGraphSpec)

/-- 'laws.FnExactCheckClaim', WHERE WHAT IT READS IS OF BULK AT MOST 1048576: true; the input reads as it did. -/
def fnExactCheckClaimUptoRow : OpenClaim := { program := "ytkkjoghiigiokaagreat", sum := "f1fbcbde78658849f93043218b1e0c3cf2df9aa270a1935d98d287898535e68a", func := "loop.example/g02078/laws.FnExactCheckClaim", spec := "fnExactCheckClaim", unfollowed := true, recurses := true, apart := false, narrowed := true }
def FnExactCheckClaimUptoSaid : Prop := fnExactCheckClaimUptoRow.holds Tryz.pinned (OpenSpec.upto fnExactCheckClaimSpec)

/-- 'laws.FnExactSensorLine', WHERE WHAT IT READS IS OF BULK AT MOST 1048576: true; the input reads as it did. -/
def fnExactSensorLineUptoRow : OpenClaim := { program := "ytkkjoghiigiokaagreat", sum := "f1fbcbde78658849f93043218b1e0c3cf2df9aa270a1935d98d287898535e68a", func := "loop.example/g02078/laws.FnExactSensorLine", spec := "fnExactSensorLine", unfollowed := true, recurses := true, apart := false, narrowed := true }
def FnExactSensorLineUptoSaid : Prop := fnExactSensorLineUptoRow.holds Tryz.pinned (OpenSpec.upto fnExactSensorLineSpec)

/-- 'laws.FnExactFrameworkLine', WHERE WHAT IT READS IS OF BULK AT MOST 1048576: true; the input reads as it did. -/
def fnExactFrameworkLineUptoRow : OpenClaim := { program := "ytkkjoghiigiokaagreat", sum := "f1fbcbde78658849f93043218b1e0c3cf2df9aa270a1935d98d287898535e68a", func := "loop.example/g02078/laws.FnExactFrameworkLine", spec := "fnExactFrameworkLine", apart := false, narrowed := true }
def FnExactFrameworkLineUptoSaid : Prop := fnExactFrameworkLineUptoRow.holds Tryz.pinned (OpenSpec.upto fnExactFrameworkLineSpec)

/-- 'laws.FnExactPinnedLine', WHERE WHAT IT READS IS OF BULK AT MOST 1048576: true; the input reads as it did. -/
def fnExactPinnedLineUptoRow : OpenClaim := { program := "ytkkjoghiigiokaagreat", sum := "f1fbcbde78658849f93043218b1e0c3cf2df9aa270a1935d98d287898535e68a", func := "loop.example/g02078/laws.FnExactPinnedLine", spec := "fnExactPinnedLine", unfollowed := true, recurses := true, apart := false, narrowed := true }
def FnExactPinnedLineUptoSaid : Prop := fnExactPinnedLineUptoRow.holds Tryz.pinned (OpenSpec.upto fnExactPinnedLineSpec)

/-- 'laws.FnExactTensegrityLine', WHERE WHAT IT READS IS OF BULK AT MOST 1048576: true; the input reads as it did. -/
def fnExactTensegrityLineUptoRow : OpenClaim := { program := "ytkkjoghiigiokaagreat", sum := "f1fbcbde78658849f93043218b1e0c3cf2df9aa270a1935d98d287898535e68a", func := "loop.example/g02078/laws.FnExactTensegrityLine", spec := "fnExactTensegrityLine", unfollowed := true, recurses := true, apart := false, narrowed := true }
def FnExactTensegrityLineUptoSaid : Prop := fnExactTensegrityLineUptoRow.holds Tryz.pinned (OpenSpec.upto fnExactTensegrityLineSpec)

/-- 'laws.FnExactLinkageLine', WHERE WHAT IT READS IS OF BULK AT MOST 1048576: true; the input reads as it did. -/
def fnExactLinkageLineUptoRow : OpenClaim := { program := "ytkkjoghiigiokaagreat", sum := "f1fbcbde78658849f93043218b1e0c3cf2df9aa270a1935d98d287898535e68a", func := "loop.example/g02078/laws.FnExactLinkageLine", spec := "fnExactLinkageLine", unfollowed := true, recurses := true, apart := false, narrowed := true }
def FnExactLinkageLineUptoSaid : Prop := fnExactLinkageLineUptoRow.holds Tryz.pinned (OpenSpec.upto fnExactLinkageLineSpec)

/-- 'laws.FnExactClaimOfStructure', WHERE WHAT IT READS IS OF BULK AT MOST 1048576: true; the input reads as it did. -/
def fnExactClaimOfStructureUptoRow : OpenClaim := { program := "ytkkjoghiigiokaagreat", sum := "f1fbcbde78658849f93043218b1e0c3cf2df9aa270a1935d98d287898535e68a", func := "loop.example/g02078/laws.FnExactClaimOfStructure", spec := "fnExactClaimOfStructure", unfollowed := true, recurses := true, apart := false, narrowed := true }
def FnExactClaimOfStructureUptoSaid : Prop := fnExactClaimOfStructureUptoRow.holds Tryz.pinned (OpenSpec.upto fnExactClaimOfStructureSpec)

end Rows
end Go.Proofs.YtkkjoghiigiokaaGreat
