/- A bar added to a graph: both programs give the same graph. Conditions: as each theorem says. -/
import Derived.Test.YtgdbnnmogddkaaaImpA
namespace Go.Proofs.Ytgdbnnmogddkaaa.Mach
open Go Go.Sort
set_option linter.unusedVariables false
set_option linter.unusedSimpArgs false

def SAB (N : Int) (n : Nat) (h : Nat → T_Bar) : St :=
  ⟨[.p .any, .p .any, .p .any, .p .any, .p .any, .p .any, .pt 2 0 0 0, .p .any, .pt 2 1 0 0] ++ List.replicate 41 anyA, [(0, zG2), (1, ⟨true, 2, 1, fun _ => [.p (.int .i64 N), .ar 2 2 0 n]⟩), (2, brOb n h)], 3⟩

theorem bCi (v : T_Graph) :
    pathOb Try.prog Try.f78 0 [.reg [oT, oT], .reg [oT, oT, oT, oT, oT, oT, oT, oT]] [.code (bodyOf Try.f78)] (start Try.f78 [] 0 [graphA v]) [224] 1 [(0, brOb v.2.1.1 v.2.1.2)] (.agg [.p (.int .i64 v.1), .ar 2 0 0 v.2.1.1]) =
    some [((0 : Nat) < 1),
  ((0 : Nat) < 1),
  ((0 : Nat) ≤ 0),
  ((((0 + v.snd.fst.fst) * 16) : Nat) ≤ 140737488355328),
  (((0 + v.snd.fst.fst) : Nat) ≤ 9223372036854775807),
  ((0 : Nat) < 1),
  (((true) = true) → ((1 : Nat) = 1)),
  ((0 : Nat) < 1),
  (((v.fst) : Int) = (v.fst)),
  ((0 : Nat) = 0),
  (((0 + v.snd.fst.fst) : Nat) = (v.snd.fst.fst)),
  ((2 : Nat) = 2),
  (((v.snd.fst.fst) : Nat) ≤ (0 + v.snd.fst.fst)),
  (∀ i : Nat, ((((i) : Nat) < (v.snd.fst.fst)) → (All [] ∧ (([.p (.int .i64 ((v.snd.fst.snd i).fst)), .p (.int .i64 ((v.snd.fst.snd i).snd.fst))] : List AV) = [.p (.int .i64 ((v.snd.fst.snd i).fst)), .p (.int .i64 ((v.snd.fst.snd i).snd.fst))])))),
  (∀ i : Nat, ((((i) : Nat) < (v.snd.fst.fst)) → All []))] := by kernel_rfl
theorem bCs (v : T_Graph) :
    pathOb Try.prog Try.f59 0 [.reg [oT, oT], .reg [oT, oT, oT, oT, oT, oT, oT, oT]] [.code (bodyOf Try.f59)] (start Try.f59 [] 0 [graphA v]) [224] 1 [(0, brOb v.2.1.1 v.2.1.2)] (.agg [.p (.int .i64 v.1), .ar 2 0 0 v.2.1.1]) =
    some [((0 : Nat) < 1),
  ((0 : Nat) < 1),
  ((0 : Nat) ≤ 0),
  ((((0 + v.snd.fst.fst) * 16) : Nat) ≤ 140737488355328),
  (((0 + v.snd.fst.fst) : Nat) ≤ 9223372036854775807),
  ((0 : Nat) < 1),
  (((true) = true) → ((1 : Nat) = 1)),
  ((0 : Nat) < 1),
  (((v.fst) : Int) = (v.fst)),
  ((0 : Nat) = 0),
  (((0 + v.snd.fst.fst) : Nat) = (v.snd.fst.fst)),
  ((2 : Nat) = 2),
  (((v.snd.fst.fst) : Nat) ≤ (0 + v.snd.fst.fst)),
  (∀ i : Nat, ((((i) : Nat) < (v.snd.fst.fst)) → (All [] ∧ (([.p (.int .i64 ((v.snd.fst.snd i).fst)), .p (.int .i64 ((v.snd.fst.snd i).snd.fst))] : List AV) = [.p (.int .i64 ((v.snd.fst.snd i).fst)), .p (.int .i64 ((v.snd.fst.snd i).snd.fst))])))),
  (∀ i : Nat, ((((i) : Nat) < (v.snd.fst.fst)) → All []))] := by kernel_rfl
theorem bIf (v : T_Graph) (a b : Int) (b1 b2 b3 : Bool) :
    pathOb Try.prog Try.f63 0 [.reg [oT, oT, oT], .reg [oT, ⟨true, (some ⟨[], [], 1, [(0, brOb v.2.1.1 v.2.1.2)], .agg [.p (.int .i64 v.1), .ar 2 0 0 v.2.1.1]⟩), none⟩, oT, oT], .reg [oT, ⟨true, (some ⟨[], [], 1, [], .p (.bool b1)⟩), none⟩, oT, oT, oT, oT, ⟨true, (some ⟨[], [], 1, [], .p (.bool b2)⟩), none⟩, oT, oT, oT, oT, oT, ⟨true, (some ⟨[], [], 1, [], .p (.bool b3)⟩), none⟩, oT, oT, oT, oT, oT, oT, oT, oT, oT, oT, oT, oT, oT], .dec true, .reg [oT, oT, oT]] [.code (bodyOf Try.f63)] (start Try.f63 [] 0 [graphA v, .p (.int .i64 a), .p (.int .i64 b)]) [128] 1 [(0, brOb v.2.1.1 v.2.1.2)] (.tup [.agg [.p (.int .i64 v.1), .ar 2 0 0 v.2.1.1], .p (.bool false)]) =
    some [((0 : Nat) < 1),
  Con (Try.prog) 78 0 [] [.agg [.p (.int .i64 (v.fst)), .p (.seq true 2 (v.snd.fst.fst) (fun i => [.int .i64 ((v.snd.fst.snd i).fst), .int .i64 ((v.snd.fst.snd i).snd.fst)]))]] [(0, ⟨false, 2, (v.snd.fst.fst), (fun i => [.p (.int .i64 ((v.snd.fst.snd i).fst)), .p (.int .i64 ((v.snd.fst.snd i).snd.fst))])⟩)] (.agg [.p (.int .i64 (v.fst)), .ar 2 0 0 (v.snd.fst.fst)]),
  ((0 : Nat) < 1),
  (((true) = true) → ((1 : Nat) = 1)),
  ((0 : Nat) < 1),
  Con (Try.prog) 77 0 [] [.agg [.p (.int .i64 (v.fst)), .p (.seq true 2 (v.snd.fst.fst) (fun i => [.int .i64 ((v.snd.fst.snd i).fst), .int .i64 ((v.snd.fst.snd i).snd.fst)]))]] [] (.p (.bool (b1))),
  (((!!b1) = true) → ((0 : Nat) < 1)),
  (((!!b1) = true) → ((!!b1) = true)),
  (((!!b1) = true) → ((!!b1) = true)),
  (((!!b1) = true) → Con (Try.prog) 101 0 [] [.agg [.p (.int .i64 (v.fst)), .p (.seq true 2 (v.snd.fst.fst) (fun i => [.int .i64 ((v.snd.fst.snd i).fst), .int .i64 ((v.snd.fst.snd i).snd.fst)]))], .p (.int .i64 (a))] [] (.p (.bool (b2)))),
  (((!!b1) = true) → ((!!b1) = true)),
  (((!b1) = false) → ((!!b1) = true)),
  (((!bif !b1 then true else !b2) = true) → ((0 : Nat) < 1)),
  (((!bif !b1 then true else !b2) = true) → ((!bif !b1 then true else !b2) = true)),
  (((!bif !b1 then true else !b2) = true) → ((!bif !b1 then true else !b2) = true)),
  (((!bif !b1 then true else !b2) = true) → Con (Try.prog) 101 0 [] [.agg [.p (.int .i64 (v.fst)), .p (.seq true 2 (v.snd.fst.fst) (fun i => [.int .i64 ((v.snd.fst.snd i).fst), .int .i64 ((v.snd.fst.snd i).snd.fst)]))], .p (.int .i64 (b))] [] (.p (.bool (b3)))),
  (((!bif !b1 then true else !b2) = true) → ((!bif !b1 then true else !b2) = true)),
  (((bif !b1 then true else !b2) = false) → ((!bif !b1 then true else !b2) = true)),
  (((!bif bif !b1 then true else !b2 then true else !b3) = true) → ((!bif bif !b1 then true else !b2 then true else !b3) = true)),
  (((!bif bif !b1 then true else !b2 then true else !b3) = true) → ((!bif bif !b1 then true else !b2 then true else !b3) = true)),
  (((bif bif !b1 then true else !b2 then true else !b3) = false) → ((!bif bif !b1 then true else !b2 then true else !b3) = true)),
  (((!bif bif bif !b1 then true else !b2 then true else !b3 then true else a == b) = true) → ((!bif bif bif !b1 then true else !b2 then true else !b3 then true else a == b) = true)),
  (((!bif bif bif !b1 then true else !b2 then true else !b3 then true else a == b) = true) → ((0 : Nat) < 1)),
  (((!bif bif bif !b1 then true else !b2 then true else !b3 then true else a == b) = true) → ((!bif bif bif !b1 then true else !b2 then true else !b3 then true else a == b) = true)),
  (((!bif bif bif !b1 then true else !b2 then true else !b3 then true else a == b) = true) → ((!bif bif bif !b1 then true else !b2 then true else !b3 then true else a == b) = true)),
  (((bif bif bif !b1 then true else !b2 then true else !b3 then true else a == b) = false) → ((!bif bif bif !b1 then true else !b2 then true else !b3 then true else a == b) = true)),
  ((bif bif bif bif !b1 then true else !b2 then true else !b3 then true else a == b then true else (↑v.snd.fst.fst : Int) == 24) = true),
  ((0 : Nat) < 1),
  ((0 : Nat) < 1),
  (((true) = true) → ((1 : Nat) = 1)),
  ((0 : Nat) < 1),
  (((v.fst) : Int) = (v.fst)),
  ((0 : Nat) = 0),
  (((v.snd.fst.fst) : Nat) = (v.snd.fst.fst)),
  (false = false),
  ((2 : Nat) = 2),
  (((v.snd.fst.fst) : Nat) ≤ (v.snd.fst.fst)),
  (∀ i : Nat, ((((i) : Nat) < (v.snd.fst.fst)) → (All [] ∧ (([.p (.int .i64 ((v.snd.fst.snd i).fst)), .p (.int .i64 ((v.snd.fst.snd i).snd.fst))] : List AV) = [.p (.int .i64 ((v.snd.fst.snd i).fst)), .p (.int .i64 ((v.snd.fst.snd i).snd.fst))])))),
  (∀ i : Nat, ((((i) : Nat) < (v.snd.fst.fst)) → All []))] := by kernel_rfl
theorem bIa (v : T_Graph) (a b : Int) (b1 b2 b3 : Bool) (x : T_Bar) :
    pieceOb Try.prog 0 [.reg [oT, oT, oT], .reg [oT, ⟨true, (some ⟨[], [], 1, [(0, brOb v.2.1.1 v.2.1.2)], .agg [.p (.int .i64 v.1), .ar 2 0 0 v.2.1.1]⟩), none⟩, oT, oT], .reg [oT, ⟨true, (some ⟨[], [], 1, [], .p (.bool b1)⟩), none⟩, oT, oT, oT, oT, ⟨true, (some ⟨[], [], 1, [], .p (.bool b2)⟩), none⟩, oT, oT, oT, oT, oT, ⟨true, (some ⟨[], [], 1, [], .p (.bool b3)⟩), none⟩, oT, oT, oT, oT, oT, oT, oT, oT, oT, oT, oT, oT, oT], .dec false, .reg [oT, oT, oT, oT, ⟨true, (some ⟨[], [], 1, [], .agg [.p (.int .i64 x.1), .p (.int .i64 x.2.1)]⟩), none⟩, oT, oT, oT, oT], .head] [.code (bodyOf Try.f63)] (start Try.f63 [] 0 [graphA v, .p (.int .i64 a), .p (.int .i64 b)]) [32, 160, 1248] 1 (SAB v.1 (v.2.1.1 + 1) (snoc v.2.1.1 v.2.1.2 x)) =
    some ([.code (cAt (bodyOf Try.f63) [1, 1, 1, 1, 0]), .code (cAt (bodyOf Try.f63) [1, 1, 1, 1, 1])], [((0 : Nat) < 1),
  Con (Try.prog) 78 0 [] [.agg [.p (.int .i64 (v.fst)), .p (.seq true 2 (v.snd.fst.fst) (fun i => [.int .i64 ((v.snd.fst.snd i).fst), .int .i64 ((v.snd.fst.snd i).snd.fst)]))]] [(0, ⟨false, 2, (v.snd.fst.fst), (fun i => [.p (.int .i64 ((v.snd.fst.snd i).fst)), .p (.int .i64 ((v.snd.fst.snd i).snd.fst))])⟩)] (.agg [.p (.int .i64 (v.fst)), .ar 2 0 0 (v.snd.fst.fst)]),
  ((0 : Nat) < 1),
  (((true) = true) → ((1 : Nat) = 1)),
  ((0 : Nat) < 1),
  Con (Try.prog) 77 0 [] [.agg [.p (.int .i64 (v.fst)), .p (.seq true 2 (v.snd.fst.fst) (fun i => [.int .i64 ((v.snd.fst.snd i).fst), .int .i64 ((v.snd.fst.snd i).snd.fst)]))]] [] (.p (.bool (b1))),
  (((!!b1) = true) → ((0 : Nat) < 1)),
  (((!!b1) = true) → ((!!b1) = true)),
  (((!!b1) = true) → ((!!b1) = true)),
  (((!!b1) = true) → Con (Try.prog) 101 0 [] [.agg [.p (.int .i64 (v.fst)), .p (.seq true 2 (v.snd.fst.fst) (fun i => [.int .i64 ((v.snd.fst.snd i).fst), .int .i64 ((v.snd.fst.snd i).snd.fst)]))], .p (.int .i64 (a))] [] (.p (.bool (b2)))),
  (((!!b1) = true) → ((!!b1) = true)),
  (((!b1) = false) → ((!!b1) = true)),
  (((!bif !b1 then true else !b2) = true) → ((0 : Nat) < 1)),
  (((!bif !b1 then true else !b2) = true) → ((!bif !b1 then true else !b2) = true)),
  (((!bif !b1 then true else !b2) = true) → ((!bif !b1 then true else !b2) = true)),
  (((!bif !b1 then true else !b2) = true) → Con (Try.prog) 101 0 [] [.agg [.p (.int .i64 (v.fst)), .p (.seq true 2 (v.snd.fst.fst) (fun i => [.int .i64 ((v.snd.fst.snd i).fst), .int .i64 ((v.snd.fst.snd i).snd.fst)]))], .p (.int .i64 (b))] [] (.p (.bool (b3)))),
  (((!bif !b1 then true else !b2) = true) → ((!bif !b1 then true else !b2) = true)),
  (((bif !b1 then true else !b2) = false) → ((!bif !b1 then true else !b2) = true)),
  (((!bif bif !b1 then true else !b2 then true else !b3) = true) → ((!bif bif !b1 then true else !b2 then true else !b3) = true)),
  (((!bif bif !b1 then true else !b2 then true else !b3) = true) → ((!bif bif !b1 then true else !b2 then true else !b3) = true)),
  (((bif bif !b1 then true else !b2 then true else !b3) = false) → ((!bif bif !b1 then true else !b2 then true else !b3) = true)),
  (((!bif bif bif !b1 then true else !b2 then true else !b3 then true else a == b) = true) → ((!bif bif bif !b1 then true else !b2 then true else !b3 then true else a == b) = true)),
  (((!bif bif bif !b1 then true else !b2 then true else !b3 then true else a == b) = true) → ((0 : Nat) < 1)),
  (((!bif bif bif !b1 then true else !b2 then true else !b3 then true else a == b) = true) → ((!bif bif bif !b1 then true else !b2 then true else !b3 then true else a == b) = true)),
  (((!bif bif bif !b1 then true else !b2 then true else !b3 then true else a == b) = true) → ((!bif bif bif !b1 then true else !b2 then true else !b3 then true else a == b) = true)),
  (((bif bif bif !b1 then true else !b2 then true else !b3 then true else a == b) = false) → ((!bif bif bif !b1 then true else !b2 then true else !b3 then true else a == b) = true)),
  ((bif bif bif bif !b1 then true else !b2 then true else !b3 then true else a == b then true else (↑v.snd.fst.fst : Int) == 24) = false),
  ((0 : Nat) < 1),
  Con (Try.prog) 106 0 [] [.p (.int .i64 (a)), .p (.int .i64 (b))] [] (.agg [.p (.int .i64 (x.fst)), .p (.int .i64 (x.snd.fst))]),
  ((1 : Nat) ≤ 1),
  (((v.snd.fst.fst) : Nat) ≤ (v.snd.fst.fst)),
  ((((v.snd.fst.fst + 1) * 16) : Nat) ≤ 140737488355328),
  (((v.snd.fst.fst + 1) : Nat) ≤ 9223372036854775807),
  ((0 : Nat) < 1),
  (((true) = true) → ((1 : Nat) = 1)),
  ((0 : Nat) = 0),
  ((0 : Nat) = 0),
  ((((List.map (fun v => AV.p (absV v)) [Value.int IntKind.i64 0, Value.slice none 0 0]).length) : Nat) = 2),
  ((1 : Nat) ≤ 1),
  ((1 : Nat) ≤ 1),
  ((0 : Int) = 0),
  ((((List.map (fun v => AV.p (absV v)) [Value.int IntKind.i64 0, Value.slice none 0 0]).length) : Nat) = 2),
  ((1 : Nat) ≤ 1),
  ((1 : Nat) ≤ 1),
  (((v.fst) : Int) = (v.fst)),
  ((0 : Nat) = 0),
  (((v.snd.fst.fst + 1) : Nat) = (v.snd.fst.fst + 1)),
  ((2 : Nat) = 2),
  (((v.snd.fst.fst + 1) : Nat) ≤ (v.snd.fst.fst + 1)),
  (∀ i : Nat, ((((i) : Nat) < (v.snd.fst.fst + 1)) → (All (cvtL false [(160, ⟨true, 2, 1, (fun i_1 => [.p (.int .i64 (v.fst)), .ar 2 1248 0 (v.snd.fst.fst + 1)])⟩), (1248, ⟨false, 2, (v.snd.fst.fst + 1), (fun i_1 => (if (i_1 < v.snd.fst.fst) then [.p (.int .i64 ((v.snd.fst.snd i_1).fst)), .p (.int .i64 ((v.snd.fst.snd i_1).snd.fst))] else [.p (.int .i64 (x.fst)), .p (.int .i64 (x.snd.fst))]))⟩), (1216, ⟨false, 2, 1, (fun i_1 => [.p (.int .i64 (x.fst)), .p (.int .i64 (x.snd.fst))])⟩), (32, ⟨true, 2, 1, (fun i_1 => [.p (.int .i64 0), .p (.nil)])⟩), (0, ⟨true, 2, 1, (fun i_1 => [.p (.int .i64 (v.fst)), .p (.seq true 2 (v.snd.fst.fst) (fun i_2 => [.int .i64 ((v.snd.fst.snd i_2).fst), .int .i64 ((v.snd.fst.snd i_2).snd.fst)]))])⟩)] [32, 160, 1248] 1 (if (i < v.snd.fst.fst) then [.p (.int .i64 ((v.snd.fst.snd i).fst)), .p (.int .i64 ((v.snd.fst.snd i).snd.fst))] else [.p (.int .i64 (x.fst)), .p (.int .i64 (x.snd.fst))])).2 ∧ (((cvtL false [(160, ⟨true, 2, 1, (fun i_1 => [.p (.int .i64 (v.fst)), .ar 2 1248 0 (v.snd.fst.fst + 1)])⟩), (1248, ⟨false, 2, (v.snd.fst.fst + 1), (fun i_1 => (if (i_1 < v.snd.fst.fst) then [.p (.int .i64 ((v.snd.fst.snd i_1).fst)), .p (.int .i64 ((v.snd.fst.snd i_1).snd.fst))] else [.p (.int .i64 (x.fst)), .p (.int .i64 (x.snd.fst))]))⟩), (1216, ⟨false, 2, 1, (fun i_1 => [.p (.int .i64 (x.fst)), .p (.int .i64 (x.snd.fst))])⟩), (32, ⟨true, 2, 1, (fun i_1 => [.p (.int .i64 0), .p (.nil)])⟩), (0, ⟨true, 2, 1, (fun i_1 => [.p (.int .i64 (v.fst)), .p (.seq true 2 (v.snd.fst.fst) (fun i_2 => [.int .i64 ((v.snd.fst.snd i_2).fst), .int .i64 ((v.snd.fst.snd i_2).snd.fst)]))])⟩)] [32, 160, 1248] 1 (if (i < v.snd.fst.fst) then [.p (.int .i64 ((v.snd.fst.snd i).fst)), .p (.int .i64 ((v.snd.fst.snd i).snd.fst))] else [.p (.int .i64 (x.fst)), .p (.int .i64 (x.snd.fst))])).1 : List AV) = [.p (.int .i64 (if i < v.snd.fst.fst then (v.snd.fst.snd i).fst else x.fst)), .p (.int .i64 (if i < v.snd.fst.fst then (v.snd.fst.snd i).snd.fst else x.snd.fst))]))))]) := by kernel_rfl
theorem bIb (N : Int) (n : Nat) (h r : Nat → T_Bar) :
    pathOb Try.prog Try.f63 0 [.reg [oT, oT, ⟨true, (some ⟨[2], [], 1, [(0, brOb n r)], .tup []⟩), none⟩], .reg [oT, oT, oT]] [.code (cAt (bodyOf Try.f63) [1, 1, 1, 1, 0]), .code (cAt (bodyOf Try.f63) [1, 1, 1, 1, 1])] (SAB N n h) [2] 1 [(0, brOb n r)] (.tup [.agg [.p (.int .i64 N), .ar 2 0 0 n], .p (.bool true)]) =
    some [((0 : Nat) < 1),
  (∀ i : Nat, ((((i) : Nat) < (n)) → All [])),
  Con (Try.prog) 109 1 [(0, ⟨false, 2, (n), (fun i => [.p (.int .i64 ((h i).fst)), .p (.int .i64 ((h i).snd.fst))])⟩)] [.ar 2 0 0 (n), .p (.fn 82)] [(0, ⟨false, 2, (n), (fun i => [.p (.int .i64 ((r i).fst)), .p (.int .i64 ((r i).snd.fst))])⟩)] (.tup []),
  ((0 : Nat) < 1),
  ((0 : Nat) < 1),
  (((true) = true) → ((1 : Nat) = 1)),
  ((0 : Nat) < 1),
  (((N) : Int) = (N)),
  ((0 : Nat) = 0),
  (((n) : Nat) = (n)),
  (true = true),
  ((2 : Nat) = 2),
  (((n) : Nat) ≤ (n)),
  (∀ i : Nat, ((((i) : Nat) < (n)) → (All [] ∧ (([.p (.int .i64 ((r i).fst)), .p (.int .i64 ((r i).snd.fst))] : List AV) = [.p (.int .i64 ((r i).fst)), .p (.int .i64 ((r i).snd.fst))])))),
  (∀ i : Nat, ((((i) : Nat) < (n)) → All []))] := by kernel_rfl
theorem bSf (v : T_Graph) (a b : Int) (b1 : Bool) :
    pathOb Try.prog Try.f60 0 [.reg [oT, oT, oT], .reg [oT, ⟨true, (some ⟨[], [], 1, [], .p (.bool b1)⟩), none⟩, oT, oT, oT, oT, oT, oT, oT, oT, oT, oT, oT, oT, oT, oT, oT, oT, oT, oT, oT, oT, oT, oT, oT, oT, oT, oT, oT, oT, oT, oT, oT, oT], .dec true, .reg [oT, ⟨true, (some ⟨[], [], 1, [(0, brOb v.2.1.1 v.2.1.2)], .agg [.p (.int .i64 v.1), .ar 2 0 0 v.2.1.1]⟩), none⟩, oT, oT]] [.code (bodyOf Try.f60)] (start Try.f60 [] 0 [graphA v, .p (.int .i64 a), .p (.int .i64 b)]) [1216] 1 [(0, brOb v.2.1.1 v.2.1.2)] (.tup [.agg [.p (.int .i64 v.1), .ar 2 0 0 v.2.1.1], .p (.bool false)]) =
    some [((0 : Nat) < 1),
  Con (Try.prog) 73 0 [] [.agg [.p (.int .i64 (v.fst)), .p (.seq true 2 (v.snd.fst.fst) (fun i => [.int .i64 ((v.snd.fst.snd i).fst), .int .i64 ((v.snd.fst.snd i).snd.fst)]))]] [] (.p (.bool (b1))),
  (((!!b1) = true) → ((!!b1) = true)),
  (((!b1) = false) → ((!!b1) = true)),
  (((!bif !b1 then true else decide (a < 0)) = true) → ((!bif !b1 then true else decide (a < 0)) = true)),
  (((bif !b1 then true else decide (a < 0)) = false) → ((!bif !b1 then true else decide (a < 0)) = true)),
  (((!bif bif !b1 then true else decide (a < 0) then true else decide (b < 0)) = true) → ((!bif bif !b1 then true else decide (a < 0) then true else decide (b < 0)) = true)),
  (((!bif bif !b1 then true else decide (a < 0) then true else decide (b < 0)) = true) → ((0 : Nat) < 1)),
  (((!bif bif !b1 then true else decide (a < 0) then true else decide (b < 0)) = true) → ((!bif bif !b1 then true else decide (a < 0) then true else decide (b < 0)) = true)),
  (((!bif bif !b1 then true else decide (a < 0) then true else decide (b < 0)) = true) → ((!bif bif !b1 then true else decide (a < 0) then true else decide (b < 0)) = true)),
  (((bif bif !b1 then true else decide (a < 0) then true else decide (b < 0)) = false) → ((!bif bif !b1 then true else decide (a < 0) then true else decide (b < 0)) = true)),
  (((!bif bif bif !b1 then true else decide (a < 0) then true else decide (b < 0) then true else decide (a ≥ v.fst)) = true) → ((!bif bif bif !b1 then true else decide (a < 0) then true else decide (b < 0) then true else decide (a ≥ v.fst)) = true)),
  (((!bif bif bif !b1 then true else decide (a < 0) then true else decide (b < 0) then true else decide (a ≥ v.fst)) = true) → ((0 : Nat) < 1)),
  (((!bif bif bif !b1 then true else decide (a < 0) then true else decide (b < 0) then true else decide (a ≥ v.fst)) = true) → ((!bif bif bif !b1 then true else decide (a < 0) then true else decide (b < 0) then true else decide (a ≥ v.fst)) = true)),
  (((!bif bif bif !b1 then true else decide (a < 0) then true else decide (b < 0) then true else decide (a ≥ v.fst)) = true) → ((!bif bif bif !b1 then true else decide (a < 0) then true else decide (b < 0) then true else decide (a ≥ v.fst)) = true)),
  (((bif bif bif !b1 then true else decide (a < 0) then true else decide (b < 0) then true else decide (a ≥ v.fst)) = false) → ((!bif bif bif !b1 then true else decide (a < 0) then true else decide (b < 0) then true else decide (a ≥ v.fst)) = true)),
  (((!bif bif bif bif !b1 then true else decide (a < 0) then true else decide (b < 0) then true else decide (a ≥ v.fst) then true else decide (b ≥ v.fst)) = true) → ((!bif bif bif bif !b1 then true else decide (a < 0) then true else decide (b < 0) then true else decide (a ≥ v.fst) then true else decide (b ≥ v.fst)) = true)),
  (((!bif bif bif bif !b1 then true else decide (a < 0) then true else decide (b < 0) then true else decide (a ≥ v.fst) then true else decide (b ≥ v.fst)) = true) → ((!bif bif bif bif !b1 then true else decide (a < 0) then true else decide (b < 0) then true else decide (a ≥ v.fst) then true else decide (b ≥ v.fst)) = true)),
  (((bif bif bif bif !b1 then true else decide (a < 0) then true else decide (b < 0) then true else decide (a ≥ v.fst) then true else decide (b ≥ v.fst)) = false) → ((!bif bif bif bif !b1 then true else decide (a < 0) then true else decide (b < 0) then true else decide (a ≥ v.fst) then true else decide (b ≥ v.fst)) = true)),
  (((!bif bif bif bif bif !b1 then true else decide (a < 0) then true else decide (b < 0) then true else decide (a ≥ v.fst) then true else decide (b ≥ v.fst) then true else a == b) = true) → ((!bif bif bif bif bif !b1 then true else decide (a < 0) then true else decide (b < 0) then true else decide (a ≥ v.fst) then true else decide (b ≥ v.fst) then true else a == b) = true)),
  (((!bif bif bif bif bif !b1 then true else decide (a < 0) then true else decide (b < 0) then true else decide (a ≥ v.fst) then true else decide (b ≥ v.fst) then true else a == b) = true) → ((0 : Nat) < 1)),
  (((!bif bif bif bif bif !b1 then true else decide (a < 0) then true else decide (b < 0) then true else decide (a ≥ v.fst) then true else decide (b ≥ v.fst) then true else a == b) = true) → ((!bif bif bif bif bif !b1 then true else decide (a < 0) then true else decide (b < 0) then true else decide (a ≥ v.fst) then true else decide (b ≥ v.fst) then true else a == b) = true)),
  (((!bif bif bif bif bif !b1 then true else decide (a < 0) then true else decide (b < 0) then true else decide (a ≥ v.fst) then true else decide (b ≥ v.fst) then true else a == b) = true) → ((!bif bif bif bif bif !b1 then true else decide (a < 0) then true else decide (b < 0) then true else decide (a ≥ v.fst) then true else decide (b ≥ v.fst) then true else a == b) = true)),
  (((bif bif bif bif bif !b1 then true else decide (a < 0) then true else decide (b < 0) then true else decide (a ≥ v.fst) then true else decide (b ≥ v.fst) then true else a == b) = false) → ((!bif bif bif bif bif !b1 then true else decide (a < 0) then true else decide (b < 0) then true else decide (a ≥ v.fst) then true else decide (b ≥ v.fst) then true else a == b) = true)),
  ((bif bif bif bif bif bif !b1 then true else decide (a < 0) then true else decide (b < 0) then true else decide (a ≥ v.fst) then true else decide (b ≥ v.fst) then true else a == b then true else decide ((↑v.snd.fst.fst : Int) ≥ 24)) = true),
  ((0 : Nat) < 1),
  Con (Try.prog) 59 0 [] [.agg [.p (.int .i64 (v.fst)), .p (.seq true 2 (v.snd.fst.fst) (fun i => [.int .i64 ((v.snd.fst.snd i).fst), .int .i64 ((v.snd.fst.snd i).snd.fst)]))]] [(0, ⟨false, 2, (v.snd.fst.fst), (fun i => [.p (.int .i64 ((v.snd.fst.snd i).fst)), .p (.int .i64 ((v.snd.fst.snd i).snd.fst))])⟩)] (.agg [.p (.int .i64 (v.fst)), .ar 2 0 0 (v.snd.fst.fst)]),
  ((0 : Nat) < 1),
  (((true) = true) → ((1 : Nat) = 1)),
  ((0 : Nat) < 1),
  (((v.fst) : Int) = (v.fst)),
  ((0 : Nat) = 0),
  (((v.snd.fst.fst) : Nat) = (v.snd.fst.fst)),
  (false = false),
  ((2 : Nat) = 2),
  (((v.snd.fst.fst) : Nat) ≤ (v.snd.fst.fst)),
  (∀ i : Nat, ((((i) : Nat) < (v.snd.fst.fst)) → (All [] ∧ (([.p (.int .i64 ((v.snd.fst.snd i).fst)), .p (.int .i64 ((v.snd.fst.snd i).snd.fst))] : List AV) = [.p (.int .i64 ((v.snd.fst.snd i).fst)), .p (.int .i64 ((v.snd.fst.snd i).snd.fst))])))),
  (∀ i : Nat, ((((i) : Nat) < (v.snd.fst.fst)) → All []))] := by kernel_rfl
theorem bSt (v : T_Graph) (a b : Int) (b1 : Bool) (m : Nat) (r r' : Nat → T_Bar) :
    pathOb Try.prog Try.f60 0 [.reg [oT, oT, oT], .reg [oT, ⟨true, (some ⟨[], [], 1, [], .p (.bool b1)⟩), none⟩, oT, oT, oT, oT, oT, oT, oT, oT, oT, oT, oT, oT, oT, oT, oT, oT, oT, oT, oT, oT, oT, oT, oT, oT, oT, oT, oT, oT, oT, oT, oT, oT], .dec false, .reg [oT, oT, oT, oT, oT, oT, oT, oT, ⟨true, (some ⟨[], [], 1, [(0, brOb m r)], .agg [.p (.int .i64 v.1), .ar 2 0 0 m]⟩), none⟩, oT, oT]] [.code (bodyOf Try.f60)] (start Try.f60 [] 0 [graphA v, .p (.int .i64 a), .p (.int .i64 b)]) [1440] 1 [(0, brOb m r')] (.tup [.agg [.p (.int .i64 v.1), .ar 2 0 0 m], .p (.bool true)]) =
    some [((0 : Nat) < 1),
  Con (Try.prog) 73 0 [] [.agg [.p (.int .i64 (v.fst)), .p (.seq true 2 (v.snd.fst.fst) (fun i => [.int .i64 ((v.snd.fst.snd i).fst), .int .i64 ((v.snd.fst.snd i).snd.fst)]))]] [] (.p (.bool (b1))),
  (((!!b1) = true) → ((!!b1) = true)),
  (((!b1) = false) → ((!!b1) = true)),
  (((!bif !b1 then true else decide (a < 0)) = true) → ((!bif !b1 then true else decide (a < 0)) = true)),
  (((bif !b1 then true else decide (a < 0)) = false) → ((!bif !b1 then true else decide (a < 0)) = true)),
  (((!bif bif !b1 then true else decide (a < 0) then true else decide (b < 0)) = true) → ((!bif bif !b1 then true else decide (a < 0) then true else decide (b < 0)) = true)),
  (((!bif bif !b1 then true else decide (a < 0) then true else decide (b < 0)) = true) → ((0 : Nat) < 1)),
  (((!bif bif !b1 then true else decide (a < 0) then true else decide (b < 0)) = true) → ((!bif bif !b1 then true else decide (a < 0) then true else decide (b < 0)) = true)),
  (((!bif bif !b1 then true else decide (a < 0) then true else decide (b < 0)) = true) → ((!bif bif !b1 then true else decide (a < 0) then true else decide (b < 0)) = true)),
  (((bif bif !b1 then true else decide (a < 0) then true else decide (b < 0)) = false) → ((!bif bif !b1 then true else decide (a < 0) then true else decide (b < 0)) = true)),
  (((!bif bif bif !b1 then true else decide (a < 0) then true else decide (b < 0) then true else decide (a ≥ v.fst)) = true) → ((!bif bif bif !b1 then true else decide (a < 0) then true else decide (b < 0) then true else decide (a ≥ v.fst)) = true)),
  (((!bif bif bif !b1 then true else decide (a < 0) then true else decide (b < 0) then true else decide (a ≥ v.fst)) = true) → ((0 : Nat) < 1)),
  (((!bif bif bif !b1 then true else decide (a < 0) then true else decide (b < 0) then true else decide (a ≥ v.fst)) = true) → ((!bif bif bif !b1 then true else decide (a < 0) then true else decide (b < 0) then true else decide (a ≥ v.fst)) = true)),
  (((!bif bif bif !b1 then true else decide (a < 0) then true else decide (b < 0) then true else decide (a ≥ v.fst)) = true) → ((!bif bif bif !b1 then true else decide (a < 0) then true else decide (b < 0) then true else decide (a ≥ v.fst)) = true)),
  (((bif bif bif !b1 then true else decide (a < 0) then true else decide (b < 0) then true else decide (a ≥ v.fst)) = false) → ((!bif bif bif !b1 then true else decide (a < 0) then true else decide (b < 0) then true else decide (a ≥ v.fst)) = true)),
  (((!bif bif bif bif !b1 then true else decide (a < 0) then true else decide (b < 0) then true else decide (a ≥ v.fst) then true else decide (b ≥ v.fst)) = true) → ((!bif bif bif bif !b1 then true else decide (a < 0) then true else decide (b < 0) then true else decide (a ≥ v.fst) then true else decide (b ≥ v.fst)) = true)),
  (((!bif bif bif bif !b1 then true else decide (a < 0) then true else decide (b < 0) then true else decide (a ≥ v.fst) then true else decide (b ≥ v.fst)) = true) → ((!bif bif bif bif !b1 then true else decide (a < 0) then true else decide (b < 0) then true else decide (a ≥ v.fst) then true else decide (b ≥ v.fst)) = true)),
  (((bif bif bif bif !b1 then true else decide (a < 0) then true else decide (b < 0) then true else decide (a ≥ v.fst) then true else decide (b ≥ v.fst)) = false) → ((!bif bif bif bif !b1 then true else decide (a < 0) then true else decide (b < 0) then true else decide (a ≥ v.fst) then true else decide (b ≥ v.fst)) = true)),
  (((!bif bif bif bif bif !b1 then true else decide (a < 0) then true else decide (b < 0) then true else decide (a ≥ v.fst) then true else decide (b ≥ v.fst) then true else a == b) = true) → ((!bif bif bif bif bif !b1 then true else decide (a < 0) then true else decide (b < 0) then true else decide (a ≥ v.fst) then true else decide (b ≥ v.fst) then true else a == b) = true)),
  (((!bif bif bif bif bif !b1 then true else decide (a < 0) then true else decide (b < 0) then true else decide (a ≥ v.fst) then true else decide (b ≥ v.fst) then true else a == b) = true) → ((0 : Nat) < 1)),
  (((!bif bif bif bif bif !b1 then true else decide (a < 0) then true else decide (b < 0) then true else decide (a ≥ v.fst) then true else decide (b ≥ v.fst) then true else a == b) = true) → ((!bif bif bif bif bif !b1 then true else decide (a < 0) then true else decide (b < 0) then true else decide (a ≥ v.fst) then true else decide (b ≥ v.fst) then true else a == b) = true)),
  (((!bif bif bif bif bif !b1 then true else decide (a < 0) then true else decide (b < 0) then true else decide (a ≥ v.fst) then true else decide (b ≥ v.fst) then true else a == b) = true) → ((!bif bif bif bif bif !b1 then true else decide (a < 0) then true else decide (b < 0) then true else decide (a ≥ v.fst) then true else decide (b ≥ v.fst) then true else a == b) = true)),
  (((bif bif bif bif bif !b1 then true else decide (a < 0) then true else decide (b < 0) then true else decide (a ≥ v.fst) then true else decide (b ≥ v.fst) then true else a == b) = false) → ((!bif bif bif bif bif !b1 then true else decide (a < 0) then true else decide (b < 0) then true else decide (a ≥ v.fst) then true else decide (b ≥ v.fst) then true else a == b) = true)),
  ((bif bif bif bif bif bif !b1 then true else decide (a < 0) then true else decide (b < 0) then true else decide (a ≥ v.fst) then true else decide (b ≥ v.fst) then true else a == b then true else decide ((↑v.snd.fst.fst : Int) ≥ 24)) = false),
  ((0 : Nat) < 1),
  Con (Try.prog) 108 0 [] [.agg [.p (.int .i64 (v.fst)), .p (.seq true 2 (v.snd.fst.fst) (fun i => [.int .i64 ((v.snd.fst.snd i).fst), .int .i64 ((v.snd.fst.snd i).snd.fst)]))], .agg [.p (.int .i64 (if false = true then if b > a then b else a else if b < a then b else a)), .p (.int .i64 (if true = true then if b > a then b else a else if b < a then b else a))]] [(0, ⟨false, 2, (m), (fun i => [.p (.int .i64 ((r i).fst)), .p (.int .i64 ((r i).snd.fst))])⟩)] (.agg [.p (.int .i64 (v.fst)), .ar 2 0 0 (m)]),
  ((0 : Nat) < 1),
  (((true) = true) → ((1 : Nat) = 1)),
  ((0 : Nat) < 1),
  (((v.fst) : Int) = (v.fst)),
  ((0 : Nat) = 0),
  (((m) : Nat) = (m)),
  (true = true),
  ((2 : Nat) = 2),
  (((m) : Nat) ≤ (m)),
  (∀ i : Nat, ((((i) : Nat) < (m)) → (All [] ∧ (([.p (.int .i64 ((r i).fst)), .p (.int .i64 ((r i).snd.fst))] : List AV) = [.p (.int .i64 ((r' i).fst)), .p (.int .i64 ((r' i).snd.fst))])))),
  (∀ i : Nat, ((((i) : Nat) < (m)) → All []))] := by kernel_rfl

theorem con_copyGraph (v : T_Graph) (hn : v.2.1.1 ≤ 1048576) : Con Try.prog 78 0 [] [graphA v] [(0, brOb v.2.1.1 v.2.1.2)] (.agg [.p (.int .i64 v.1), .ar 2 0 0 v.2.1.1]) := by
  refine con_start Try.func78 rfl (by kernel_rfl) rfl (fun c hc => ?_)
  refine path_ok mixed Try.func78 hc (bCi v) ?_
  simp only [All]
  repeat' (first | exact trivial | with_reducible apply And.intro)
  all_goals (first | omega | rfl | (intros; first | assumption | exact True.intro | rfl | exact absurd (show false = true by assumption) Bool.false_ne_true | ((repeat' (first | assumption | apply anda | apply notf)); done)) | (intro j hj; simp [All]; done) | (simp; try omega))

theorem con_l2Copy (v : T_Graph) (hn : v.2.1.1 ≤ 1048576) : Con Try.prog 59 0 [] [graphA v] [(0, brOb v.2.1.1 v.2.1.2)] (.agg [.p (.int .i64 v.1), .ar 2 0 0 v.2.1.1]) := by
  refine con_start Try.func59 rfl (by kernel_rfl) rfl (fun c hc => ?_)
  refine path_ok mixed Try.func59 hc (bCs v) ?_
  simp only [All]
  repeat' (first | exact trivial | with_reducible apply And.intro)
  all_goals (first | omega | rfl | (intros; first | assumption | exact True.intro | rfl | exact absurd (show false = true by assumption) Bool.false_ne_true | ((repeat' (first | assumption | apply anda | apply notf)); done)) | (intro j hj; simp [All]; done) | (simp; try omega))

/-- Whether a bar can be added, and the graph with it. -/
def abB (v : T_Graph) (a b : Int) : Bool := isGraphF v && (inB a 0 (v.1 - 1) && (inB b 0 (v.1 - 1) && (!(a == b) && !((v.2.1.1 : Int) == 24))))
def abG (v : T_Graph) (a b : Int) : T_Graph := if abB v a b = true then (v.1, (v.2.1.1 + 1, srtB (v.2.1.1 + 1) (snoc v.2.1.1 v.2.1.2 (brX a b))), ()) else v

theorem abB_in {v : T_Graph} {a b : Int} (h : abB v a b = true) : isGraphF v = true ∧ (0 ≤ a ∧ a < v.1) ∧ (0 ≤ b ∧ b < v.1) ∧ a ≠ b ∧ v.2.1.1 < 24 := by
  simp only [abB, inB, Bool.and_eq_true, decide_eq_true_eq, Bool.not_eq_true', beq_eq_false_iff_ne, ne_eq] at h
  obtain ⟨hg, ⟨h1, h2⟩, ⟨h3, h4⟩, h5, h6⟩ := h
  have := graph_inR hg
  exact ⟨hg, ⟨h1, by omega⟩, ⟨h3, by omega⟩, h5, by omega⟩

theorem abG_n (v : T_Graph) (a b : Int) : (abG v a b).2.1.1 ≤ v.2.1.1 ∨ (abG v a b).2.1.1 ≤ 24 := by
  unfold abG
  split
  · rename_i h
    have := abB_in h
    right; show v.2.1.1 + 1 ≤ 24; omega
  · left; exact Nat.le_refl _

theorem con_AddBar_i (v : T_Graph) (hs : smS s_Graph v) (a b : Int) :
    Con Try.prog 63 0 [] [graphA v, .p (.int .i64 a), .p (.int .i64 b)] [(0, brOb (abG v a b).2.1.1 (abG v a b).2.1.2)] (.tup [.agg [.p (.int .i64 (abG v a b).1), .ar 2 0 0 (abG v a b).2.1.1], .p (.bool (abB v a b))]) := by
  have hn : v.2.1.1 ≤ 1048576 := hs.2.1.1
  have cc := con_copyGraph v hn
  have c1 := con_IsGraph_i v hs
  have c2 : isGraphF v = true → ∀ p, Con Try.prog 101 0 [] [graphA v, .p (.int .i64 p)] [] (.p (.bool (inB p 0 (v.1 - 1)))) := fun h p => by
    have := graph_inR h
    exact con_hasX v p this.1 this.2.1
  have hcd : (bif bif bif bif !isGraphF v then true else !inB a 0 (v.1 - 1) then true else !inB b 0 (v.1 - 1) then true else a == b then true else (v.2.1.1 : Int) == 24) = !abB v a b := by
    unfold abB
    cases isGraphF v <;> cases inB a 0 (v.1 - 1) <;> cases inB b 0 (v.1 - 1) <;> cases (a == b) <;> cases ((v.2.1.1 : Int) == 24) <;> rfl
  have c2a : (!!isGraphF v) = true → Con Try.prog 101 0 [] [graphA v, .p (.int .i64 a)] [] (.p (.bool (inB a 0 (v.1 - 1)))) := fun h => c2 (by simpa using h) a
  have c2b : (!bif !isGraphF v then true else !inB a 0 (v.1 - 1)) = true → Con Try.prog 101 0 [] [graphA v, .p (.int .i64 b)] [] (.p (.bool (inB b 0 (v.1 - 1)))) := fun h => c2 (by
    cases hb : isGraphF v with
    | true => rfl
    | false => rw [hb] at h; simp at h) b
  refine con_start Try.func63 rfl (by kernel_rfl) rfl (fun c hc => ?_)
  cases hb : abB v a b with
  | false =>
    rw [hb] at hcd
    have hcd' : (bif bif bif bif !isGraphF v then true else !inB a 0 (v.1 - 1) then true else !inB b 0 (v.1 - 1) then true else a == b then true else (v.2.1.1 : Int) == 24) = true := hcd
    rw [show abG v a b = v by simp [abG, hb]]
    refine path_ok mixed Try.func63 hc (bIf v a b (isGraphF v) (inB a 0 (v.1 - 1)) (inB b 0 (v.1 - 1))) ?_
    simp only [All]
    repeat' (first | exact trivial | with_reducible apply And.intro)
    all_goals (first | omega | rfl | (intros; first | assumption | exact True.intro | rfl | exact absurd (show false = true by assumption) Bool.false_ne_true | ((repeat' (first | assumption | apply anda | apply notf)); done)) | (exact cc) | (exact c1) | (exact c2a) | (exact c2b) | (exact hcd') | (intro j hj; simp [All]))
  | true =>
    rw [hb] at hcd
    have hcd' : (bif bif bif bif !isGraphF v then true else !inB a 0 (v.1 - 1) then true else !inB b 0 (v.1 - 1) then true else a == b then true else (v.2.1.1 : Int) == 24) = false := hcd
    have hin := abB_in hb
    rw [show abG v a b = (v.1, (v.2.1.1 + 1, srtB (v.2.1.1 + 1) (snoc v.2.1.1 v.2.1.2 (brX a b))), ()) by simp [abG, hb]]
    have cb := con_barX a b
    have h2 := con_sortBars (v.2.1.1 + 1) (snoc v.2.1.1 v.2.1.2 (brX a b)) (by omega)
    generalize brX a b = x at cb h2 ⊢
    generalize srtB (v.2.1.1 + 1) (snoc v.2.1.1 v.2.1.2 x) = r at h2 ⊢
    refine piece_ok mixed hc (bIa v a b (isGraphF v) (inB a 0 (v.1 - 1)) (inB b 0 (v.1 - 1)) x) ?_ (path_ok mixed Try.func63 hc (bIb v.1 (v.2.1.1 + 1) (snoc v.2.1.1 v.2.1.2 x) r) ?_)
    ·
      simp only [All]
      repeat' (first | exact trivial | with_reducible apply And.intro)
      all_goals (first | omega | rfl | (intros; first | assumption | exact True.intro | rfl | exact absurd (show false = true by assumption) Bool.false_ne_true | ((repeat' (first | assumption | apply anda | apply notf)); done)) | (exact cc) | (exact c1) | (exact c2a) | (exact c2b) | (exact hcd') | (exact cb) | (intro j hj; by_cases h' : j < v.2.1.1 <;> simp [h', snoc, cvtL, cvt, tg, tru, All]; done) | (intro j hj; simp [All]; done) | (simp; try omega))
    ·
      simp only [All]
      repeat' (first | exact trivial | with_reducible apply And.intro)
      all_goals (first | omega | rfl | (intros; first | assumption | exact True.intro | rfl | exact absurd (show false = true by assumption) Bool.false_ne_true | ((repeat' (first | assumption | apply anda | apply notf)); done)) | (exact h2) | (intro j hj; simp [All]; done) | (simp; try omega))

theorem con_AddBar_s (v : T_Graph) (hs : smS s_Graph v) (a b : Int) :
    Con Try.prog 60 0 [] [graphA v, .p (.int .i64 a), .p (.int .i64 b)] [(0, brOb (abG v a b).2.1.1 (abG v a b).2.1.2)] (.tup [.agg [.p (.int .i64 (abG v a b).1), .ar 2 0 0 (abG v a b).2.1.1], .p (.bool (abB v a b))]) := by
  have hn : v.2.1.1 ≤ 1048576 := hs.2.1.1
  have cc := con_l2Copy v hn
  have c1 := con_IsGraph_s v hs
  have hcd : (bif bif bif bif bif bif !isGraphF v then true else decide (a < 0) then true else decide (b < 0) then true else decide (a ≥ v.1) then true else decide (b ≥ v.1) then true else a == b then true else decide ((v.2.1.1 : Int) ≥ 24)) = !abB v a b := by
    unfold abB inB
    cases hg : isGraphF v with
    | false => rfl
    | true =>
      have := graph_inR hg
      have e1 : decide (a ≥ v.1) = !decide (a ≤ v.1 - 1) := by
        by_cases h : a ≥ v.1
        · have : ¬ a ≤ v.1 - 1 := by omega
          simp [h, this]
        · have : a ≤ v.1 - 1 := by omega
          simp [h, this]
      have e2 : decide (b ≥ v.1) = !decide (b ≤ v.1 - 1) := by
        by_cases h : b ≥ v.1
        · have : ¬ b ≤ v.1 - 1 := by omega
          simp [h, this]
        · have : b ≤ v.1 - 1 := by omega
          simp [h, this]
      have e3 : decide (a < 0) = !decide (0 ≤ a) := by
        by_cases h : a < 0
        · have : ¬ 0 ≤ a := by omega
          simp [h, this]
        · have : 0 ≤ a := by omega
          simp [h, this]
      have e4 : decide (b < 0) = !decide (0 ≤ b) := by
        by_cases h : b < 0
        · have : ¬ 0 ≤ b := by omega
          simp [h, this]
        · have : 0 ≤ b := by omega
          simp [h, this]
      have e5 : decide ((v.2.1.1 : Int) ≥ 24) = ((v.2.1.1 : Int) == 24) := by
        by_cases h : v.2.1.1 = 24
        · rw [h]; rfl
        · have h1 : ¬ (v.2.1.1 : Int) ≥ 24 := by omega
          have h2 : ¬ (v.2.1.1 : Int) = 24 := by omega
          simp only [h1, decide_false]
          exact (beq_eq_false_iff_ne.2 h2).symm
      rw [e1, e2, e3, e4, e5]
      cases decide (0 ≤ a) <;> cases decide (0 ≤ b) <;> cases decide (a ≤ v.1 - 1) <;> cases decide (b ≤ v.1 - 1) <;> cases (a == b) <;> cases ((v.2.1.1 : Int) == 24) <;> rfl
  refine con_start Try.func60 rfl (by kernel_rfl) rfl (fun c hc => ?_)
  cases hb : abB v a b with
  | false =>
    rw [hb] at hcd
    have hcd' : (bif bif bif bif bif bif !isGraphF v then true else decide (a < 0) then true else decide (b < 0) then true else decide (a ≥ v.1) then true else decide (b ≥ v.1) then true else a == b then true else decide ((v.2.1.1 : Int) ≥ 24)) = true := hcd
    rw [show abG v a b = v by simp [abG, hb]]
    refine path_ok mixed Try.func60 hc (bSf v a b (isGraphF v)) ?_
    simp only [All]
    repeat' (first | exact trivial | with_reducible apply And.intro)
    all_goals (first | omega | rfl | (intros; first | assumption | exact True.intro | rfl | exact absurd (show false = true by assumption) Bool.false_ne_true | ((repeat' (first | assumption | apply anda | apply notf)); done)) | (exact cc) | (exact c1) | (exact hcd') | (intro j hj; simp [All]))
  | true =>
    rw [hb] at hcd
    have hcd' : (bif bif bif bif bif bif !isGraphF v then true else decide (a < 0) then true else decide (b < 0) then true else decide (a ≥ v.1) then true else decide (b ≥ v.1) then true else a == b then true else decide ((v.2.1.1 : Int) ≥ 24)) = false := hcd
    have hin := abB_in hb
    have hgr := graph_inR hin.1
    rw [show abG v a b = (v.1, (v.2.1.1 + 1, srtB (v.2.1.1 + 1) (snoc v.2.1.1 v.2.1.2 (brX a b))), ()) by simp [abG, hb]]
    have cp := con_l2Put v.2.1.2 v.2.1.1 v.1.toNat (brX a b) hn
    have hN : ((v.1.toNat : Nat) : Int) = v.1 := by omega
    rw [grG, hN] at cp
    have hl := insR_list v.2.1.2 v.2.1.1 (brX a b) (goodB_sorted hgr.2.2.2)
    have hn' := insR_n v.2.1.2 v.2.1.1 (brX a b)
    rw [hn'] at cp hl
    rw [← lstB_snoc, ← lstB_srt] at hl
    have hrow := lstB_inj hl
    generalize srtB (v.2.1.1 + 1) (snoc v.2.1.1 v.2.1.2 (brX a b)) = r at hrow ⊢
    generalize (insR v.2.1.2 v.2.1.1 (brX a b)).2 = r0 at cp hrow
    refine path_ok mixed Try.func60 hc (bSt v a b (isGraphF v) (v.2.1.1 + 1) r0 r) ?_
    simp only [All]
    repeat' (first | exact trivial | with_reducible apply And.intro)
    all_goals (first | omega | rfl | (intros; first | assumption | exact True.intro | rfl | exact absurd (show false = true by assumption) Bool.false_ne_true | ((repeat' (first | assumption | apply anda | apply notf)); done)) | (exact c1) | (exact cp) | (exact hcd') | (intro j hj; simp [All]; done) | (intro j hj; rw [hrow j hj]; simp [cvtL, cvt, tg, tru, All]))

end Go.Proofs.Ytgdbnnmogddkaaa.Mach
