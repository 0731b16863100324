/- A gain graph unrolled: both programs give the same graph. Conditions: as each theorem says. -/
import Derived.Test.YthnidhkfelfkdabRen
import Derived.Test.YthnidhkfelfkdabIsGain
namespace Go.Proofs.Ythnidhkfelfkdab.Mach
open Go Go.Sort
set_option linter.unusedVariables false
set_option linter.unusedSimpArgs false

def graO (N : Int) (n : Nat) (h : Nat → T_Bar) : AV := .agg [.p (.int .i64 N), .p (.seq true 2 n (fun i => [.int .i64 (h i).1, .int .i64 (h i).2.1]))]
def uL (g : Nat → T_GainBar) (nb : Nat) : AV := .p (.seq true 4 nb (fun i => [.int .i64 (g i).1, .int .i64 (g i).2.1, .int .i64 (g i).2.2.1, .int .i64 (g i).2.2.2.1]))
def uA (g : Nat → T_GainBar) (nb : Nat) (N : Int) : AV := .agg [.p (.int .i64 N), uL g nb]
def uB (g : Nat → T_GainBar) (nb : Nat) (N : Int) : Ob := ⟨true, 2, 1, fun i => [.p (.int .i64 N), uL g nb]⟩
def uX (b : T_GainBar) : Ob := ⟨true, 4, 1, fun i => [.p (.int .i64 b.1), .p (.int .i64 b.2.1), .p (.int .i64 b.2.2.1), .p (.int .i64 b.2.2.2.1)]⟩
def uG (N : Int) (n : Nat) : Ob := ⟨true, 2, 1, fun _ => [.p (.int .i64 (4 * N)), .ar 2 3 0 n]⟩
def SUW (N : Int) (n : Nat) (h : Nat → T_Bar) : St :=
  ⟨[.p .any, .p .any, .p .any, .p .any, .pt 2 0 0 0, .pt 2 1 0 0] ++ List.replicate 11 anyA, [(0, zG2), (1, ⟨true, 2, 1, fun _ => [.p (.int .i64 N), .ar 2 2 0 n]⟩), (2, brOb n h)], 3⟩
def SU0 (g : Nat → T_GainBar) (nb : Nat) (N : Int) (i n : Nat) (h : Nat → T_Bar) : St :=
  ⟨[uA g nb N, .pt 2 0 0 0, .pt 2 1 0 0, .p (.bool false), .pt 2 2 0 0] ++ List.replicate 28 anyA ++ [uL g nb, .p (.int .i64 nb), .p (.int .i64 i)] ++ List.replicate 46 anyA,
   [(0, uB g nb N), (1, zG2), (2, uG N n), (3, brOb n h)], 4⟩
def SU1 (g : Nat → T_GainBar) (nb : Nat) (N : Int) (i n : Nat) (h : Nat → T_Bar) (y : Nat) : St :=
  ⟨[uA g nb N, .pt 2 0 0 0, .pt 2 1 0 0, .p (.bool false), .pt 2 2 0 0, .p .any, .pt 4 4 0 0] ++ List.replicate 26 anyA ++ [uL g nb, .p (.int .i64 nb), .p (.int .i64 i), .p .any, .p .any, .p .any, .p (.int .i64 y)] ++ List.replicate 42 anyA,
   [(0, uB g nb N), (1, zG2), (2, uG N n), (3, brOb n h), (4, uX (g i))], 5⟩
def SU2 (g : Nat → T_GainBar) (nb : Nat) (N : Int) (i n : Nat) (h : Nat → T_Bar) (y x : Nat) : St :=
  ⟨[uA g nb N, .pt 2 0 0 0, .pt 2 1 0 0, .p (.bool false), .pt 2 2 0 0, .p .any, .pt 4 4 0 0, .p (.int .i64 y)] ++ List.replicate 25 anyA ++ [uL g nb, .p (.int .i64 nb), .p (.int .i64 i), .p .any, .p .any, .p .any, .p (.int .i64 y), .p .any, .p .any, .p (.int .i64 x)] ++ List.replicate 39 anyA,
   [(0, uB g nb N), (1, zG2), (2, uG N n), (3, brOb n h), (4, uX (g i))], 5⟩
def SV0 (g : Nat → T_GainBar) (nb : Nat) (N : Int) (k n : Nat) (h : Nat → T_Bar) : St :=
  ⟨[uA g nb N, .pt 2 0 0 0, .pt 2 1 0 0, .p (.bool false), .pt 2 2 0 0, .p (.int .i64 k)] ++ List.replicate 84 anyA,
   [(0, uB g nb N), (1, zG2), (2, uG N n), (3, brOb n h)], 4⟩
def SV1 (g : Nat → T_GainBar) (nb : Nat) (N : Int) (k i n : Nat) (h : Nat → T_Bar) : St :=
  ⟨[uA g nb N, .pt 2 0 0 0, .pt 2 1 0 0, .p (.bool false), .pt 2 2 0 0, .p (.int .i64 k), .p (.int .i64 i)] ++ List.replicate 83 anyA,
   [(0, uB g nb N), (1, zG2), (2, uG N n), (3, brOb n h)], 4⟩

theorem uWa (N : Int) (n : Nat) (h : Nat → T_Bar) (x : T_Bar) :
    pieceOb Try.prog 0 [.reg [oT, oT], .reg [oT, ⟨true, (some ⟨[], [], 1, [(0, brOb n h)], .agg [.p (.int .i64 N), .ar 2 0 0 n]⟩), none⟩, oT, oT], .reg [oT, oT, oT, oT, oT, oT], .head] [.code (bodyOf Try.f70)] (start Try.f70 [] 0 [graO N n h, .p (.seq true 2 1 (fun _ => [.int .i64 x.1, .int .i64 x.2.1]))]) [32, 128, 288] 1 (SUW N (n + 1) (snoc n h x)) =
    some ([.code (cAt (bodyOf Try.f70) [1, 1, 1, 0]), .code (cAt (bodyOf Try.f70) [1, 1, 1, 1])], [((0 : Nat) < 1),
  Con (Try.prog) 118 0 [] [.agg [.p (.int .i64 (N)), .p (.seq true 2 (n) (fun i => [.int .i64 ((h i).fst), .int .i64 ((h i).snd.fst)]))]] [(0, ⟨false, 2, (n), (fun i => [.p (.int .i64 ((h i).fst)), .p (.int .i64 ((h i).snd.fst))])⟩)] (.agg [.p (.int .i64 (N)), .ar 2 0 0 (n)]),
  ((0 : Nat) < 1),
  (((true) = true) → ((1 : Nat) = 1)),
  ((0 : Nat) < 1),
  (((n) : Nat) ≤ (n)),
  ((((n + 1) * 16) : Nat) ≤ 140737488355328),
  (((n + 1) : Nat) ≤ 9223372036854775807),
  ((0 : Nat) < 1),
  (((true) = true) → ((1 : Nat) = 1)),
  ((0 : Nat) = 0),
  ((0 : Nat) = 0),
  ((((List.map (fun v => AV.p (absV v)) [Value.int IntKind.i64 0, Value.slice none 0 0]).length) : Nat) = 2),
  ((1 : Nat) ≤ 1),
  ((1 : Nat) ≤ 1),
  ((0 : Int) = 0),
  ((((List.map (fun v => AV.p (absV v)) [Value.int IntKind.i64 0, Value.slice none 0 0]).length) : Nat) = 2),
  ((1 : Nat) ≤ 1),
  ((1 : Nat) ≤ 1),
  (((N) : Int) = (N)),
  ((0 : Nat) = 0),
  (((n + 1) : Nat) = (n + 1)),
  ((2 : Nat) = 2),
  (((n + 1) : Nat) ≤ (n + 1)),
  (∀ i : Nat, ((((i) : Nat) < (n + 1)) → (All (cvtL false [(128, ⟨true, 2, 1, (fun i_1 => [.p (.int .i64 (N)), .ar 2 288 0 (n + 1)])⟩), (288, ⟨false, 2, (n + 1), (fun i_1 => (if (i_1 < n) then [.p (.int .i64 ((h i_1).fst)), .p (.int .i64 ((h i_1).snd.fst))] else [.p (.int .i64 (x.fst)), .p (.int .i64 (x.snd.fst))]))⟩), (32, ⟨true, 2, 1, (fun i_1 => [.p (.int .i64 0), .p (.nil)])⟩), (0, ⟨true, 2, 1, (fun i_1 => [.p (.int .i64 (N)), .p (.seq true 2 (n) (fun i_2 => [.int .i64 ((h i_2).fst), .int .i64 ((h i_2).snd.fst)]))])⟩)] [32, 128, 288] 1 (if (i < n) then [.p (.int .i64 ((h i).fst)), .p (.int .i64 ((h i).snd.fst))] else [.p (.int .i64 (x.fst)), .p (.int .i64 (x.snd.fst))])).2 ∧ (((cvtL false [(128, ⟨true, 2, 1, (fun i_1 => [.p (.int .i64 (N)), .ar 2 288 0 (n + 1)])⟩), (288, ⟨false, 2, (n + 1), (fun i_1 => (if (i_1 < n) then [.p (.int .i64 ((h i_1).fst)), .p (.int .i64 ((h i_1).snd.fst))] else [.p (.int .i64 (x.fst)), .p (.int .i64 (x.snd.fst))]))⟩), (32, ⟨true, 2, 1, (fun i_1 => [.p (.int .i64 0), .p (.nil)])⟩), (0, ⟨true, 2, 1, (fun i_1 => [.p (.int .i64 (N)), .p (.seq true 2 (n) (fun i_2 => [.int .i64 ((h i_2).fst), .int .i64 ((h i_2).snd.fst)]))])⟩)] [32, 128, 288] 1 (if (i < n) then [.p (.int .i64 ((h i).fst)), .p (.int .i64 ((h i).snd.fst))] else [.p (.int .i64 (x.fst)), .p (.int .i64 (x.snd.fst))])).1 : List AV) = [.p (.int .i64 (if i < n then (h i).fst else x.fst)), .p (.int .i64 (if i < n then (h i).snd.fst else x.snd.fst))]))))]) := by kernel_rfl
theorem uWb (N : Int) (n : Nat) (h r : Nat → T_Bar) :
    pathOb Try.prog Try.f70 0 [.reg [oT, oT, ⟨true, (some ⟨[2], [], 1, [(0, brOb n r)], .tup []⟩), none⟩], .reg [oT, oT]] [.code (cAt (bodyOf Try.f70) [1, 1, 1, 0]), .code (cAt (bodyOf Try.f70) [1, 1, 1, 1])] (SUW N n h) [2] 1 [(0, brOb n r)] (.agg [.p (.int .i64 N), .ar 2 0 0 n]) =
    some [((0 : Nat) < 1),
  (∀ i : Nat, ((((i) : Nat) < (n)) → All [])),
  Con (Try.prog) 62 1 [(0, ⟨false, 2, (n), (fun i => [.p (.int .i64 ((h i).fst)), .p (.int .i64 ((h i).snd.fst))])⟩)] [.ar 2 0 0 (n), .p (.fn 63)] [(0, ⟨false, 2, (n), (fun i => [.p (.int .i64 ((r i).fst)), .p (.int .i64 ((r i).snd.fst))])⟩)] (.tup []),
  ((0 : Nat) < 1),
  ((0 : Nat) < 1),
  (((true) = true) → ((1 : Nat) = 1)),
  ((0 : Nat) < 1),
  (((N) : Int) = (N)),
  ((0 : Nat) = 0),
  (((n) : Nat) = (n)),
  ((2 : Nat) = 2),
  (((n) : Nat) ≤ (n)),
  (∀ i : Nat, ((((i) : Nat) < (n)) → (All [] ∧ (([.p (.int .i64 ((r i).fst)), .p (.int .i64 ((r i).snd.fst))] : List AV) = [.p (.int .i64 ((r i).fst)), .p (.int .i64 ((r i).snd.fst))])))),
  (∀ i : Nat, ((((i) : Nat) < (n)) → All []))] := by kernel_rfl
theorem uCp (N : Int) (n : Nat) (h : Nat → T_Bar) :
    pathOb Try.prog Try.f118 0 [.reg [oT, oT], .reg [oT, oT, oT, oT, oT, oT, oT, oT]] [.code (bodyOf Try.f118)] (start Try.f118 [] 0 [graO N n h]) [224] 1 [(0, brOb n h)] (.agg [.p (.int .i64 N), .ar 2 0 0 n]) =
    some [((0 : Nat) < 1),
  ((0 : Nat) < 1),
  ((0 : Nat) ≤ 0),
  ((((0 + n) * 16) : Nat) ≤ 140737488355328),
  (((0 + n) : Nat) ≤ 9223372036854775807),
  ((0 : Nat) < 1),
  (((true) = true) → ((1 : Nat) = 1)),
  ((0 : Nat) < 1),
  (((N) : Int) = (N)),
  ((0 : Nat) = 0),
  (((0 + n) : Nat) = (n)),
  ((2 : Nat) = 2),
  (((n) : Nat) ≤ (0 + n)),
  (∀ i : Nat, ((((i) : Nat) < (n)) → (All [] ∧ (([.p (.int .i64 ((h i).fst)), .p (.int .i64 ((h i).snd.fst))] : List AV) = [.p (.int .i64 ((h i).fst)), .p (.int .i64 ((h i).snd.fst))])))),
  (∀ i : Nat, ((((i) : Nat) < (n)) → All []))] := by kernel_rfl
theorem uIy (g : Nat → T_GainBar) (nb : Nat) (N : Int) (b1 : Bool) :
    pathOb Try.prog Try.f24 0 [.reg [oT, oT, oT], .reg [oT, ⟨true, (some ⟨[], [], 1, [], .p (.bool b1)⟩), none⟩, oT, oT, oT, oT, oT, oT, oT, oT, oT, oT, oT, oT, oT, oT], .dec true, .reg [oT, oT, oT]] [.code (bodyOf Try.f24)] (start Try.f24 [] 0 [uA g nb N]) [] 1 [(0, brOb 0 (fun _ => (0, 0, ())))] (.tup [.agg [.p (.int .i64 0), .ar 2 0 0 0], .p (.bool false)]) =
    some [((0 : Nat) < 1),
  Con (Try.prog) 69 0 [] [.agg [.p (.int .i64 (N)), .p (.seq true 4 (nb) (fun i => [.int .i64 ((g i).fst), .int .i64 ((g i).snd.fst), .int .i64 ((g i).snd.snd.fst), .int .i64 ((g i).snd.snd.snd.fst)]))]] [] (.p (.bool (b1))),
  (((!!b1) = true) → ((!!b1) = true)),
  (((!!b1) = true) → ((0 : Nat) < 1)),
  (((!!b1) = true) → ((!!b1) = true)),
  (((!!b1) = true) → (((-9223372036854775808) : Int) ≤ (4 * N))),
  (((!!b1) = true) → (((4 * N) : Int) ≤ 9223372036854775807)),
  (((!!b1) = true) → ((!!b1) = true)),
  (((!b1) = false) → ((!!b1) = true)),
  (((!bif !b1 then true else decide (4 * N > 8)) = true) → ((!bif !b1 then true else decide (4 * N > 8)) = true)),
  (((!bif !b1 then true else decide (4 * N > 8)) = true) → ((0 : Nat) < 1)),
  (((!bif !b1 then true else decide (4 * N > 8)) = true) → ((!bif !b1 then true else decide (4 * N > 8)) = true)),
  (((!bif !b1 then true else decide (4 * N > 8)) = true) → ((!bif !b1 then true else decide (4 * N > 8)) = true)),
  (((!bif !b1 then true else decide (4 * N > 8)) = true) → (((-9223372036854775808) : Int) ≤ (4 * (↑nb : Int)))),
  (((!bif !b1 then true else decide (4 * N > 8)) = true) → (((4 * (↑nb : Int)) : Int) ≤ 9223372036854775807)),
  (((!bif !b1 then true else decide (4 * N > 8)) = true) → ((!bif !b1 then true else decide (4 * N > 8)) = true)),
  (((bif !b1 then true else decide (4 * N > 8)) = false) → ((!bif !b1 then true else decide (4 * N > 8)) = true)),
  ((bif bif !b1 then true else decide (4 * N > 8) then true else decide (4 * (↑nb : Int) > 24)) = true),
  ((0 : Nat) < 1),
  (((true) = true) → ((1 : Nat) = 1)),
  ((0 : Nat) < 1),
  ((0 : Int) = 0),
  ((0 : Nat) = 0),
  (false = false),
  ((0 : Nat) = 0),
  (∀ i : Nat, ((((i) : Nat) < 0) → All []))] := by kernel_rfl
theorem uIz (g : Nat → T_GainBar) (nb : Nat) (N : Int) (b1 : Bool) :
    pieceOb Try.prog 0 [.reg [oT, oT, oT], .reg [oT, ⟨true, (some ⟨[], [], 1, [], .p (.bool b1)⟩), none⟩, oT, oT, oT, oT, oT, oT, oT, oT, oT, oT, oT, oT, oT, oT], .dec false, .reg [oT, oT, oT, oT, oT, oT], .reg [oT, oT, oT, oT], .head] [.code (bodyOf Try.f24)] (start Try.f24 [] 0 [uA g nb N]) [0, 32, 736] 1 (SU0 g nb N 0 0 (fun _ => (0, 0, ()))) =
    some ([.code (cAt (bodyOf Try.f24) [1, 1, 1, 0, 1, 0, 0]), .inLoop (cAt (bodyOf Try.f24) [1, 1, 1, 0, 1, 0, 0]), .inBlock 0, .code (cAt (bodyOf Try.f24) [1, 1, 1, 1])], [((0 : Nat) < 1),
  Con (Try.prog) 69 0 [] [.agg [.p (.int .i64 (N)), .p (.seq true 4 (nb) (fun i => [.int .i64 ((g i).fst), .int .i64 ((g i).snd.fst), .int .i64 ((g i).snd.snd.fst), .int .i64 ((g i).snd.snd.snd.fst)]))]] [] (.p (.bool (b1))),
  (((!!b1) = true) → ((!!b1) = true)),
  (((!!b1) = true) → ((0 : Nat) < 1)),
  (((!!b1) = true) → ((!!b1) = true)),
  (((!!b1) = true) → (((-9223372036854775808) : Int) ≤ (4 * N))),
  (((!!b1) = true) → (((4 * N) : Int) ≤ 9223372036854775807)),
  (((!!b1) = true) → ((!!b1) = true)),
  (((!b1) = false) → ((!!b1) = true)),
  (((!bif !b1 then true else decide (4 * N > 8)) = true) → ((!bif !b1 then true else decide (4 * N > 8)) = true)),
  (((!bif !b1 then true else decide (4 * N > 8)) = true) → ((0 : Nat) < 1)),
  (((!bif !b1 then true else decide (4 * N > 8)) = true) → ((!bif !b1 then true else decide (4 * N > 8)) = true)),
  (((!bif !b1 then true else decide (4 * N > 8)) = true) → ((!bif !b1 then true else decide (4 * N > 8)) = true)),
  (((!bif !b1 then true else decide (4 * N > 8)) = true) → (((-9223372036854775808) : Int) ≤ (4 * (↑nb : Int)))),
  (((!bif !b1 then true else decide (4 * N > 8)) = true) → (((4 * (↑nb : Int)) : Int) ≤ 9223372036854775807)),
  (((!bif !b1 then true else decide (4 * N > 8)) = true) → ((!bif !b1 then true else decide (4 * N > 8)) = true)),
  (((bif !b1 then true else decide (4 * N > 8)) = false) → ((!bif !b1 then true else decide (4 * N > 8)) = true)),
  ((bif bif !b1 then true else decide (4 * N > 8) then true else decide (4 * (↑nb : Int) > 24)) = false),
  ((0 : Nat) < 1),
  (((-9223372036854775808) : Int) ≤ (4 * N)),
  (((4 * N) : Int) ≤ 9223372036854775807),
  ((0 : Nat) < 1),
  (((true) = true) → ((1 : Nat) = 1)),
  ((0 : Nat) < 1),
  (((N) : Int) = (N)),
  (((nb) : Nat) = (nb)),
  (∀ i : Nat, ((((i) : Nat) < (nb)) → (([.int .i64 ((g i).fst), .int .i64 ((g i).snd.fst), .int .i64 ((g i).snd.snd.fst), .int .i64 ((g i).snd.snd.snd.fst)] : List PV) = [.int .i64 ((g i).fst), .int .i64 ((g i).snd.fst), .int .i64 ((g i).snd.snd.fst), .int .i64 ((g i).snd.snd.snd.fst)]))),
  ((0 : Nat) = 0),
  ((0 : Nat) = 0),
  (false = false),
  ((0 : Nat) = 0),
  (((nb) : Nat) = (nb)),
  (∀ i : Nat, ((((i) : Nat) < (nb)) → (([.int .i64 ((g i).fst), .int .i64 ((g i).snd.fst), .int .i64 ((g i).snd.snd.fst), .int .i64 ((g i).snd.snd.snd.fst)] : List PV) = [.int .i64 ((g i).fst), .int .i64 ((g i).snd.fst), .int .i64 ((g i).snd.snd.fst), .int .i64 ((g i).snd.snd.snd.fst)]))),
  ((((↑nb : Int)) : Int) = ((↑nb : Int))),
  ((0 : Int) = ((↑0 : Int))),
  ((([AV.p (PV.int IntKind.i64 N), uL g nb].length) : Nat) = 2),
  ((1 : Nat) ≤ 1),
  ((1 : Nat) ≤ 1),
  (((N) : Int) = (N)),
  (((nb) : Nat) = (nb)),
  (∀ i : Nat, ((((i) : Nat) < (nb)) → (([.int .i64 ((g i).fst), .int .i64 ((g i).snd.fst), .int .i64 ((g i).snd.snd.fst), .int .i64 ((g i).snd.snd.snd.fst)] : List PV) = [.int .i64 ((g i).fst), .int .i64 ((g i).snd.fst), .int .i64 ((g i).snd.snd.fst), .int .i64 ((g i).snd.snd.snd.fst)]))),
  ((((List.map (fun v => AV.p (absV v)) [Value.int IntKind.i64 0, Value.slice none 0 0]).length) : Nat) = 2),
  ((1 : Nat) ≤ 1),
  ((1 : Nat) ≤ 1),
  ((0 : Int) = 0),
  ((((List.map (fun v => AV.p (absV v)) [Value.int IntKind.i64 0, Value.slice none 0 0]).length) : Nat) = 2),
  ((1 : Nat) ≤ 1),
  ((1 : Nat) ≤ 1),
  (((4 * N) : Int) = (4 * N)),
  ((0 : Nat) = 0),
  ((0 : Nat) = 0)]) := by kernel_rfl
theorem uI0 (g : Nat → T_GainBar) (nb : Nat) (N : Int) (i n : Nat) (h : Nat → T_Bar) :
    pieceOb Try.prog 0 [.reg [oT], .dec true, .reg [oT, oT, oT, oT], .reg [oT], .head] [.code (cAt (bodyOf Try.f24) [1, 1, 1, 0, 1, 0, 0]), .inLoop (cAt (bodyOf Try.f24) [1, 1, 1, 0, 1, 0, 0]), .inBlock 0, .code (cAt (bodyOf Try.f24) [1, 1, 1, 1])] (SU0 g nb N i n h) [0, 1, 2, 3, 100] 1 (SU1 g nb N i n h 0) =
    some ([.code (cAt (bodyOf Try.f24) [1, 1, 1, 0, 1, 0, 0, 1, 1, 0, 0, 1, 1, 0, 0]), .inLoop (cAt (bodyOf Try.f24) [1, 1, 1, 0, 1, 0, 0, 1, 1, 0, 0, 1, 1, 0, 0]), .inBlock 2, .inBlock 1, .code (cAt (bodyOf Try.f24) [1, 1, 1, 0, 1, 0, 0, 1, 1, 1]), .inLoop (cAt (bodyOf Try.f24) [1, 1, 1, 0, 1, 0, 0]), .inBlock 0, .code (cAt (bodyOf Try.f24) [1, 1, 1, 1])], [((decide ((↑i : Int) < (↑nb : Int))) = true),
  ((0 : Int) ≤ ((↑i : Int))),
  ((((↑i : Int)) : Int) < ((↑nb : Int))),
  ((0 : Nat) < 1),
  (((true) = true) → ((1 : Nat) = 1)),
  (((N) : Int) = (N)),
  (((nb) : Nat) = (nb)),
  (∀ i_1 : Nat, ((((i_1) : Nat) < (nb)) → (([.int .i64 ((g i_1).fst), .int .i64 ((g i_1).snd.fst), .int .i64 ((g i_1).snd.snd.fst), .int .i64 ((g i_1).snd.snd.snd.fst)] : List PV) = [.int .i64 ((g i_1).fst), .int .i64 ((g i_1).snd.fst), .int .i64 ((g i_1).snd.snd.fst), .int .i64 ((g i_1).snd.snd.snd.fst)]))),
  ((0 : Nat) = 0),
  ((0 : Nat) = 0),
  (false = false),
  ((0 : Nat) = 0),
  ((0 : Nat) = 0),
  (((nb) : Nat) = (nb)),
  (∀ i_1 : Nat, ((((i_1) : Nat) < (nb)) → (([.int .i64 ((g i_1).fst), .int .i64 ((g i_1).snd.fst), .int .i64 ((g i_1).snd.snd.fst), .int .i64 ((g i_1).snd.snd.snd.fst)] : List PV) = [.int .i64 ((g i_1).fst), .int .i64 ((g i_1).snd.fst), .int .i64 ((g i_1).snd.snd.fst), .int .i64 ((g i_1).snd.snd.snd.fst)]))),
  ((((↑nb : Int)) : Int) = ((↑nb : Int))),
  ((((↑i : Int)) : Int) = ((↑i : Int))),
  ((0 : Int) = ((↑0 : Int))),
  ((2 : Nat) = 2),
  ((1 : Nat) ≤ 1),
  ((1 : Nat) ≤ 1),
  (((N) : Int) = (N)),
  (((nb) : Nat) = (nb)),
  (∀ i_1 : Nat, ((((i_1) : Nat) < (nb)) → (([.int .i64 ((g i_1).fst), .int .i64 ((g i_1).snd.fst), .int .i64 ((g i_1).snd.snd.fst), .int .i64 ((g i_1).snd.snd.snd.fst)] : List PV) = [.int .i64 ((g i_1).fst), .int .i64 ((g i_1).snd.fst), .int .i64 ((g i_1).snd.snd.fst), .int .i64 ((g i_1).snd.snd.snd.fst)]))),
  ((2 : Nat) = 2),
  ((1 : Nat) ≤ 1),
  ((1 : Nat) ≤ 1),
  ((0 : Int) = 0),
  ((2 : Nat) = 2),
  ((1 : Nat) ≤ 1),
  ((1 : Nat) ≤ 1),
  (((4 * N) : Int) = (4 * N)),
  ((0 : Nat) = 0),
  (((n) : Nat) = (n)),
  ((2 : Nat) = 2),
  (((n) : Nat) ≤ (n)),
  (∀ i_1 : Nat, ((((i_1) : Nat) < (n)) → (All [] ∧ (([.p (.int .i64 ((h i_1).fst)), .p (.int .i64 ((h i_1).snd.fst))] : List AV) = [.p (.int .i64 ((h i_1).fst)), .p (.int .i64 ((h i_1).snd.fst))])))),
  ((((List.map (fun v => AV.p (absV v)) [Value.int IntKind.i64 0, Value.int IntKind.i64 0, Value.int IntKind.i64 0, Value.int IntKind.i64 0]).length) : Nat) = 4),
  ((1 : Nat) ≤ 1),
  ((1 : Nat) ≤ 1),
  ((((g i).fst) : Int) = ((g i).fst)),
  ((((g i).snd.fst) : Int) = ((g i).snd.fst)),
  ((((g i).snd.snd.fst) : Int) = ((g i).snd.snd.fst)),
  ((((g i).snd.snd.snd.fst) : Int) = ((g i).snd.snd.snd.fst))]) := by kernel_rfl
theorem uIe (g : Nat → T_GainBar) (nb : Nat) (N : Int) (i n : Nat) (h r : Nat → T_Bar) :
    pathOb Try.prog Try.f24 0 [.reg [oT], .dec false, .reg [oT, oT, oT]] [.code (cAt (bodyOf Try.f24) [1, 1, 1, 0, 1, 0, 0]), .inLoop (cAt (bodyOf Try.f24) [1, 1, 1, 0, 1, 0, 0]), .inBlock 0, .code (cAt (bodyOf Try.f24) [1, 1, 1, 1])] (SU0 g nb N i n h) [3] 1 [(0, brOb n r)] (.tup [.agg [.p (.int .i64 (4 * N)), .ar 2 0 0 n], .p (.bool true)]) =
    some [((decide ((↑i : Int) < (↑nb : Int))) = false),
  ((0 : Nat) < 1),
  ((0 : Nat) < 1),
  (((true) = true) → ((1 : Nat) = 1)),
  ((0 : Nat) < 1),
  (((4 * N) : Int) = (4 * N)),
  ((0 : Nat) = 0),
  (((n) : Nat) = (n)),
  (true = true),
  ((2 : Nat) = 2),
  (((n) : Nat) ≤ (n)),
  (∀ i_1 : Nat, ((((i_1) : Nat) < (n)) → (All [] ∧ (([.p (.int .i64 ((h i_1).fst)), .p (.int .i64 ((h i_1).snd.fst))] : List AV) = [.p (.int .i64 ((r i_1).fst)), .p (.int .i64 ((r i_1).snd.fst))])))),
  (∀ i_1 : Nat, ((((i_1) : Nat) < (n)) → All []))] := by kernel_rfl
theorem uI1 (g : Nat → T_GainBar) (nb : Nat) (N : Int) (i n : Nat) (h : Nat → T_Bar) (y : Nat) :
    pieceOb Try.prog 0 [.reg [oT], .dec true, .reg [oT, oT], .reg [oT], .head] [.code (cAt (bodyOf Try.f24) [1, 1, 1, 0, 1, 0, 0, 1, 1, 0, 0, 1, 1, 0, 0]), .inLoop (cAt (bodyOf Try.f24) [1, 1, 1, 0, 1, 0, 0, 1, 1, 0, 0, 1, 1, 0, 0]), .inBlock 2, .inBlock 1, .code (cAt (bodyOf Try.f24) [1, 1, 1, 0, 1, 0, 0, 1, 1, 1]), .inLoop (cAt (bodyOf Try.f24) [1, 1, 1, 0, 1, 0, 0]), .inBlock 0, .code (cAt (bodyOf Try.f24) [1, 1, 1, 1])] (SU1 g nb N i n h y) [0, 1, 2, 3, 4] 1 (SU2 g nb N i n h y 0) =
    some ([.code (cAt (bodyOf Try.f24) [1, 1, 1, 0, 1, 0, 0, 1, 1, 0, 0, 1, 1, 0, 0, 1, 1, 0, 0, 1, 1, 0, 0]), .inLoop (cAt (bodyOf Try.f24) [1, 1, 1, 0, 1, 0, 0, 1, 1, 0, 0, 1, 1, 0, 0, 1, 1, 0, 0, 1, 1, 0, 0]), .inBlock 4, .inBlock 3, .code (cAt (bodyOf Try.f24) [1, 1, 1, 0, 1, 0, 0, 1, 1, 0, 0, 1, 1, 0, 0, 1, 1, 1]), .inLoop (cAt (bodyOf Try.f24) [1, 1, 1, 0, 1, 0, 0, 1, 1, 0, 0, 1, 1, 0, 0]), .inBlock 2, .inBlock 1, .code (cAt (bodyOf Try.f24) [1, 1, 1, 0, 1, 0, 0, 1, 1, 1]), .inLoop (cAt (bodyOf Try.f24) [1, 1, 1, 0, 1, 0, 0]), .inBlock 0, .code (cAt (bodyOf Try.f24) [1, 1, 1, 1])], [((decide ((↑y : Int) < 2)) = true),
  (((N) : Int) = (N)),
  (((nb) : Nat) = (nb)),
  (∀ i_1 : Nat, ((((i_1) : Nat) < (nb)) → (([.int .i64 ((g i_1).fst), .int .i64 ((g i_1).snd.fst), .int .i64 ((g i_1).snd.snd.fst), .int .i64 ((g i_1).snd.snd.snd.fst)] : List PV) = [.int .i64 ((g i_1).fst), .int .i64 ((g i_1).snd.fst), .int .i64 ((g i_1).snd.snd.fst), .int .i64 ((g i_1).snd.snd.snd.fst)]))),
  ((0 : Nat) = 0),
  ((0 : Nat) = 0),
  (false = false),
  ((0 : Nat) = 0),
  ((0 : Nat) = 0),
  ((((↑y : Int)) : Int) = ((↑y : Int))),
  (((nb) : Nat) = (nb)),
  (∀ i_1 : Nat, ((((i_1) : Nat) < (nb)) → (([.int .i64 ((g i_1).fst), .int .i64 ((g i_1).snd.fst), .int .i64 ((g i_1).snd.snd.fst), .int .i64 ((g i_1).snd.snd.snd.fst)] : List PV) = [.int .i64 ((g i_1).fst), .int .i64 ((g i_1).snd.fst), .int .i64 ((g i_1).snd.snd.fst), .int .i64 ((g i_1).snd.snd.snd.fst)]))),
  ((((↑nb : Int)) : Int) = ((↑nb : Int))),
  ((((↑i : Int)) : Int) = ((↑i : Int))),
  ((((↑y : Int)) : Int) = ((↑y : Int))),
  ((0 : Int) = ((↑0 : Int))),
  ((2 : Nat) = 2),
  ((1 : Nat) ≤ 1),
  ((1 : Nat) ≤ 1),
  (((N) : Int) = (N)),
  (((nb) : Nat) = (nb)),
  (∀ i_1 : Nat, ((((i_1) : Nat) < (nb)) → (([.int .i64 ((g i_1).fst), .int .i64 ((g i_1).snd.fst), .int .i64 ((g i_1).snd.snd.fst), .int .i64 ((g i_1).snd.snd.snd.fst)] : List PV) = [.int .i64 ((g i_1).fst), .int .i64 ((g i_1).snd.fst), .int .i64 ((g i_1).snd.snd.fst), .int .i64 ((g i_1).snd.snd.snd.fst)]))),
  ((2 : Nat) = 2),
  ((1 : Nat) ≤ 1),
  ((1 : Nat) ≤ 1),
  ((0 : Int) = 0),
  ((2 : Nat) = 2),
  ((1 : Nat) ≤ 1),
  ((1 : Nat) ≤ 1),
  (((4 * N) : Int) = (4 * N)),
  ((0 : Nat) = 0),
  (((n) : Nat) = (n)),
  ((2 : Nat) = 2),
  (((n) : Nat) ≤ (n)),
  (∀ i_1 : Nat, ((((i_1) : Nat) < (n)) → (All [] ∧ (([.p (.int .i64 ((h i_1).fst)), .p (.int .i64 ((h i_1).snd.fst))] : List AV) = [.p (.int .i64 ((h i_1).fst)), .p (.int .i64 ((h i_1).snd.fst))])))),
  ((4 : Nat) = 4),
  ((1 : Nat) ≤ 1),
  ((1 : Nat) ≤ 1),
  ((((g i).fst) : Int) = ((g i).fst)),
  ((((g i).snd.fst) : Int) = ((g i).snd.fst)),
  ((((g i).snd.snd.fst) : Int) = ((g i).snd.snd.fst)),
  ((((g i).snd.snd.snd.fst) : Int) = ((g i).snd.snd.snd.fst))]) := by kernel_rfl
theorem uI1e (g : Nat → T_GainBar) (nb : Nat) (N : Int) (i n : Nat) (h : Nat → T_Bar) (y : Nat) :
    pieceOb Try.prog 0 [.reg [oT], .dec false, .reg [oT, oT], .head] [.code (cAt (bodyOf Try.f24) [1, 1, 1, 0, 1, 0, 0, 1, 1, 0, 0, 1, 1, 0, 0]), .inLoop (cAt (bodyOf Try.f24) [1, 1, 1, 0, 1, 0, 0, 1, 1, 0, 0, 1, 1, 0, 0]), .inBlock 2, .inBlock 1, .code (cAt (bodyOf Try.f24) [1, 1, 1, 0, 1, 0, 0, 1, 1, 1]), .inLoop (cAt (bodyOf Try.f24) [1, 1, 1, 0, 1, 0, 0]), .inBlock 0, .code (cAt (bodyOf Try.f24) [1, 1, 1, 1])] (SU1 g nb N i n h y) [0, 1, 2, 3] 1 (SU0 g nb N (i + 1) n h) =
    some ([.code (cAt (bodyOf Try.f24) [1, 1, 1, 0, 1, 0, 0]), .inLoop (cAt (bodyOf Try.f24) [1, 1, 1, 0, 1, 0, 0]), .inBlock 0, .code (cAt (bodyOf Try.f24) [1, 1, 1, 1])], [((decide ((↑y : Int) < 2)) = false),
  (((-9223372036854775808) : Int) ≤ ((↑i : Int) + 1)),
  ((((↑i : Int) + 1) : Int) ≤ 9223372036854775807),
  (((N) : Int) = (N)),
  (((nb) : Nat) = (nb)),
  (∀ i_1 : Nat, ((((i_1) : Nat) < (nb)) → (([.int .i64 ((g i_1).fst), .int .i64 ((g i_1).snd.fst), .int .i64 ((g i_1).snd.snd.fst), .int .i64 ((g i_1).snd.snd.snd.fst)] : List PV) = [.int .i64 ((g i_1).fst), .int .i64 ((g i_1).snd.fst), .int .i64 ((g i_1).snd.snd.fst), .int .i64 ((g i_1).snd.snd.snd.fst)]))),
  ((0 : Nat) = 0),
  ((0 : Nat) = 0),
  (false = false),
  ((0 : Nat) = 0),
  (((nb) : Nat) = (nb)),
  (∀ i_1 : Nat, ((((i_1) : Nat) < (nb)) → (([.int .i64 ((g i_1).fst), .int .i64 ((g i_1).snd.fst), .int .i64 ((g i_1).snd.snd.fst), .int .i64 ((g i_1).snd.snd.snd.fst)] : List PV) = [.int .i64 ((g i_1).fst), .int .i64 ((g i_1).snd.fst), .int .i64 ((g i_1).snd.snd.fst), .int .i64 ((g i_1).snd.snd.snd.fst)]))),
  ((((↑nb : Int)) : Int) = ((↑nb : Int))),
  ((((↑i : Int) + 1) : Int) = ((↑(i + 1) : Int))),
  ((2 : Nat) = 2),
  ((1 : Nat) ≤ 1),
  ((1 : Nat) ≤ 1),
  (((N) : Int) = (N)),
  (((nb) : Nat) = (nb)),
  (∀ i_1 : Nat, ((((i_1) : Nat) < (nb)) → (([.int .i64 ((g i_1).fst), .int .i64 ((g i_1).snd.fst), .int .i64 ((g i_1).snd.snd.fst), .int .i64 ((g i_1).snd.snd.snd.fst)] : List PV) = [.int .i64 ((g i_1).fst), .int .i64 ((g i_1).snd.fst), .int .i64 ((g i_1).snd.snd.fst), .int .i64 ((g i_1).snd.snd.snd.fst)]))),
  ((2 : Nat) = 2),
  ((1 : Nat) ≤ 1),
  ((1 : Nat) ≤ 1),
  ((0 : Int) = 0),
  ((2 : Nat) = 2),
  ((1 : Nat) ≤ 1),
  ((1 : Nat) ≤ 1),
  (((4 * N) : Int) = (4 * N)),
  ((0 : Nat) = 0),
  (((n) : Nat) = (n)),
  ((2 : Nat) = 2),
  (((n) : Nat) ≤ (n)),
  (∀ i_1 : Nat, ((((i_1) : Nat) < (n)) → (All [] ∧ (([.p (.int .i64 ((h i_1).fst)), .p (.int .i64 ((h i_1).snd.fst))] : List AV) = [.p (.int .i64 ((h i_1).fst)), .p (.int .i64 ((h i_1).snd.fst))]))))]) := by kernel_rfl
theorem uI2e (g : Nat → T_GainBar) (nb : Nat) (N : Int) (i n : Nat) (h : Nat → T_Bar) (y x : Nat) :
    pieceOb Try.prog 0 [.reg [oT], .dec false, .reg [oT, oT], .head] [.code (cAt (bodyOf Try.f24) [1, 1, 1, 0, 1, 0, 0, 1, 1, 0, 0, 1, 1, 0, 0, 1, 1, 0, 0, 1, 1, 0, 0]), .inLoop (cAt (bodyOf Try.f24) [1, 1, 1, 0, 1, 0, 0, 1, 1, 0, 0, 1, 1, 0, 0, 1, 1, 0, 0, 1, 1, 0, 0]), .inBlock 4, .inBlock 3, .code (cAt (bodyOf Try.f24) [1, 1, 1, 0, 1, 0, 0, 1, 1, 0, 0, 1, 1, 0, 0, 1, 1, 1]), .inLoop (cAt (bodyOf Try.f24) [1, 1, 1, 0, 1, 0, 0, 1, 1, 0, 0, 1, 1, 0, 0]), .inBlock 2, .inBlock 1, .code (cAt (bodyOf Try.f24) [1, 1, 1, 0, 1, 0, 0, 1, 1, 1]), .inLoop (cAt (bodyOf Try.f24) [1, 1, 1, 0, 1, 0, 0]), .inBlock 0, .code (cAt (bodyOf Try.f24) [1, 1, 1, 1])] (SU2 g nb N i n h y x) [0, 1, 2, 3, 4] 1 (SU1 g nb N i n h (y + 1)) =
    some ([.code (cAt (bodyOf Try.f24) [1, 1, 1, 0, 1, 0, 0, 1, 1, 0, 0, 1, 1, 0, 0]), .inLoop (cAt (bodyOf Try.f24) [1, 1, 1, 0, 1, 0, 0, 1, 1, 0, 0, 1, 1, 0, 0]), .inBlock 2, .inBlock 1, .code (cAt (bodyOf Try.f24) [1, 1, 1, 0, 1, 0, 0, 1, 1, 1]), .inLoop (cAt (bodyOf Try.f24) [1, 1, 1, 0, 1, 0, 0]), .inBlock 0, .code (cAt (bodyOf Try.f24) [1, 1, 1, 1])], [((decide ((↑x : Int) < 2)) = false),
  (((-9223372036854775808) : Int) ≤ ((↑y : Int) + 1)),
  ((((↑y : Int) + 1) : Int) ≤ 9223372036854775807),
  (((N) : Int) = (N)),
  (((nb) : Nat) = (nb)),
  (∀ i_1 : Nat, ((((i_1) : Nat) < (nb)) → (([.int .i64 ((g i_1).fst), .int .i64 ((g i_1).snd.fst), .int .i64 ((g i_1).snd.snd.fst), .int .i64 ((g i_1).snd.snd.snd.fst)] : List PV) = [.int .i64 ((g i_1).fst), .int .i64 ((g i_1).snd.fst), .int .i64 ((g i_1).snd.snd.fst), .int .i64 ((g i_1).snd.snd.snd.fst)]))),
  ((0 : Nat) = 0),
  ((0 : Nat) = 0),
  (false = false),
  ((0 : Nat) = 0),
  ((0 : Nat) = 0),
  (((nb) : Nat) = (nb)),
  (∀ i_1 : Nat, ((((i_1) : Nat) < (nb)) → (([.int .i64 ((g i_1).fst), .int .i64 ((g i_1).snd.fst), .int .i64 ((g i_1).snd.snd.fst), .int .i64 ((g i_1).snd.snd.snd.fst)] : List PV) = [.int .i64 ((g i_1).fst), .int .i64 ((g i_1).snd.fst), .int .i64 ((g i_1).snd.snd.fst), .int .i64 ((g i_1).snd.snd.snd.fst)]))),
  ((((↑nb : Int)) : Int) = ((↑nb : Int))),
  ((((↑i : Int)) : Int) = ((↑i : Int))),
  ((((↑y : Int) + 1) : Int) = ((↑(y + 1) : Int))),
  ((2 : Nat) = 2),
  ((1 : Nat) ≤ 1),
  ((1 : Nat) ≤ 1),
  (((N) : Int) = (N)),
  (((nb) : Nat) = (nb)),
  (∀ i_1 : Nat, ((((i_1) : Nat) < (nb)) → (([.int .i64 ((g i_1).fst), .int .i64 ((g i_1).snd.fst), .int .i64 ((g i_1).snd.snd.fst), .int .i64 ((g i_1).snd.snd.snd.fst)] : List PV) = [.int .i64 ((g i_1).fst), .int .i64 ((g i_1).snd.fst), .int .i64 ((g i_1).snd.snd.fst), .int .i64 ((g i_1).snd.snd.snd.fst)]))),
  ((2 : Nat) = 2),
  ((1 : Nat) ≤ 1),
  ((1 : Nat) ≤ 1),
  ((0 : Int) = 0),
  ((2 : Nat) = 2),
  ((1 : Nat) ≤ 1),
  ((1 : Nat) ≤ 1),
  (((4 * N) : Int) = (4 * N)),
  ((0 : Nat) = 0),
  (((n) : Nat) = (n)),
  ((2 : Nat) = 2),
  (((n) : Nat) ≤ (n)),
  (∀ i_1 : Nat, ((((i_1) : Nat) < (n)) → (All [] ∧ (([.p (.int .i64 ((h i_1).fst)), .p (.int .i64 ((h i_1).snd.fst))] : List AV) = [.p (.int .i64 ((h i_1).fst)), .p (.int .i64 ((h i_1).snd.fst))])))),
  ((4 : Nat) = 4),
  ((1 : Nat) ≤ 1),
  ((1 : Nat) ≤ 1),
  ((((g i).fst) : Int) = ((g i).fst)),
  ((((g i).snd.fst) : Int) = ((g i).snd.fst)),
  ((((g i).snd.snd.fst) : Int) = ((g i).snd.snd.fst)),
  ((((g i).snd.snd.snd.fst) : Int) = ((g i).snd.snd.snd.fst))]) := by kernel_rfl
theorem uI2f (g : Nat → T_GainBar) (nb : Nat) (N : Int) (i n : Nat) (h : Nat → T_Bar) (y x : Nat) :
    pieceOb Try.prog 0 [.reg [oT], .dec true, .reg [oT, oT], .reg [oT, oT, oT, oT, oT, oT, oT, oT, oT], .reg [oT, oT, oT, oT, oT, oT, oT, oT, oT, oT, oT, oT, oT, oT, oT, oT, oT], .reg [oT, oT, oT], .dec false, .reg [oT, oT], .head] [.code (cAt (bodyOf Try.f24) [1, 1, 1, 0, 1, 0, 0, 1, 1, 0, 0, 1, 1, 0, 0, 1, 1, 0, 0, 1, 1, 0, 0]), .inLoop (cAt (bodyOf Try.f24) [1, 1, 1, 0, 1, 0, 0, 1, 1, 0, 0, 1, 1, 0, 0, 1, 1, 0, 0, 1, 1, 0, 0]), .inBlock 4, .inBlock 3, .code (cAt (bodyOf Try.f24) [1, 1, 1, 0, 1, 0, 0, 1, 1, 0, 0, 1, 1, 0, 0, 1, 1, 1]), .inLoop (cAt (bodyOf Try.f24) [1, 1, 1, 0, 1, 0, 0, 1, 1, 0, 0, 1, 1, 0, 0]), .inBlock 2, .inBlock 1, .code (cAt (bodyOf Try.f24) [1, 1, 1, 0, 1, 0, 0, 1, 1, 1]), .inLoop (cAt (bodyOf Try.f24) [1, 1, 1, 0, 1, 0, 0]), .inBlock 0, .code (cAt (bodyOf Try.f24) [1, 1, 1, 1])] (SU2 g nb N i n h y x) [0, 1, 2, 3, 4] 1 (SU2 g nb N i n h y (x + 1)) =
    some ([.code (cAt (bodyOf Try.f24) [1, 1, 1, 0, 1, 0, 0, 1, 1, 0, 0, 1, 1, 0, 0, 1, 1, 0, 0, 1, 1, 0, 0]), .inLoop (cAt (bodyOf Try.f24) [1, 1, 1, 0, 1, 0, 0, 1, 1, 0, 0, 1, 1, 0, 0, 1, 1, 0, 0, 1, 1, 0, 0]), .inBlock 4, .inBlock 3, .code (cAt (bodyOf Try.f24) [1, 1, 1, 0, 1, 0, 0, 1, 1, 0, 0, 1, 1, 0, 0, 1, 1, 1]), .inLoop (cAt (bodyOf Try.f24) [1, 1, 1, 0, 1, 0, 0, 1, 1, 0, 0, 1, 1, 0, 0]), .inBlock 2, .inBlock 1, .code (cAt (bodyOf Try.f24) [1, 1, 1, 0, 1, 0, 0, 1, 1, 1]), .inLoop (cAt (bodyOf Try.f24) [1, 1, 1, 0, 1, 0, 0]), .inBlock 0, .code (cAt (bodyOf Try.f24) [1, 1, 1, 1])], [((decide ((↑x : Int) < 2)) = true),
  ((0 : Nat) < 1),
  (((-9223372036854775808) : Int) ≤ (4 * (g i).fst)),
  (((4 * (g i).fst) : Int) ≤ 9223372036854775807),
  (((-9223372036854775808) : Int) ≤ (2 * (↑y : Int))),
  (((2 * (↑y : Int)) : Int) ≤ 9223372036854775807),
  (((-9223372036854775808) : Int) ≤ (4 * (g i).fst + 2 * (↑y : Int))),
  (((4 * (g i).fst + 2 * (↑y : Int)) : Int) ≤ 9223372036854775807),
  (((-9223372036854775808) : Int) ≤ (4 * (g i).fst + 2 * (↑y : Int) + (↑x : Int))),
  (((4 * (g i).fst + 2 * (↑y : Int) + (↑x : Int)) : Int) ≤ 9223372036854775807),
  ((0 : Nat) < 1),
  (((-9223372036854775808) : Int) ≤ (4 * (g i).snd.fst)),
  (((4 * (g i).snd.fst) : Int) ≤ 9223372036854775807),
  ((0 : Nat) < 1),
  (((-9223372036854775808) : Int) ≤ ((↑y : Int) + (g i).snd.snd.snd.fst)),
  ((((↑y : Int) + (g i).snd.snd.snd.fst) : Int) ≤ 9223372036854775807),
  (((-9223372036854775808) : Int) ≤ (2 * bitI BinOp.and IntKind.i64 ((↑y : Int) + (g i).snd.snd.snd.fst) 1)),
  (((2 * bitI BinOp.and IntKind.i64 ((↑y : Int) + (g i).snd.snd.snd.fst) 1) : Int) ≤ 9223372036854775807),
  (((-9223372036854775808) : Int) ≤ (4 * (g i).snd.fst + 2 * bitI BinOp.and IntKind.i64 ((↑y : Int) + (g i).snd.snd.snd.fst) 1)),
  (((4 * (g i).snd.fst + 2 * bitI BinOp.and IntKind.i64 ((↑y : Int) + (g i).snd.snd.snd.fst) 1) : Int) ≤ 9223372036854775807),
  ((0 : Nat) < 1),
  (((-9223372036854775808) : Int) ≤ ((↑x : Int) + (g i).snd.snd.fst)),
  ((((↑x : Int) + (g i).snd.snd.fst) : Int) ≤ 9223372036854775807),
  (((-9223372036854775808) : Int) ≤ (4 * (g i).snd.fst + 2 * bitI BinOp.and IntKind.i64 ((↑y : Int) + (g i).snd.snd.snd.fst) 1 + bitI BinOp.and IntKind.i64 ((↑x : Int) + (g i).snd.snd.fst) 1)),
  (((4 * (g i).snd.fst + 2 * bitI BinOp.and IntKind.i64 ((↑y : Int) + (g i).snd.snd.snd.fst) 1 + bitI BinOp.and IntKind.i64 ((↑x : Int) + (g i).snd.snd.fst) 1) : Int) ≤ 9223372036854775807),
  ((4 * (g i).fst + 2 * (↑y : Int) + (↑x : Int) != 4 * (g i).snd.fst + 2 * bitI BinOp.and IntKind.i64 ((↑y : Int) + (g i).snd.snd.snd.fst) 1 + bitI BinOp.and IntKind.i64 ((↑x : Int) + (g i).snd.snd.fst) 1) = false),
  (((-9223372036854775808) : Int) ≤ ((↑x : Int) + 1)),
  ((((↑x : Int) + 1) : Int) ≤ 9223372036854775807),
  (((N) : Int) = (N)),
  (((nb) : Nat) = (nb)),
  (∀ i_1 : Nat, ((((i_1) : Nat) < (nb)) → (([.int .i64 ((g i_1).fst), .int .i64 ((g i_1).snd.fst), .int .i64 ((g i_1).snd.snd.fst), .int .i64 ((g i_1).snd.snd.snd.fst)] : List PV) = [.int .i64 ((g i_1).fst), .int .i64 ((g i_1).snd.fst), .int .i64 ((g i_1).snd.snd.fst), .int .i64 ((g i_1).snd.snd.snd.fst)]))),
  ((0 : Nat) = 0),
  ((0 : Nat) = 0),
  (false = false),
  ((0 : Nat) = 0),
  ((0 : Nat) = 0),
  ((((↑y : Int)) : Int) = ((↑y : Int))),
  (((nb) : Nat) = (nb)),
  (∀ i_1 : Nat, ((((i_1) : Nat) < (nb)) → (([.int .i64 ((g i_1).fst), .int .i64 ((g i_1).snd.fst), .int .i64 ((g i_1).snd.snd.fst), .int .i64 ((g i_1).snd.snd.snd.fst)] : List PV) = [.int .i64 ((g i_1).fst), .int .i64 ((g i_1).snd.fst), .int .i64 ((g i_1).snd.snd.fst), .int .i64 ((g i_1).snd.snd.snd.fst)]))),
  ((((↑nb : Int)) : Int) = ((↑nb : Int))),
  ((((↑i : Int)) : Int) = ((↑i : Int))),
  ((((↑y : Int)) : Int) = ((↑y : Int))),
  ((((↑x : Int) + 1) : Int) = ((↑(x + 1) : Int))),
  ((2 : Nat) = 2),
  ((1 : Nat) ≤ 1),
  ((1 : Nat) ≤ 1),
  (((N) : Int) = (N)),
  (((nb) : Nat) = (nb)),
  (∀ i_1 : Nat, ((((i_1) : Nat) < (nb)) → (([.int .i64 ((g i_1).fst), .int .i64 ((g i_1).snd.fst), .int .i64 ((g i_1).snd.snd.fst), .int .i64 ((g i_1).snd.snd.snd.fst)] : List PV) = [.int .i64 ((g i_1).fst), .int .i64 ((g i_1).snd.fst), .int .i64 ((g i_1).snd.snd.fst), .int .i64 ((g i_1).snd.snd.snd.fst)]))),
  ((2 : Nat) = 2),
  ((1 : Nat) ≤ 1),
  ((1 : Nat) ≤ 1),
  ((0 : Int) = 0),
  ((2 : Nat) = 2),
  ((1 : Nat) ≤ 1),
  ((1 : Nat) ≤ 1),
  (((4 * N) : Int) = (4 * N)),
  ((0 : Nat) = 0),
  (((n) : Nat) = (n)),
  ((2 : Nat) = 2),
  (((n) : Nat) ≤ (n)),
  (∀ i_1 : Nat, ((((i_1) : Nat) < (n)) → (All [] ∧ (([.p (.int .i64 ((h i_1).fst)), .p (.int .i64 ((h i_1).snd.fst))] : List AV) = [.p (.int .i64 ((h i_1).fst)), .p (.int .i64 ((h i_1).snd.fst))])))),
  ((4 : Nat) = 4),
  ((1 : Nat) ≤ 1),
  ((1 : Nat) ≤ 1),
  ((((g i).fst) : Int) = ((g i).fst)),
  ((((g i).snd.fst) : Int) = ((g i).snd.fst)),
  ((((g i).snd.snd.fst) : Int) = ((g i).snd.snd.fst)),
  ((((g i).snd.snd.snd.fst) : Int) = ((g i).snd.snd.snd.fst))]) := by kernel_rfl
theorem uI2t (g : Nat → T_GainBar) (nb : Nat) (N : Int) (i n : Nat) (h : Nat → T_Bar) (y x : Nat) (e : T_Bar) (r : Nat → T_Bar) :
    pieceOb Try.prog 0 [.reg [oT], .dec true, .reg [oT, oT], .reg [oT, oT, oT, oT, oT, oT, oT, oT, oT], .reg [oT, oT, oT, oT, oT, oT, oT, oT, oT, oT, oT, oT, oT, oT, oT, oT, oT], .reg [oT, oT, oT], .dec true, .reg [oT, oT, oT, ⟨true, (some ⟨[], [], 1, [], .agg [.p (.int .i64 e.1), .p (.int .i64 e.2.1)]⟩), none⟩, oT, ⟨true, (some ⟨[], [], 1, [(0, brOb (n + 1) r)], .agg [.p (.int .i64 (4 * N)), .ar 2 0 0 (n + 1)]⟩), none⟩, oT], .reg [oT, oT], .head] [.code (cAt (bodyOf Try.f24) [1, 1, 1, 0, 1, 0, 0, 1, 1, 0, 0, 1, 1, 0, 0, 1, 1, 0, 0, 1, 1, 0, 0]), .inLoop (cAt (bodyOf Try.f24) [1, 1, 1, 0, 1, 0, 0, 1, 1, 0, 0, 1, 1, 0, 0, 1, 1, 0, 0, 1, 1, 0, 0]), .inBlock 4, .inBlock 3, .code (cAt (bodyOf Try.f24) [1, 1, 1, 0, 1, 0, 0, 1, 1, 0, 0, 1, 1, 0, 0, 1, 1, 1]), .inLoop (cAt (bodyOf Try.f24) [1, 1, 1, 0, 1, 0, 0, 1, 1, 0, 0, 1, 1, 0, 0]), .inBlock 2, .inBlock 1, .code (cAt (bodyOf Try.f24) [1, 1, 1, 0, 1, 0, 0, 1, 1, 1]), .inLoop (cAt (bodyOf Try.f24) [1, 1, 1, 0, 1, 0, 0]), .inBlock 0, .code (cAt (bodyOf Try.f24) [1, 1, 1, 1])] (SU2 g nb N i n h y x) [0, 1, 2, 1189, 4] 1 (SU2 g nb N i (n + 1) r y (x + 1)) =
    some ([.code (cAt (bodyOf Try.f24) [1, 1, 1, 0, 1, 0, 0, 1, 1, 0, 0, 1, 1, 0, 0, 1, 1, 0, 0, 1, 1, 0, 0]), .inLoop (cAt (bodyOf Try.f24) [1, 1, 1, 0, 1, 0, 0, 1, 1, 0, 0, 1, 1, 0, 0, 1, 1, 0, 0, 1, 1, 0, 0]), .inBlock 4, .inBlock 3, .code (cAt (bodyOf Try.f24) [1, 1, 1, 0, 1, 0, 0, 1, 1, 0, 0, 1, 1, 0, 0, 1, 1, 1]), .inLoop (cAt (bodyOf Try.f24) [1, 1, 1, 0, 1, 0, 0, 1, 1, 0, 0, 1, 1, 0, 0]), .inBlock 2, .inBlock 1, .code (cAt (bodyOf Try.f24) [1, 1, 1, 0, 1, 0, 0, 1, 1, 1]), .inLoop (cAt (bodyOf Try.f24) [1, 1, 1, 0, 1, 0, 0]), .inBlock 0, .code (cAt (bodyOf Try.f24) [1, 1, 1, 1])], [((decide ((↑x : Int) < 2)) = true),
  ((0 : Nat) < 1),
  (((-9223372036854775808) : Int) ≤ (4 * (g i).fst)),
  (((4 * (g i).fst) : Int) ≤ 9223372036854775807),
  (((-9223372036854775808) : Int) ≤ (2 * (↑y : Int))),
  (((2 * (↑y : Int)) : Int) ≤ 9223372036854775807),
  (((-9223372036854775808) : Int) ≤ (4 * (g i).fst + 2 * (↑y : Int))),
  (((4 * (g i).fst + 2 * (↑y : Int)) : Int) ≤ 9223372036854775807),
  (((-9223372036854775808) : Int) ≤ (4 * (g i).fst + 2 * (↑y : Int) + (↑x : Int))),
  (((4 * (g i).fst + 2 * (↑y : Int) + (↑x : Int)) : Int) ≤ 9223372036854775807),
  ((0 : Nat) < 1),
  (((-9223372036854775808) : Int) ≤ (4 * (g i).snd.fst)),
  (((4 * (g i).snd.fst) : Int) ≤ 9223372036854775807),
  ((0 : Nat) < 1),
  (((-9223372036854775808) : Int) ≤ ((↑y : Int) + (g i).snd.snd.snd.fst)),
  ((((↑y : Int) + (g i).snd.snd.snd.fst) : Int) ≤ 9223372036854775807),
  (((-9223372036854775808) : Int) ≤ (2 * bitI BinOp.and IntKind.i64 ((↑y : Int) + (g i).snd.snd.snd.fst) 1)),
  (((2 * bitI BinOp.and IntKind.i64 ((↑y : Int) + (g i).snd.snd.snd.fst) 1) : Int) ≤ 9223372036854775807),
  (((-9223372036854775808) : Int) ≤ (4 * (g i).snd.fst + 2 * bitI BinOp.and IntKind.i64 ((↑y : Int) + (g i).snd.snd.snd.fst) 1)),
  (((4 * (g i).snd.fst + 2 * bitI BinOp.and IntKind.i64 ((↑y : Int) + (g i).snd.snd.snd.fst) 1) : Int) ≤ 9223372036854775807),
  ((0 : Nat) < 1),
  (((-9223372036854775808) : Int) ≤ ((↑x : Int) + (g i).snd.snd.fst)),
  ((((↑x : Int) + (g i).snd.snd.fst) : Int) ≤ 9223372036854775807),
  (((-9223372036854775808) : Int) ≤ (4 * (g i).snd.fst + 2 * bitI BinOp.and IntKind.i64 ((↑y : Int) + (g i).snd.snd.snd.fst) 1 + bitI BinOp.and IntKind.i64 ((↑x : Int) + (g i).snd.snd.fst) 1)),
  (((4 * (g i).snd.fst + 2 * bitI BinOp.and IntKind.i64 ((↑y : Int) + (g i).snd.snd.snd.fst) 1 + bitI BinOp.and IntKind.i64 ((↑x : Int) + (g i).snd.snd.fst) 1) : Int) ≤ 9223372036854775807),
  ((4 * (g i).fst + 2 * (↑y : Int) + (↑x : Int) != 4 * (g i).snd.fst + 2 * bitI BinOp.and IntKind.i64 ((↑y : Int) + (g i).snd.snd.snd.fst) 1 + bitI BinOp.and IntKind.i64 ((↑x : Int) + (g i).snd.snd.fst) 1) = true),
  ((0 : Nat) < 1),
  Con (Try.prog) 61 0 [] [.p (.int .i64 (4 * (g i).fst + 2 * (↑y : Int) + (↑x : Int))), .p (.int .i64 (4 * (g i).snd.fst + 2 * bitI BinOp.and IntKind.i64 ((↑y : Int) + (g i).snd.snd.snd.fst) 1 + bitI BinOp.and IntKind.i64 ((↑x : Int) + (g i).snd.snd.fst) 1))] [] (.agg [.p (.int .i64 (e.fst)), .p (.int .i64 (e.snd.fst))]),
  ((2 : Nat) = 2),
  (((n) : Nat) ≤ (n)),
  ((2 : Nat) = 2),
  ((1 : Nat) ≤ 1),
  Con (Try.prog) 70 0 [] [.agg [.p (.int .i64 (4 * N)), .p (.seq true 2 (n) (fun i_1 => [.int .i64 ((h i_1).fst), .int .i64 ((h i_1).snd.fst)]))], .p (.seq true 2 1 (fun i_1 => [.int .i64 (e.fst), .int .i64 (e.snd.fst)]))] [(0, ⟨false, 2, (n + 1), (fun i_1 => [.p (.int .i64 ((r i_1).fst)), .p (.int .i64 ((r i_1).snd.fst))])⟩)] (.agg [.p (.int .i64 (4 * N)), .ar 2 0 0 (n + 1)]),
  ((0 : Nat) < 1),
  (((true) = true) → ((1 : Nat) = 1)),
  (((-9223372036854775808) : Int) ≤ ((↑x : Int) + 1)),
  ((((↑x : Int) + 1) : Int) ≤ 9223372036854775807),
  (((N) : Int) = (N)),
  (((nb) : Nat) = (nb)),
  (∀ i_1 : Nat, ((((i_1) : Nat) < (nb)) → (([.int .i64 ((g i_1).fst), .int .i64 ((g i_1).snd.fst), .int .i64 ((g i_1).snd.snd.fst), .int .i64 ((g i_1).snd.snd.snd.fst)] : List PV) = [.int .i64 ((g i_1).fst), .int .i64 ((g i_1).snd.fst), .int .i64 ((g i_1).snd.snd.fst), .int .i64 ((g i_1).snd.snd.snd.fst)]))),
  ((0 : Nat) = 0),
  ((0 : Nat) = 0),
  (false = false),
  ((0 : Nat) = 0),
  ((0 : Nat) = 0),
  ((((↑y : Int)) : Int) = ((↑y : Int))),
  (((nb) : Nat) = (nb)),
  (∀ i_1 : Nat, ((((i_1) : Nat) < (nb)) → (([.int .i64 ((g i_1).fst), .int .i64 ((g i_1).snd.fst), .int .i64 ((g i_1).snd.snd.fst), .int .i64 ((g i_1).snd.snd.snd.fst)] : List PV) = [.int .i64 ((g i_1).fst), .int .i64 ((g i_1).snd.fst), .int .i64 ((g i_1).snd.snd.fst), .int .i64 ((g i_1).snd.snd.snd.fst)]))),
  ((((↑nb : Int)) : Int) = ((↑nb : Int))),
  ((((↑i : Int)) : Int) = ((↑i : Int))),
  ((((↑y : Int)) : Int) = ((↑y : Int))),
  ((((↑x : Int) + 1) : Int) = ((↑(x + 1) : Int))),
  ((2 : Nat) = 2),
  ((1 : Nat) ≤ 1),
  ((1 : Nat) ≤ 1),
  (((N) : Int) = (N)),
  (((nb) : Nat) = (nb)),
  (∀ i_1 : Nat, ((((i_1) : Nat) < (nb)) → (([.int .i64 ((g i_1).fst), .int .i64 ((g i_1).snd.fst), .int .i64 ((g i_1).snd.snd.fst), .int .i64 ((g i_1).snd.snd.snd.fst)] : List PV) = [.int .i64 ((g i_1).fst), .int .i64 ((g i_1).snd.fst), .int .i64 ((g i_1).snd.snd.fst), .int .i64 ((g i_1).snd.snd.snd.fst)]))),
  ((2 : Nat) = 2),
  ((1 : Nat) ≤ 1),
  ((1 : Nat) ≤ 1),
  ((0 : Int) = 0),
  ((2 : Nat) = 2),
  ((1 : Nat) ≤ 1),
  ((1 : Nat) ≤ 1),
  (((4 * N) : Int) = (4 * N)),
  ((0 : Nat) = 0),
  (((n + 1) : Nat) = (n + 1)),
  ((2 : Nat) = 2),
  (((n + 1) : Nat) ≤ (n + 1)),
  (∀ i_1 : Nat, ((((i_1) : Nat) < (n + 1)) → (All [] ∧ (([.p (.int .i64 ((r i_1).fst)), .p (.int .i64 ((r i_1).snd.fst))] : List AV) = [.p (.int .i64 ((r i_1).fst)), .p (.int .i64 ((r i_1).snd.fst))])))),
  ((4 : Nat) = 4),
  ((1 : Nat) ≤ 1),
  ((1 : Nat) ≤ 1),
  ((((g i).fst) : Int) = ((g i).fst)),
  ((((g i).snd.fst) : Int) = ((g i).snd.fst)),
  ((((g i).snd.snd.fst) : Int) = ((g i).snd.snd.fst)),
  ((((g i).snd.snd.snd.fst) : Int) = ((g i).snd.snd.snd.fst))]) := by kernel_rfl
theorem uSy (g : Nat → T_GainBar) (nb : Nat) (N : Int) (b1 : Bool) :
    pathOb Try.prog Try.f22 0 [.reg [oT, oT, oT], .reg [oT, oT, oF, oT, oT, oT, oT], .reg [oT, ⟨true, (some ⟨[], [], 1, [], .p (.bool b1)⟩), none⟩, oT, oT, oT, oT, oT, oT, oT, oT, oT, oT, oT, oT, oT, oT], .dec true, .reg [oT, oT, oT]] [.code (bodyOf Try.f22)] (start Try.f22 [] 0 [uA g nb N]) [] 1 [(0, brOb 0 (fun _ => (0, 0, ())))] (.tup [.agg [.p (.int .i64 0), .ar 2 0 0 0], .p (.bool false)]) =
    some [((0 : Nat) < 1),
  ((0 : Nat) < 1),
  (((true) = true) → ((1 : Nat) = 1)),
  ((0 : Nat) < 1),
  Con (Try.prog) 67 0 [] [.agg [.p (.int .i64 (N)), .p (.seq true 4 (nb) (fun i => [.int .i64 ((g i).fst), .int .i64 ((g i).snd.fst), .int .i64 ((g i).snd.snd.fst), .int .i64 ((g i).snd.snd.snd.fst)]))]] [] (.p (.bool (b1))),
  (((!!b1) = true) → ((!!b1) = true)),
  (((!!b1) = true) → ((0 : Nat) < 1)),
  (((!!b1) = true) → ((!!b1) = true)),
  (((!!b1) = true) → (((-9223372036854775808) : Int) ≤ (4 * N))),
  (((!!b1) = true) → (((4 * N) : Int) ≤ 9223372036854775807)),
  (((!!b1) = true) → ((!!b1) = true)),
  (((!b1) = false) → ((!!b1) = true)),
  (((!bif !b1 then true else decide (4 * N > 8)) = true) → ((!bif !b1 then true else decide (4 * N > 8)) = true)),
  (((!bif !b1 then true else decide (4 * N > 8)) = true) → ((0 : Nat) < 1)),
  (((!bif !b1 then true else decide (4 * N > 8)) = true) → ((!bif !b1 then true else decide (4 * N > 8)) = true)),
  (((!bif !b1 then true else decide (4 * N > 8)) = true) → ((!bif !b1 then true else decide (4 * N > 8)) = true)),
  (((!bif !b1 then true else decide (4 * N > 8)) = true) → (((-9223372036854775808) : Int) ≤ (4 * (↑nb : Int)))),
  (((!bif !b1 then true else decide (4 * N > 8)) = true) → (((4 * (↑nb : Int)) : Int) ≤ 9223372036854775807)),
  (((!bif !b1 then true else decide (4 * N > 8)) = true) → ((!bif !b1 then true else decide (4 * N > 8)) = true)),
  (((bif !b1 then true else decide (4 * N > 8)) = false) → ((!bif !b1 then true else decide (4 * N > 8)) = true)),
  ((bif bif !b1 then true else decide (4 * N > 8) then true else decide (4 * (↑nb : Int) > 24)) = true),
  ((0 : Nat) < 1),
  (((true) = true) → ((1 : Nat) = 1)),
  ((0 : Nat) < 1),
  ((0 : Int) = 0),
  ((0 : Nat) = 0),
  (false = false),
  ((0 : Nat) = 0),
  (∀ i : Nat, ((((i) : Nat) < 0) → All []))] := by kernel_rfl
theorem uSz (g : Nat → T_GainBar) (nb : Nat) (N : Int) (b1 : Bool) :
    pieceOb Try.prog 0 [.reg [oT, oT, oT], .reg [oT, oT, oT, oT, oT, oT, oT], .reg [oT, ⟨true, (some ⟨[], [], 1, [], .p (.bool b1)⟩), none⟩, oT, oT, oT, oT, oT, oT, oT, oT, oT, oT, oT, oT, oT, oT], .dec false, .reg [oT], .head] [.code (bodyOf Try.f22)] (start Try.f22 [] 0 [uA g nb N]) [0, 32, 256, 192] 1 (SV0 g nb N 0 0 (fun _ => (0, 0, ()))) =
    some ([.code (cAt (bodyOf Try.f22) [1, 1, 1, 0, 1, 0, 0]), .inLoop (cAt (bodyOf Try.f22) [1, 1, 1, 0, 1, 0, 0]), .inBlock 0, .code (cAt (bodyOf Try.f22) [1, 1, 1, 1])], [((0 : Nat) < 1),
  (((-9223372036854775808) : Int) ≤ (4 * N)),
  (((4 * N) : Int) ≤ 9223372036854775807),
  ((0 : Nat) < 1),
  (((true) = true) → ((1 : Nat) = 1)),
  ((0 : Nat) < 1),
  Con (Try.prog) 67 0 [] [.agg [.p (.int .i64 (N)), .p (.seq true 4 (nb) (fun i => [.int .i64 ((g i).fst), .int .i64 ((g i).snd.fst), .int .i64 ((g i).snd.snd.fst), .int .i64 ((g i).snd.snd.snd.fst)]))]] [] (.p (.bool (b1))),
  (((!!b1) = true) → ((!!b1) = true)),
  (((!!b1) = true) → ((0 : Nat) < 1)),
  (((!!b1) = true) → ((!!b1) = true)),
  (((!!b1) = true) → (((-9223372036854775808) : Int) ≤ (4 * N))),
  (((!!b1) = true) → (((4 * N) : Int) ≤ 9223372036854775807)),
  (((!!b1) = true) → ((!!b1) = true)),
  (((!b1) = false) → ((!!b1) = true)),
  (((!bif !b1 then true else decide (4 * N > 8)) = true) → ((!bif !b1 then true else decide (4 * N > 8)) = true)),
  (((!bif !b1 then true else decide (4 * N > 8)) = true) → ((0 : Nat) < 1)),
  (((!bif !b1 then true else decide (4 * N > 8)) = true) → ((!bif !b1 then true else decide (4 * N > 8)) = true)),
  (((!bif !b1 then true else decide (4 * N > 8)) = true) → ((!bif !b1 then true else decide (4 * N > 8)) = true)),
  (((!bif !b1 then true else decide (4 * N > 8)) = true) → (((-9223372036854775808) : Int) ≤ (4 * (↑nb : Int)))),
  (((!bif !b1 then true else decide (4 * N > 8)) = true) → (((4 * (↑nb : Int)) : Int) ≤ 9223372036854775807)),
  (((!bif !b1 then true else decide (4 * N > 8)) = true) → ((!bif !b1 then true else decide (4 * N > 8)) = true)),
  (((bif !b1 then true else decide (4 * N > 8)) = false) → ((!bif !b1 then true else decide (4 * N > 8)) = true)),
  ((bif bif !b1 then true else decide (4 * N > 8) then true else decide (4 * (↑nb : Int) > 24)) = false),
  (((N) : Int) = (N)),
  (((nb) : Nat) = (nb)),
  (∀ i : Nat, ((((i) : Nat) < (nb)) → (([.int .i64 ((g i).fst), .int .i64 ((g i).snd.fst), .int .i64 ((g i).snd.snd.fst), .int .i64 ((g i).snd.snd.snd.fst)] : List PV) = [.int .i64 ((g i).fst), .int .i64 ((g i).snd.fst), .int .i64 ((g i).snd.snd.fst), .int .i64 ((g i).snd.snd.snd.fst)]))),
  ((0 : Nat) = 0),
  ((0 : Nat) = 0),
  (false = false),
  ((0 : Nat) = 0),
  ((0 : Int) = ((↑0 : Int))),
  ((([AV.p (PV.int IntKind.i64 N), uL g nb].length) : Nat) = 2),
  ((1 : Nat) ≤ 1),
  ((1 : Nat) ≤ 1),
  (((N) : Int) = (N)),
  (((nb) : Nat) = (nb)),
  (∀ i : Nat, ((((i) : Nat) < (nb)) → (([.int .i64 ((g i).fst), .int .i64 ((g i).snd.fst), .int .i64 ((g i).snd.snd.fst), .int .i64 ((g i).snd.snd.snd.fst)] : List PV) = [.int .i64 ((g i).fst), .int .i64 ((g i).snd.fst), .int .i64 ((g i).snd.snd.fst), .int .i64 ((g i).snd.snd.snd.fst)]))),
  ((((List.map (fun v => AV.p (absV v)) [Value.int IntKind.i64 0, Value.slice none 0 0]).length) : Nat) = 2),
  ((1 : Nat) ≤ 1),
  ((1 : Nat) ≤ 1),
  ((0 : Int) = 0),
  ((((List.map (fun v => AV.p (absV v)) [Value.int IntKind.i64 0, Value.slice none 0 0]).length) : Nat) = 2),
  ((1 : Nat) ≤ 1),
  ((1 : Nat) ≤ 1),
  (((4 * N) : Int) = (4 * N)),
  ((0 : Nat) = 0),
  ((0 : Nat) = 0),
  ((2 : Nat) = 2),
  ((0 : Nat) ≤ 0),
  (∀ i : Nat, ((((i) : Nat) < 0) → (All [] ∧ (([.p .any, .p .any] : List AV) = [.p (.int .i64 0), .p (.int .i64 0)]))))]) := by kernel_rfl
theorem uS0 (g : Nat → T_GainBar) (nb : Nat) (N : Int) (k n : Nat) (h : Nat → T_Bar) :
    pieceOb Try.prog 0 [.reg [oT, oT], .dec true, .reg [oT], .head] [.code (cAt (bodyOf Try.f22) [1, 1, 1, 0, 1, 0, 0]), .inLoop (cAt (bodyOf Try.f22) [1, 1, 1, 0, 1, 0, 0]), .inBlock 0, .code (cAt (bodyOf Try.f22) [1, 1, 1, 1])] (SV0 g nb N k n h) [0, 1, 2, 3] 1 (SV1 g nb N k 0 n h) =
    some ([.code (cAt (bodyOf Try.f22) [1, 1, 1, 0, 1, 0, 0, 1, 0, 0, 1, 0, 0]), .inLoop (cAt (bodyOf Try.f22) [1, 1, 1, 0, 1, 0, 0, 1, 0, 0, 1, 0, 0]), .inBlock 2, .inBlock 1, .code (cAt (bodyOf Try.f22) [1, 1, 1, 0, 1, 0, 0, 1, 1]), .inLoop (cAt (bodyOf Try.f22) [1, 1, 1, 0, 1, 0, 0]), .inBlock 0, .code (cAt (bodyOf Try.f22) [1, 1, 1, 1])], [((decide ((↑k : Int) < 4)) = true),
  (((N) : Int) = (N)),
  (((nb) : Nat) = (nb)),
  (∀ i : Nat, ((((i) : Nat) < (nb)) → (([.int .i64 ((g i).fst), .int .i64 ((g i).snd.fst), .int .i64 ((g i).snd.snd.fst), .int .i64 ((g i).snd.snd.snd.fst)] : List PV) = [.int .i64 ((g i).fst), .int .i64 ((g i).snd.fst), .int .i64 ((g i).snd.snd.fst), .int .i64 ((g i).snd.snd.snd.fst)]))),
  ((0 : Nat) = 0),
  ((0 : Nat) = 0),
  (false = false),
  ((0 : Nat) = 0),
  ((((↑k : Int)) : Int) = ((↑k : Int))),
  ((0 : Int) = ((↑0 : Int))),
  ((2 : Nat) = 2),
  ((1 : Nat) ≤ 1),
  ((1 : Nat) ≤ 1),
  (((N) : Int) = (N)),
  (((nb) : Nat) = (nb)),
  (∀ i : Nat, ((((i) : Nat) < (nb)) → (([.int .i64 ((g i).fst), .int .i64 ((g i).snd.fst), .int .i64 ((g i).snd.snd.fst), .int .i64 ((g i).snd.snd.snd.fst)] : List PV) = [.int .i64 ((g i).fst), .int .i64 ((g i).snd.fst), .int .i64 ((g i).snd.snd.fst), .int .i64 ((g i).snd.snd.snd.fst)]))),
  ((2 : Nat) = 2),
  ((1 : Nat) ≤ 1),
  ((1 : Nat) ≤ 1),
  ((0 : Int) = 0),
  ((2 : Nat) = 2),
  ((1 : Nat) ≤ 1),
  ((1 : Nat) ≤ 1),
  (((4 * N) : Int) = (4 * N)),
  ((0 : Nat) = 0),
  (((n) : Nat) = (n)),
  ((2 : Nat) = 2),
  (((n) : Nat) ≤ (n)),
  (∀ i : Nat, ((((i) : Nat) < (n)) → (All [] ∧ (([.p (.int .i64 ((h i).fst)), .p (.int .i64 ((h i).snd.fst))] : List AV) = [.p (.int .i64 ((h i).fst)), .p (.int .i64 ((h i).snd.fst))]))))]) := by kernel_rfl
theorem uSe (g : Nat → T_GainBar) (nb : Nat) (N : Int) (k n : Nat) (h r : Nat → T_Bar) :
    pathOb Try.prog Try.f22 0 [.reg [oT, oT], .dec false, .reg [oT, oT, oT]] [.code (cAt (bodyOf Try.f22) [1, 1, 1, 0, 1, 0, 0]), .inLoop (cAt (bodyOf Try.f22) [1, 1, 1, 0, 1, 0, 0]), .inBlock 0, .code (cAt (bodyOf Try.f22) [1, 1, 1, 1])] (SV0 g nb N k n h) [3] 1 [(0, brOb n r)] (.tup [.agg [.p (.int .i64 (4 * N)), .ar 2 0 0 n], .p (.bool true)]) =
    some [((decide ((↑k : Int) < 4)) = false),
  ((0 : Nat) < 1),
  ((0 : Nat) < 1),
  (((true) = true) → ((1 : Nat) = 1)),
  ((0 : Nat) < 1),
  (((4 * N) : Int) = (4 * N)),
  ((0 : Nat) = 0),
  (((n) : Nat) = (n)),
  (true = true),
  ((2 : Nat) = 2),
  (((n) : Nat) ≤ (n)),
  (∀ i : Nat, ((((i) : Nat) < (n)) → (All [] ∧ (([.p (.int .i64 ((h i).fst)), .p (.int .i64 ((h i).snd.fst))] : List AV) = [.p (.int .i64 ((r i).fst)), .p (.int .i64 ((r i).snd.fst))])))),
  (∀ i : Nat, ((((i) : Nat) < (n)) → All []))] := by kernel_rfl
theorem uS1e (g : Nat → T_GainBar) (nb : Nat) (N : Int) (k i n : Nat) (h : Nat → T_Bar) :
    pieceOb Try.prog 0 [.reg [oT, oT, oT, oT, oT], .dec false, .reg [oT, oT, oT], .head] [.code (cAt (bodyOf Try.f22) [1, 1, 1, 0, 1, 0, 0, 1, 0, 0, 1, 0, 0]), .inLoop (cAt (bodyOf Try.f22) [1, 1, 1, 0, 1, 0, 0, 1, 0, 0, 1, 0, 0]), .inBlock 2, .inBlock 1, .code (cAt (bodyOf Try.f22) [1, 1, 1, 0, 1, 0, 0, 1, 1]), .inLoop (cAt (bodyOf Try.f22) [1, 1, 1, 0, 1, 0, 0]), .inBlock 0, .code (cAt (bodyOf Try.f22) [1, 1, 1, 1])] (SV1 g nb N k i n h) [0, 1, 2, 3] 1 (SV0 g nb N (k + 1) n h) =
    some ([.code (cAt (bodyOf Try.f22) [1, 1, 1, 0, 1, 0, 0]), .inLoop (cAt (bodyOf Try.f22) [1, 1, 1, 0, 1, 0, 0]), .inBlock 0, .code (cAt (bodyOf Try.f22) [1, 1, 1, 1])], [((0 : Nat) < 1),
  ((decide ((↑i : Int) < (↑nb : Int))) = false),
  (((-9223372036854775808) : Int) ≤ ((↑k : Int) + 1)),
  ((((↑k : Int) + 1) : Int) ≤ 9223372036854775807),
  (((N) : Int) = (N)),
  (((nb) : Nat) = (nb)),
  (∀ i_1 : Nat, ((((i_1) : Nat) < (nb)) → (([.int .i64 ((g i_1).fst), .int .i64 ((g i_1).snd.fst), .int .i64 ((g i_1).snd.snd.fst), .int .i64 ((g i_1).snd.snd.snd.fst)] : List PV) = [.int .i64 ((g i_1).fst), .int .i64 ((g i_1).snd.fst), .int .i64 ((g i_1).snd.snd.fst), .int .i64 ((g i_1).snd.snd.snd.fst)]))),
  ((0 : Nat) = 0),
  ((0 : Nat) = 0),
  (false = false),
  ((0 : Nat) = 0),
  ((((↑k : Int) + 1) : Int) = ((↑(k + 1) : Int))),
  ((2 : Nat) = 2),
  ((1 : Nat) ≤ 1),
  ((1 : Nat) ≤ 1),
  (((N) : Int) = (N)),
  (((nb) : Nat) = (nb)),
  (∀ i_1 : Nat, ((((i_1) : Nat) < (nb)) → (([.int .i64 ((g i_1).fst), .int .i64 ((g i_1).snd.fst), .int .i64 ((g i_1).snd.snd.fst), .int .i64 ((g i_1).snd.snd.snd.fst)] : List PV) = [.int .i64 ((g i_1).fst), .int .i64 ((g i_1).snd.fst), .int .i64 ((g i_1).snd.snd.fst), .int .i64 ((g i_1).snd.snd.snd.fst)]))),
  ((2 : Nat) = 2),
  ((1 : Nat) ≤ 1),
  ((1 : Nat) ≤ 1),
  ((0 : Int) = 0),
  ((2 : Nat) = 2),
  ((1 : Nat) ≤ 1),
  ((1 : Nat) ≤ 1),
  (((4 * N) : Int) = (4 * N)),
  ((0 : Nat) = 0),
  (((n) : Nat) = (n)),
  ((2 : Nat) = 2),
  (((n) : Nat) ≤ (n)),
  (∀ i_1 : Nat, ((((i_1) : Nat) < (n)) → (All [] ∧ (([.p (.int .i64 ((h i_1).fst)), .p (.int .i64 ((h i_1).snd.fst))] : List AV) = [.p (.int .i64 ((h i_1).fst)), .p (.int .i64 ((h i_1).snd.fst))]))))]) := by kernel_rfl
theorem uS1f (g : Nat → T_GainBar) (nb : Nat) (N : Int) (k i n : Nat) (h : Nat → T_Bar) :
    pieceOb Try.prog 0 [.reg [oT, oT, oT, oT, oT], .dec true, .reg [oT, oT, oT, oT, oT, oT, oT], .reg [oT, oT, oT, oT, oT, oT, oT, oT], .reg [oT, oT, oT, oT, oT, oT, oT, oT], .reg [oT, oT, oT, oT, oT, oT], .reg [oT, oT, oT, oT, oT, oT, oT, oT, oT], .reg [oT, oT, oT], .dec false, .reg [oT, oT, oT], .head] [.code (cAt (bodyOf Try.f22) [1, 1, 1, 0, 1, 0, 0, 1, 0, 0, 1, 0, 0]), .inLoop (cAt (bodyOf Try.f22) [1, 1, 1, 0, 1, 0, 0, 1, 0, 0, 1, 0, 0]), .inBlock 2, .inBlock 1, .code (cAt (bodyOf Try.f22) [1, 1, 1, 0, 1, 0, 0, 1, 1]), .inLoop (cAt (bodyOf Try.f22) [1, 1, 1, 0, 1, 0, 0]), .inBlock 0, .code (cAt (bodyOf Try.f22) [1, 1, 1, 1])] (SV1 g nb N k i n h) [0, 1, 2, 3] 1 (SV1 g nb N k (i + 1) n h) =
    some ([.code (cAt (bodyOf Try.f22) [1, 1, 1, 0, 1, 0, 0, 1, 0, 0, 1, 0, 0]), .inLoop (cAt (bodyOf Try.f22) [1, 1, 1, 0, 1, 0, 0, 1, 0, 0, 1, 0, 0]), .inBlock 2, .inBlock 1, .code (cAt (bodyOf Try.f22) [1, 1, 1, 0, 1, 0, 0, 1, 1]), .inLoop (cAt (bodyOf Try.f22) [1, 1, 1, 0, 1, 0, 0]), .inBlock 0, .code (cAt (bodyOf Try.f22) [1, 1, 1, 1])], [((0 : Nat) < 1),
  ((decide ((↑i : Int) < (↑nb : Int))) = true),
  ((0 : Nat) < 1),
  ((0 : Int) ≤ ((↑i : Int))),
  ((((↑i : Int)) : Int) < ((↑nb : Int))),
  ((0 : Nat) < 1),
  (((true) = true) → ((1 : Nat) = 1)),
  ((0 : Int) ≤ ((↑k : Int))),
  ((0 : Int) < 2),
  ((0 : Nat) < 1),
  (((-9223372036854775808) : Int) ≤ ((↑k : Int) % 2 + (g i).snd.snd.fst)),
  ((((↑k : Int) % 2 + (g i).snd.snd.fst) : Int) ≤ 9223372036854775807),
  (((-9223372036854775808) : Int) ≤ ((↑k : Int) % 2 + (g i).snd.snd.fst + 10)),
  ((((↑k : Int) % 2 + (g i).snd.snd.fst + 10) : Int) ≤ 9223372036854775807),
  ((0 : Int) ≤ ((↑k : Int) % 2 + (g i).snd.snd.fst + 10)),
  ((0 : Int) < 2),
  ((0 : Int) ≤ ((↑k : Int))),
  ((0 : Int) < 2),
  ((((↑k : Int) / 2) : Int) ≤ 9223372036854775807),
  ((0 : Nat) < 1),
  (((-9223372036854775808) : Int) ≤ ((↑k : Int) / 2 + (g i).snd.snd.snd.fst)),
  ((((↑k : Int) / 2 + (g i).snd.snd.snd.fst) : Int) ≤ 9223372036854775807),
  (((-9223372036854775808) : Int) ≤ ((↑k : Int) / 2 + (g i).snd.snd.snd.fst + 10)),
  ((((↑k : Int) / 2 + (g i).snd.snd.snd.fst + 10) : Int) ≤ 9223372036854775807),
  ((0 : Int) ≤ ((↑k : Int) / 2 + (g i).snd.snd.snd.fst + 10)),
  ((0 : Int) < 2),
  ((0 : Nat) < 1),
  (((-9223372036854775808) : Int) ≤ (4 * (g i).fst)),
  (((4 * (g i).fst) : Int) ≤ 9223372036854775807),
  (((-9223372036854775808) : Int) ≤ (4 * (g i).fst + (↑k : Int))),
  (((4 * (g i).fst + (↑k : Int)) : Int) ≤ 9223372036854775807),
  ((0 : Nat) < 1),
  (((-9223372036854775808) : Int) ≤ (4 * (g i).snd.fst)),
  (((4 * (g i).snd.fst) : Int) ≤ 9223372036854775807),
  (((-9223372036854775808) : Int) ≤ (2 * (((↑k : Int) / 2 + (g i).snd.snd.snd.fst + 10) % 2))),
  (((2 * (((↑k : Int) / 2 + (g i).snd.snd.snd.fst + 10) % 2)) : Int) ≤ 9223372036854775807),
  (((-9223372036854775808) : Int) ≤ (4 * (g i).snd.fst + 2 * (((↑k : Int) / 2 + (g i).snd.snd.snd.fst + 10) % 2))),
  (((4 * (g i).snd.fst + 2 * (((↑k : Int) / 2 + (g i).snd.snd.snd.fst + 10) % 2)) : Int) ≤ 9223372036854775807),
  (((-9223372036854775808) : Int) ≤ (4 * (g i).snd.fst + 2 * (((↑k : Int) / 2 + (g i).snd.snd.snd.fst + 10) % 2) + ((↑k : Int) % 2 + (g i).snd.snd.fst + 10) % 2)),
  (((4 * (g i).snd.fst + 2 * (((↑k : Int) / 2 + (g i).snd.snd.snd.fst + 10) % 2) + ((↑k : Int) % 2 + (g i).snd.snd.fst + 10) % 2) : Int) ≤ 9223372036854775807),
  ((4 * (g i).fst + (↑k : Int) != 4 * (g i).snd.fst + 2 * (((↑k : Int) / 2 + (g i).snd.snd.snd.fst + 10) % 2) + ((↑k : Int) % 2 + (g i).snd.snd.fst + 10) % 2) = false),
  (((-9223372036854775808) : Int) ≤ ((↑i : Int) + 1)),
  ((((↑i : Int) + 1) : Int) ≤ 9223372036854775807),
  (((N) : Int) = (N)),
  (((nb) : Nat) = (nb)),
  (∀ i_1 : Nat, ((((i_1) : Nat) < (nb)) → (([.int .i64 ((g i_1).fst), .int .i64 ((g i_1).snd.fst), .int .i64 ((g i_1).snd.snd.fst), .int .i64 ((g i_1).snd.snd.snd.fst)] : List PV) = [.int .i64 ((g i_1).fst), .int .i64 ((g i_1).snd.fst), .int .i64 ((g i_1).snd.snd.fst), .int .i64 ((g i_1).snd.snd.snd.fst)]))),
  ((0 : Nat) = 0),
  ((0 : Nat) = 0),
  (false = false),
  ((0 : Nat) = 0),
  ((((↑k : Int)) : Int) = ((↑k : Int))),
  ((((↑i : Int) + 1) : Int) = ((↑(i + 1) : Int))),
  ((2 : Nat) = 2),
  ((1 : Nat) ≤ 1),
  ((1 : Nat) ≤ 1),
  (((N) : Int) = (N)),
  (((nb) : Nat) = (nb)),
  (∀ i_1 : Nat, ((((i_1) : Nat) < (nb)) → (([.int .i64 ((g i_1).fst), .int .i64 ((g i_1).snd.fst), .int .i64 ((g i_1).snd.snd.fst), .int .i64 ((g i_1).snd.snd.snd.fst)] : List PV) = [.int .i64 ((g i_1).fst), .int .i64 ((g i_1).snd.fst), .int .i64 ((g i_1).snd.snd.fst), .int .i64 ((g i_1).snd.snd.snd.fst)]))),
  ((2 : Nat) = 2),
  ((1 : Nat) ≤ 1),
  ((1 : Nat) ≤ 1),
  ((0 : Int) = 0),
  ((2 : Nat) = 2),
  ((1 : Nat) ≤ 1),
  ((1 : Nat) ≤ 1),
  (((4 * N) : Int) = (4 * N)),
  ((0 : Nat) = 0),
  (((n) : Nat) = (n)),
  ((2 : Nat) = 2),
  (((n) : Nat) ≤ (n)),
  (∀ i_1 : Nat, ((((i_1) : Nat) < (n)) → (All [] ∧ (([.p (.int .i64 ((h i_1).fst)), .p (.int .i64 ((h i_1).snd.fst))] : List AV) = [.p (.int .i64 ((h i_1).fst)), .p (.int .i64 ((h i_1).snd.fst))]))))]) := by kernel_rfl
theorem uS1t (g : Nat → T_GainBar) (nb : Nat) (N : Int) (k i n : Nat) (h : Nat → T_Bar) (m : Nat) (r : Nat → T_Bar) :
    pieceOb Try.prog 0 [.reg [oT, oT, oT, oT, oT], .dec true, .reg [oT, oT, oT, oT, oT, oT, oT], .reg [oT, oT, oT, oT, oT, oT, oT, oT], .reg [oT, oT, oT, oT, oT, oT, oT, oT], .reg [oT, oT, oT, oT, oT, oT], .reg [oT, oT, oT, oT, oT, oT, oT, oT, oT], .reg [oT, oT, oT], .dec true, .reg [oT, oT, oT, oT, oT, oT, oT, oT, ⟨true, (some ⟨[], [], 1, [(0, brOb m r)], .agg [.p (.int .i64 (4 * N)), .ar 2 0 0 m]⟩), none⟩, oT], .reg [oT, oT, oT], .head] [.code (cAt (bodyOf Try.f22) [1, 1, 1, 0, 1, 0, 0, 1, 0, 0, 1, 0, 0]), .inLoop (cAt (bodyOf Try.f22) [1, 1, 1, 0, 1, 0, 0, 1, 0, 0, 1, 0, 0]), .inBlock 2, .inBlock 1, .code (cAt (bodyOf Try.f22) [1, 1, 1, 0, 1, 0, 0, 1, 1]), .inLoop (cAt (bodyOf Try.f22) [1, 1, 1, 0, 1, 0, 0]), .inBlock 0, .code (cAt (bodyOf Try.f22) [1, 1, 1, 1])] (SV1 g nb N k i n h) [0, 1, 2, 1732] 1 (SV1 g nb N k (i + 1) m r) =
    some ([.code (cAt (bodyOf Try.f22) [1, 1, 1, 0, 1, 0, 0, 1, 0, 0, 1, 0, 0]), .inLoop (cAt (bodyOf Try.f22) [1, 1, 1, 0, 1, 0, 0, 1, 0, 0, 1, 0, 0]), .inBlock 2, .inBlock 1, .code (cAt (bodyOf Try.f22) [1, 1, 1, 0, 1, 0, 0, 1, 1]), .inLoop (cAt (bodyOf Try.f22) [1, 1, 1, 0, 1, 0, 0]), .inBlock 0, .code (cAt (bodyOf Try.f22) [1, 1, 1, 1])], [((0 : Nat) < 1),
  ((decide ((↑i : Int) < (↑nb : Int))) = true),
  ((0 : Nat) < 1),
  ((0 : Int) ≤ ((↑i : Int))),
  ((((↑i : Int)) : Int) < ((↑nb : Int))),
  ((0 : Nat) < 1),
  (((true) = true) → ((1 : Nat) = 1)),
  ((0 : Int) ≤ ((↑k : Int))),
  ((0 : Int) < 2),
  ((0 : Nat) < 1),
  (((-9223372036854775808) : Int) ≤ ((↑k : Int) % 2 + (g i).snd.snd.fst)),
  ((((↑k : Int) % 2 + (g i).snd.snd.fst) : Int) ≤ 9223372036854775807),
  (((-9223372036854775808) : Int) ≤ ((↑k : Int) % 2 + (g i).snd.snd.fst + 10)),
  ((((↑k : Int) % 2 + (g i).snd.snd.fst + 10) : Int) ≤ 9223372036854775807),
  ((0 : Int) ≤ ((↑k : Int) % 2 + (g i).snd.snd.fst + 10)),
  ((0 : Int) < 2),
  ((0 : Int) ≤ ((↑k : Int))),
  ((0 : Int) < 2),
  ((((↑k : Int) / 2) : Int) ≤ 9223372036854775807),
  ((0 : Nat) < 1),
  (((-9223372036854775808) : Int) ≤ ((↑k : Int) / 2 + (g i).snd.snd.snd.fst)),
  ((((↑k : Int) / 2 + (g i).snd.snd.snd.fst) : Int) ≤ 9223372036854775807),
  (((-9223372036854775808) : Int) ≤ ((↑k : Int) / 2 + (g i).snd.snd.snd.fst + 10)),
  ((((↑k : Int) / 2 + (g i).snd.snd.snd.fst + 10) : Int) ≤ 9223372036854775807),
  ((0 : Int) ≤ ((↑k : Int) / 2 + (g i).snd.snd.snd.fst + 10)),
  ((0 : Int) < 2),
  ((0 : Nat) < 1),
  (((-9223372036854775808) : Int) ≤ (4 * (g i).fst)),
  (((4 * (g i).fst) : Int) ≤ 9223372036854775807),
  (((-9223372036854775808) : Int) ≤ (4 * (g i).fst + (↑k : Int))),
  (((4 * (g i).fst + (↑k : Int)) : Int) ≤ 9223372036854775807),
  ((0 : Nat) < 1),
  (((-9223372036854775808) : Int) ≤ (4 * (g i).snd.fst)),
  (((4 * (g i).snd.fst) : Int) ≤ 9223372036854775807),
  (((-9223372036854775808) : Int) ≤ (2 * (((↑k : Int) / 2 + (g i).snd.snd.snd.fst + 10) % 2))),
  (((2 * (((↑k : Int) / 2 + (g i).snd.snd.snd.fst + 10) % 2)) : Int) ≤ 9223372036854775807),
  (((-9223372036854775808) : Int) ≤ (4 * (g i).snd.fst + 2 * (((↑k : Int) / 2 + (g i).snd.snd.snd.fst + 10) % 2))),
  (((4 * (g i).snd.fst + 2 * (((↑k : Int) / 2 + (g i).snd.snd.snd.fst + 10) % 2)) : Int) ≤ 9223372036854775807),
  (((-9223372036854775808) : Int) ≤ (4 * (g i).snd.fst + 2 * (((↑k : Int) / 2 + (g i).snd.snd.snd.fst + 10) % 2) + ((↑k : Int) % 2 + (g i).snd.snd.fst + 10) % 2)),
  (((4 * (g i).snd.fst + 2 * (((↑k : Int) / 2 + (g i).snd.snd.snd.fst + 10) % 2) + ((↑k : Int) % 2 + (g i).snd.snd.fst + 10) % 2) : Int) ≤ 9223372036854775807),
  ((4 * (g i).fst + (↑k : Int) != 4 * (g i).snd.fst + 2 * (((↑k : Int) / 2 + (g i).snd.snd.snd.fst + 10) % 2) + ((↑k : Int) % 2 + (g i).snd.snd.fst + 10) % 2) = true),
  ((0 : Nat) < 1),
  ((2 : Nat) = 2),
  (((n) : Nat) ≤ (n)),
  Con (Try.prog) 58 0 [] [.agg [.p (.int .i64 (4 * N)), .p (.seq true 2 (n) (fun i_1 => [.int .i64 ((h i_1).fst), .int .i64 ((h i_1).snd.fst)]))], .agg [.p (.int .i64 (if false = true then if 4 * (g (↑i : Int).toNat).snd.fst + 2 * (((↑k : Int) / 2 + (g (↑i : Int).toNat).snd.snd.snd.fst + 10) % 2) + ((↑k : Int) % 2 + (g (↑i : Int).toNat).snd.snd.fst + 10) % 2 > 4 * (g (↑i : Int).toNat).fst + (↑k : Int) then 4 * (g i).snd.fst + 2 * (((↑k : Int) / 2 + (g i).snd.snd.snd.fst + 10) % 2) + ((↑k : Int) % 2 + (g i).snd.snd.fst + 10) % 2 else 4 * (g i).fst + (↑k : Int) else if 4 * (g (↑i : Int).toNat).snd.fst + 2 * (((↑k : Int) / 2 + (g (↑i : Int).toNat).snd.snd.snd.fst + 10) % 2) + ((↑k : Int) % 2 + (g (↑i : Int).toNat).snd.snd.fst + 10) % 2 < 4 * (g (↑i : Int).toNat).fst + (↑k : Int) then 4 * (g i).snd.fst + 2 * (((↑k : Int) / 2 + (g i).snd.snd.snd.fst + 10) % 2) + ((↑k : Int) % 2 + (g i).snd.snd.fst + 10) % 2 else 4 * (g i).fst + (↑k : Int))), .p (.int .i64 (if true = true then if 4 * (g (↑i : Int).toNat).snd.fst + 2 * (((↑k : Int) / 2 + (g (↑i : Int).toNat).snd.snd.snd.fst + 10) % 2) + ((↑k : Int) % 2 + (g (↑i : Int).toNat).snd.snd.fst + 10) % 2 > 4 * (g (↑i : Int).toNat).fst + (↑k : Int) then 4 * (g i).snd.fst + 2 * (((↑k : Int) / 2 + (g i).snd.snd.snd.fst + 10) % 2) + ((↑k : Int) % 2 + (g i).snd.snd.fst + 10) % 2 else 4 * (g i).fst + (↑k : Int) else if 4 * (g (↑i : Int).toNat).snd.fst + 2 * (((↑k : Int) / 2 + (g (↑i : Int).toNat).snd.snd.snd.fst + 10) % 2) + ((↑k : Int) % 2 + (g (↑i : Int).toNat).snd.snd.fst + 10) % 2 < 4 * (g (↑i : Int).toNat).fst + (↑k : Int) then 4 * (g i).snd.fst + 2 * (((↑k : Int) / 2 + (g i).snd.snd.snd.fst + 10) % 2) + ((↑k : Int) % 2 + (g i).snd.snd.fst + 10) % 2 else 4 * (g i).fst + (↑k : Int)))]] [(0, ⟨false, 2, (m), (fun i_1 => [.p (.int .i64 ((r i_1).fst)), .p (.int .i64 ((r i_1).snd.fst))])⟩)] (.agg [.p (.int .i64 (4 * N)), .ar 2 0 0 (m)]),
  ((0 : Nat) < 1),
  (((true) = true) → ((1 : Nat) = 1)),
  (((-9223372036854775808) : Int) ≤ ((↑i : Int) + 1)),
  ((((↑i : Int) + 1) : Int) ≤ 9223372036854775807),
  (((N) : Int) = (N)),
  (((nb) : Nat) = (nb)),
  (∀ i_1 : Nat, ((((i_1) : Nat) < (nb)) → (([.int .i64 ((g i_1).fst), .int .i64 ((g i_1).snd.fst), .int .i64 ((g i_1).snd.snd.fst), .int .i64 ((g i_1).snd.snd.snd.fst)] : List PV) = [.int .i64 ((g i_1).fst), .int .i64 ((g i_1).snd.fst), .int .i64 ((g i_1).snd.snd.fst), .int .i64 ((g i_1).snd.snd.snd.fst)]))),
  ((0 : Nat) = 0),
  ((0 : Nat) = 0),
  (false = false),
  ((0 : Nat) = 0),
  ((((↑k : Int)) : Int) = ((↑k : Int))),
  ((((↑i : Int) + 1) : Int) = ((↑(i + 1) : Int))),
  ((2 : Nat) = 2),
  ((1 : Nat) ≤ 1),
  ((1 : Nat) ≤ 1),
  (((N) : Int) = (N)),
  (((nb) : Nat) = (nb)),
  (∀ i_1 : Nat, ((((i_1) : Nat) < (nb)) → (([.int .i64 ((g i_1).fst), .int .i64 ((g i_1).snd.fst), .int .i64 ((g i_1).snd.snd.fst), .int .i64 ((g i_1).snd.snd.snd.fst)] : List PV) = [.int .i64 ((g i_1).fst), .int .i64 ((g i_1).snd.fst), .int .i64 ((g i_1).snd.snd.fst), .int .i64 ((g i_1).snd.snd.snd.fst)]))),
  ((2 : Nat) = 2),
  ((1 : Nat) ≤ 1),
  ((1 : Nat) ≤ 1),
  ((0 : Int) = 0),
  ((2 : Nat) = 2),
  ((1 : Nat) ≤ 1),
  ((1 : Nat) ≤ 1),
  (((4 * N) : Int) = (4 * N)),
  ((0 : Nat) = 0),
  (((m) : Nat) = (m)),
  ((2 : Nat) = 2),
  (((m) : Nat) ≤ (m)),
  (∀ i_1 : Nat, ((((i_1) : Nat) < (m)) → (All [] ∧ (([.p (.int .i64 ((r i_1).fst)), .p (.int .i64 ((r i_1).snd.fst))] : List AV) = [.p (.int .i64 ((r i_1).fst)), .p (.int .i64 ((r i_1).snd.fst))]))))]) := by kernel_rfl

theorem con_copyGraphO (N : Int) (n : Nat) (h : Nat → T_Bar) (hn : n ≤ 1048576) : Con Try.prog 118 0 [] [graO N n h] [(0, brOb n h)] (.agg [.p (.int .i64 N), .ar 2 0 0 n]) := by
  refine con_start Try.func118 rfl (by kernel_rfl) rfl (fun c hc => ?_)
  refine path_ok mixed Try.func118 hc (uCp N n h) ?_
  simp only [All]
  repeat' (first | exact trivial | with_reducible apply And.intro)
  all_goals (first | omega | rfl | (intros; first | assumption | exact True.intro | rfl | exact absurd (show false = true by assumption) Bool.false_ne_true | ((repeat' (first | assumption | apply anda | apply notf)); done)) | (intro j hj; simp [All]; done) | (simp; try omega))

theorem con_withBar (N : Int) (n : Nat) (h : Nat → T_Bar) (x : T_Bar) (hn : n ≤ 1000000) : Con Try.prog 70 0 [] [graO N n h, .p (.seq true 2 1 (fun _ => [.int .i64 x.1, .int .i64 x.2.1]))]
    [(0, brOb (n + 1) (srtB (n + 1) (snoc n h x)))] (.agg [.p (.int .i64 N), .ar 2 0 0 (n + 1)]) := by
  have h1 := con_copyGraphO N n h (by omega)
  have h2 := con_sortBars (n + 1) (snoc n h x) (by omega)
  generalize srtB (n + 1) (snoc n h x) = r at h2 ⊢
  refine con_start Try.func70 rfl (by kernel_rfl) rfl (fun c hc => ?_)
  refine piece_ok mixed hc (uWa N n h x) ?_ (path_ok mixed Try.func70 hc (uWb N (n + 1) (snoc n h x) r) ?_)
  ·
    simp only [All]
    repeat' (first | exact trivial | with_reducible apply And.intro)
    all_goals (first | omega | rfl | (intros; first | assumption | exact True.intro | rfl | exact absurd (show false = true by assumption) Bool.false_ne_true | ((repeat' (first | assumption | apply anda | apply notf)); done)) | (exact h1) | (intro j hj; by_cases h' : j < n <;> simp [h', snoc, cvtL, cvt, tg, tru, All]; done) | (intro j hj; simp [All]; done) | (simp; try omega))
  ·
    simp only [All]
    repeat' (first | exact trivial | with_reducible apply And.intro)
    all_goals (first | omega | rfl | (intros; first | assumption | exact True.intro | rfl | exact absurd (show false = true by assumption) Bool.false_ne_true | ((repeat' (first | assumption | apply anda | apply notf)); done)) | (exact h2) | (intro j hj; simp [All]; done) | (simp; try omega))

/-! ### The bars -/
def uu (b : T_GainBar) (k : Nat) : Int := 4 * b.1 + (k : Int)
def vv (b : T_GainBar) (k : Nat) : Int := 4 * b.2.1 + 2 * (((k : Int) / 2 + b.2.2.2.1 + 10) % 2) + ((k : Int) % 2 + b.2.2.1 + 10) % 2
def el (b : T_GainBar) (k : Nat) : List T_Bar := bif uu b k != vv b k then [brX (uu b k) (vv b k)] else []
def EP (b : T_GainBar) : Nat → List T_Bar
  | 0 => []
  | k + 1 => EP b k ++ el b k
def LI (g : Nat → T_GainBar) : Nat → List T_Bar
  | 0 => []
  | i + 1 => LI g i ++ EP (g i) 4
def LK (g : Nat → T_GainBar) (k : Nat) : Nat → List T_Bar
  | 0 => []
  | i + 1 => LK g k i ++ el (g i) k
def LS (g : Nat → T_GainBar) (nb : Nat) : Nat → List T_Bar
  | 0 => []
  | k + 1 => LS g nb k ++ LK g k nb

theorem LI_LS (g : Nat → T_GainBar) (nb : Nat) : (LI g nb).Perm (LS g nb 4) := by
  rw [List.perm_iff_count]
  intro a
  induction nb with
  | zero => simp [LI, LS, LK]
  | succ n ih =>
    simp only [LI, LS, LK, EP, List.count_append, List.nil_append, List.count_nil] at ih ⊢
    omega

theorem srtL_congr {l m : List T_Bar} (h : l.Perm m) : srtL l = srtL m := srtL_eq ((srtL_perm l).trans h) (srtL_sorted l)

theorem el_t {b : T_GainBar} {k : Nat} (h : (uu b k != vv b k) = true) : el b k = [brX (uu b k) (vv b k)] := by simp only [el, h, cond_true]
theorem el_f {b : T_GainBar} {k : Nat} (h : (uu b k != vv b k) = false) : el b k = [] := by simp only [el, h, cond_false]

theorem and_one (a : Int) (h0 : -20 ≤ a) (h1 : a ≤ 20) : bitI .and .i64 a 1 = a % 2 := by
  have h : ∀ k : Fin 41, bitI .and .i64 ((k.val : Int) - 20) 1 = ((k.val : Int) - 20) % 2 := by decide
  have := h ⟨(a + 20).toNat, by omega⟩
  rw [show (((⟨(a + 20).toNat, by omega⟩ : Fin 41).val : Int)) = a + 20 by simp; omega] at this
  rw [show a + 20 - 20 = a by omega] at this
  exact this

theorem lst_end {n : Nat} {h : Nat → T_Bar} {L : List T_Bar} (e : lstB n h = L) : n = L.length ∧ ∀ i, i < n → h i = L.getD i (0, 0, ()) := by
  subst e
  refine ⟨(lstB_len n h).symm, fun i hi => ?_⟩
  simp [lstB, List.getD_eq_getElem?_getD, hi]

theorem bad_gain {N : Int} {b : T_GainBar} (h : badG N b = false) : 0 ≤ b.1 ∧ b.1 ≤ b.2.1 ∧ b.2.1 < N ∧ -9 ≤ b.2.2.1 ∧ b.2.2.1 ≤ 9 ∧ -9 ≤ b.2.2.2.1 ∧ b.2.2.2.1 ≤ 9 := by
  unfold badG at h
  cases h1 : decide (b.1 < 0) <;> cases h2 : decide (b.1 > b.2.1) <;> cases h3 : decide (b.2.1 ≥ N) <;> cases h4 : inB b.2.2.1 (-9) 9 <;> cases h5 : inB b.2.2.2.1 (-9) 9 <;> simp [h1, h2, h3, h4, h5] at h
  simp only [inB, Bool.and_eq_true, decide_eq_true_eq, decide_eq_false_iff_not] at h1 h2 h3 h4 h5
  omega
theorem good_gain {v : T_GainGraph} : ∀ {n : Nat}, goodG v n = true → ∀ k, k < n → badG v.1 (v.2.1.2 k) = false
  | 0, _ => fun k hk => absurd hk (Nat.not_lt_zero _)
  | n + 1, h => by
    simp only [goodG, Bool.and_eq_true, Bool.not_eq_true'] at h
    intro k hk
    by_cases e' : k = n
    · rw [e']; exact h.2
    · exact good_gain h.1 k (by omega)
theorem gain_in2 {v : T_GainGraph} (h : isGainF v = true) : 1 ≤ v.1 ∧ v.1 ≤ 4 ∧ v.2.1.1 ≤ 8 ∧ ∀ i, i < v.2.1.1 → 0 ≤ (v.2.1.2 i).1 ∧ (v.2.1.2 i).1 ≤ (v.2.1.2 i).2.1 ∧ (v.2.1.2 i).2.1 < v.1 ∧ -9 ≤ (v.2.1.2 i).2.2.1 ∧ (v.2.1.2 i).2.2.1 ≤ 9 ∧ -9 ≤ (v.2.1.2 i).2.2.2.1 ∧ (v.2.1.2 i).2.2.2.1 ≤ 9 := by
  simp only [isGainF, inB, Bool.and_eq_true, decide_eq_true_eq] at h
  exact ⟨h.2.1.1, h.2.1.2, h.2.2, fun i hi => bad_gain (good_gain h.1 i hi)⟩

def unB (v : T_GainGraph) : Bool := isGainF v && (decide (4 * v.1 ≤ 8) && decide (4 * (v.2.1.1 : Int) ≤ 24))
def unL (v : T_GainGraph) : List T_Bar := srtL (LI v.2.1.2 v.2.1.1)
def unG (v : T_GainGraph) : T_Graph := if unB v = true then (4 * v.1, ((unL v).length, fun i => (unL v).getD i (0, 0, ())), ()) else (0, (0, fun _ => (0, 0, ())), ())

theorem con_Unr_i (v : T_GainGraph) (hs : smS s_GainGraph v) :
    Con Try.prog 24 0 [] [gainA v] [(0, brOb (unG v).2.1.1 (unG v).2.1.2)] (.tup [.agg [.p (.int .i64 (unG v).1), .ar 2 0 0 (unG v).2.1.1], .p (.bool (unB v))]) := by
  have c1 := con_IsGainGraph_i v hs
  rw [show gainA v = uA v.2.1.2 v.2.1.1 v.1 from rfl] at c1 ⊢
  refine con_start Try.func24 rfl (by kernel_rfl) rfl (fun c hc => ?_)
  cases hb : unB v with
  | false =>
    rw [show unG v = (0, (0, fun _ => (0, 0, ())), ()) by simp [unG, hb]]
    cases hg : isGainF v with
    | false =>
      rw [hg] at c1
      refine path_ok mixed Try.func24 hc (uIy v.2.1.2 v.2.1.1 v.1 false) ?_
      simp only [All]
      repeat' (first | exact trivial | with_reducible apply And.intro)
      all_goals (first | omega | rfl | (intros; first | assumption | exact True.intro | rfl | exact absurd (show false = true by assumption) Bool.false_ne_true | ((repeat' (first | assumption | apply anda | apply notf)); done)) | (exact c1) | (intro j hj; exact absurd hj (Nat.not_lt_zero _)) | (intro h; simp at h; done) | (simp; done))
    | true =>
      rw [hg] at c1
      obtain ⟨g1, g2, g3, g4⟩ := gain_in2 hg
      have hcd : (bif bif !true then true else decide (4 * v.1 > 8) then true else decide (4 * (v.2.1.1 : Int) > 24)) = true := by
        simp only [unB, hg, Bool.true_and, Bool.and_eq_false_iff, decide_eq_false_iff_not] at hb
        by_cases h8 : 4 * v.1 > 8
        · simp [h8]
        · have : 4 * (v.2.1.1 : Int) > 24 := by omega
          simp [h8, this]
      refine path_ok mixed Try.func24 hc (uIy v.2.1.2 v.2.1.1 v.1 true) ?_
      simp only [All]
      repeat' (first | exact trivial | with_reducible apply And.intro)
      all_goals (first | omega | rfl | (intros; first | assumption | exact True.intro | rfl | exact absurd (show false = true by assumption) Bool.false_ne_true | ((repeat' (first | assumption | apply anda | apply notf)); done)) | (exact c1) | (exact hcd) | (intro j hj; exact absurd hj (Nat.not_lt_zero _)) | (intro h; omega) | (simp; done))
  | true =>
    have hb' := hb
    simp only [unB, Bool.and_eq_true, decide_eq_true_eq] at hb'
    obtain ⟨hg, h8, h24⟩ := hb'
    rw [hg] at c1
    obtain ⟨g1, g2, g3, g4⟩ := gain_in2 hg
    rw [show unG v = (4 * v.1, ((unL v).length, fun i => (unL v).getD i (0, 0, ())), ()) by simp [unG, hb]]
    have hcd : (bif bif !true then true else decide (4 * v.1 > 8) then true else decide (4 * (v.2.1.1 : Int) > 24)) = false := by
      have a1 : ¬ 4 * v.1 > 8 := by omega
      have a2 : ¬ 4 * (v.2.1.1 : Int) > 24 := by omega
      simp [a1, a2]
    generalize hL : unL v = L
    unfold unL at hL
    generalize v.2.1.2 = g at *
    generalize v.2.1.1 = nb at *
    generalize v.1 = N at *
    have l2 : ∀ i y, i < nb → y < 2 → (∀ n h, n ≤ 4 * i + (2 * y + 2) → lstB n h = srtL (LI g i ++ EP (g i) (2 * y + 2)) → Run Try.prog c 24 [.code (cAt (bodyOf Try.f24) [1, 1, 1, 0, 1, 0, 0, 1, 1, 0, 0, 1, 1, 0, 0]), .inLoop (cAt (bodyOf Try.f24) [1, 1, 1, 0, 1, 0, 0, 1, 1, 0, 0, 1, 1, 0, 0]), .inBlock 2, .inBlock 1, .code (cAt (bodyOf Try.f24) [1, 1, 1, 0, 1, 0, 0, 1, 1, 1]), .inLoop (cAt (bodyOf Try.f24) [1, 1, 1, 0, 1, 0, 0]), .inBlock 0, .code (cAt (bodyOf Try.f24) [1, 1, 1, 1])] (SU1 g nb N i n h (y + 1)) (Post c [(0, brOb L.length (fun i => L.getD i (0, 0, ())))] (.tup [.agg [.p (.int .i64 (4 * N)), .ar 2 0 0 L.length], .p (.bool true)]))) →
        ∀ d x n h, x + d = 2 → n ≤ 4 * i + (2 * y + x) → lstB n h = srtL (LI g i ++ EP (g i) (2 * y + x)) →
        Run Try.prog c 24 [.code (cAt (bodyOf Try.f24) [1, 1, 1, 0, 1, 0, 0, 1, 1, 0, 0, 1, 1, 0, 0, 1, 1, 0, 0, 1, 1, 0, 0]), .inLoop (cAt (bodyOf Try.f24) [1, 1, 1, 0, 1, 0, 0, 1, 1, 0, 0, 1, 1, 0, 0, 1, 1, 0, 0, 1, 1, 0, 0]), .inBlock 4, .inBlock 3, .code (cAt (bodyOf Try.f24) [1, 1, 1, 0, 1, 0, 0, 1, 1, 0, 0, 1, 1, 0, 0, 1, 1, 1]), .inLoop (cAt (bodyOf Try.f24) [1, 1, 1, 0, 1, 0, 0, 1, 1, 0, 0, 1, 1, 0, 0]), .inBlock 2, .inBlock 1, .code (cAt (bodyOf Try.f24) [1, 1, 1, 0, 1, 0, 0, 1, 1, 1]), .inLoop (cAt (bodyOf Try.f24) [1, 1, 1, 0, 1, 0, 0]), .inBlock 0, .code (cAt (bodyOf Try.f24) [1, 1, 1, 1])] (SU2 g nb N i n h y x) (Post c [(0, brOb L.length (fun i => L.getD i (0, 0, ())))] (.tup [.agg [.p (.int .i64 (4 * N)), .ar 2 0 0 L.length], .p (.bool true)])) := by
      intro i y hi hy hk d
      induction d with
      | zero =>
        intro x n h hx hn hh
        obtain rfl : x = 2 := by omega
        have hd : decide (((2 : Nat) : Int) < 2) = false := by decide
        refine piece_ok mixed hc (uI2e g nb N i n h y 2) ?_ (hk n h hn hh)
        simp only [All]
        repeat' (first | exact trivial | with_reducible apply And.intro)
        all_goals (first | omega | rfl | (intros; first | assumption | exact True.intro | rfl | exact absurd (show false = true by assumption) Bool.false_ne_true | ((repeat' (first | assumption | apply anda | apply notf)); done)) | (exact hd) | (intro j hj; simp [All]))
      | succ d ih =>
        intro x n h hx hn hh
        have hd : decide ((x : Int) < 2) = true := by simp; omega
        have hgi := g4 i hi
        have hbit1 := and_one ((y : Int) + (g i).2.2.2.1) (by omega) (by omega)
        have hbit2 := and_one ((x : Int) + (g i).2.2.1) (by omega) (by omega)
        have hu : 4 * (g i).1 + 2 * (y : Int) + (x : Int) = uu (g i) (2 * y + x) := by unfold uu; omega
        have hv : 4 * (g i).2.1 + 2 * bitI .and .i64 ((y : Int) + (g i).2.2.2.1) 1 + bitI .and .i64 ((x : Int) + (g i).2.2.1) 1 = vv (g i) (2 * y + x) := by
          rw [hbit1, hbit2]; unfold vv; omega
        have hbd1 : 0 ≤ bitI .and .i64 ((y : Int) + (g i).2.2.2.1) 1 ∧ bitI .and .i64 ((y : Int) + (g i).2.2.2.1) 1 ≤ 1 := by rw [hbit1]; omega
        have hbd2 : 0 ≤ bitI .and .i64 ((x : Int) + (g i).2.2.1) 1 ∧ bitI .and .i64 ((x : Int) + (g i).2.2.1) 1 ≤ 1 := by rw [hbit2]; omega
        cases he : (uu (g i) (2 * y + x) != vv (g i) (2 * y + x)) with
        | false =>
          have hcn : (4 * (g i).1 + 2 * (y : Int) + (x : Int) != 4 * (g i).2.1 + 2 * bitI .and .i64 ((y : Int) + (g i).2.2.2.1) 1 + bitI .and .i64 ((x : Int) + (g i).2.2.1) 1) = false := by rw [hu, hv]; exact he
          refine piece_ok mixed hc (uI2f g nb N i n h y x) ?_ (ih (x + 1) n h (by omega) (by omega) (by
            rw [hh, show 2 * y + (x + 1) = (2 * y + x) + 1 by omega, EP, el_f he, List.append_nil]))
          simp only [All]
          repeat' (first | exact trivial | with_reducible apply And.intro)
          all_goals (first | omega | rfl | (intros; first | assumption | exact True.intro | rfl | exact absurd (show false = true by assumption) Bool.false_ne_true | ((repeat' (first | assumption | apply anda | apply notf)); done)) | (exact hd) | (exact hcn) | (intro j hj; simp [All]))
        | true =>
          have hcn : (4 * (g i).1 + 2 * (y : Int) + (x : Int) != 4 * (g i).2.1 + 2 * bitI .and .i64 ((y : Int) + (g i).2.2.2.1) 1 + bitI .and .i64 ((x : Int) + (g i).2.2.1) 1) = true := by rw [hu, hv]; exact he
          have cb := con_barX (4 * (g i).1 + 2 * (y : Int) + (x : Int)) (4 * (g i).2.1 + 2 * bitI .and .i64 ((y : Int) + (g i).2.2.2.1) 1 + bitI .and .i64 ((x : Int) + (g i).2.2.1) 1)
          have hel := el_t he
          rw [← hu, ← hv] at hel
          generalize brX (4 * (g i).1 + 2 * (y : Int) + (x : Int)) (4 * (g i).2.1 + 2 * bitI .and .i64 ((y : Int) + (g i).2.2.2.1) 1 + bitI .and .i64 ((x : Int) + (g i).2.2.1) 1) = e at cb hel
          have cw := con_withBar (4 * N) n h e (by omega)
          have hl : lstB (n + 1) (srtB (n + 1) (snoc n h e)) = srtL (LI g i ++ EP (g i) (2 * y + (x + 1))) := by
            rw [lstB_srt, lstB_snoc, hh, show 2 * y + (x + 1) = (2 * y + x) + 1 by omega, EP, hel, ← List.append_assoc]
            exact srtL_congr (List.Perm.append_right _ (srtL_perm _))
          generalize srtB (n + 1) (snoc n h e) = r at cw hl
          refine piece_ok mixed hc (uI2t g nb N i n h y x e r) ?_ (ih (x + 1) (n + 1) r (by omega) (by omega) hl)
          simp only [All]
          repeat' (first | exact trivial | with_reducible apply And.intro)
          all_goals (first | omega | rfl | (intros; first | assumption | exact True.intro | rfl | exact absurd (show false = true by assumption) Bool.false_ne_true | ((repeat' (first | assumption | apply anda | apply notf)); done)) | (exact hd) | (exact hcn) | (exact cb) | (exact cw) | (intro j hj; simp [All]))
    have l1 : ∀ i, i < nb → (∀ n h, n ≤ 4 * (i + 1) → lstB n h = srtL (LI g (i + 1)) → Run Try.prog c 24 [.code (cAt (bodyOf Try.f24) [1, 1, 1, 0, 1, 0, 0]), .inLoop (cAt (bodyOf Try.f24) [1, 1, 1, 0, 1, 0, 0]), .inBlock 0, .code (cAt (bodyOf Try.f24) [1, 1, 1, 1])] (SU0 g nb N (i + 1) n h) (Post c [(0, brOb L.length (fun i => L.getD i (0, 0, ())))] (.tup [.agg [.p (.int .i64 (4 * N)), .ar 2 0 0 L.length], .p (.bool true)]))) →
        ∀ d y n h, y + d = 2 → n ≤ 4 * i + 2 * y → lstB n h = srtL (LI g i ++ EP (g i) (2 * y)) →
        Run Try.prog c 24 [.code (cAt (bodyOf Try.f24) [1, 1, 1, 0, 1, 0, 0, 1, 1, 0, 0, 1, 1, 0, 0]), .inLoop (cAt (bodyOf Try.f24) [1, 1, 1, 0, 1, 0, 0, 1, 1, 0, 0, 1, 1, 0, 0]), .inBlock 2, .inBlock 1, .code (cAt (bodyOf Try.f24) [1, 1, 1, 0, 1, 0, 0, 1, 1, 1]), .inLoop (cAt (bodyOf Try.f24) [1, 1, 1, 0, 1, 0, 0]), .inBlock 0, .code (cAt (bodyOf Try.f24) [1, 1, 1, 1])] (SU1 g nb N i n h y) (Post c [(0, brOb L.length (fun i => L.getD i (0, 0, ())))] (.tup [.agg [.p (.int .i64 (4 * N)), .ar 2 0 0 L.length], .p (.bool true)])) := by
      intro i hi hk d
      induction d with
      | zero =>
        intro y n h hx hn hh
        obtain rfl : y = 2 := by omega
        have hd : decide (((2 : Nat) : Int) < 2) = false := by decide
        refine piece_ok mixed hc (uI1e g nb N i n h 2) ?_ (hk n h (by omega) hh)
        simp only [All]
        repeat' (first | exact trivial | with_reducible apply And.intro)
        all_goals (first | omega | rfl | (intros; first | assumption | exact True.intro | rfl | exact absurd (show false = true by assumption) Bool.false_ne_true | ((repeat' (first | assumption | apply anda | apply notf)); done)) | (exact hd) | (intro j hj; simp [All]))
      | succ d ih =>
        intro y n h hx hn hh
        have hd : decide ((y : Int) < 2) = true := by simp; omega
        refine piece_ok mixed hc (uI1 g nb N i n h y) ?_ (l2 i y hi (by omega) (fun n' h' h1 h2 => ih (y + 1) n' h' (by omega) (by omega) h2) 2 0 n h (by omega) (by omega) hh)
        simp only [All]
        repeat' (first | exact trivial | with_reducible apply And.intro)
        all_goals (first | omega | rfl | (intros; first | assumption | exact True.intro | rfl | exact absurd (show false = true by assumption) Bool.false_ne_true | ((repeat' (first | assumption | apply anda | apply notf)); done)) | (exact hd) | (intro j hj; simp [All]))
    have l0 : ∀ d i n h, i + d = nb → n ≤ 4 * i → lstB n h = srtL (LI g i) →
        Run Try.prog c 24 [.code (cAt (bodyOf Try.f24) [1, 1, 1, 0, 1, 0, 0]), .inLoop (cAt (bodyOf Try.f24) [1, 1, 1, 0, 1, 0, 0]), .inBlock 0, .code (cAt (bodyOf Try.f24) [1, 1, 1, 1])] (SU0 g nb N i n h) (Post c [(0, brOb L.length (fun i => L.getD i (0, 0, ())))] (.tup [.agg [.p (.int .i64 (4 * N)), .ar 2 0 0 L.length], .p (.bool true)])) := by
      intro d
      induction d with
      | zero =>
        intro i n h hi hn hh
        obtain rfl : i = nb := by omega
        have hd : decide ((i : Int) < (i : Int)) = false := by simp
        rw [hL] at hh
        obtain ⟨e1, e2⟩ := lst_end hh
        rw [← e1]
        refine path_ok mixed Try.func24 hc (uIe g i N i n h (fun i => L.getD i (0, 0, ()))) ?_
        simp only [All]
        repeat' (first | exact trivial | with_reducible apply And.intro)
        all_goals (first | omega | rfl | (intros; first | assumption | exact True.intro | rfl | exact absurd (show false = true by assumption) Bool.false_ne_true | ((repeat' (first | assumption | apply anda | apply notf)); done)) | (exact hd) | (intro j hj; simp [All]; done) | (intro j hj; rw [e2 j hj]; simp [cvtL, cvt, tg, tru, All]))
      | succ d ih =>
        intro i n h hi hn hh
        have hd : decide ((i : Int) < (nb : Int)) = true := by simp; omega
        refine piece_ok mixed hc (uI0 g nb N i n h) ?_ (l1 i (by omega) (fun n' h' h1 h2 => ih (i + 1) n' h' (by omega) h1 h2) 2 0 n h (by omega) (by omega) (by rw [hh]; simp [EP]))
        simp only [All]
        repeat' (first | exact trivial | with_reducible apply And.intro)
        all_goals (first | omega | rfl | (intros; first | assumption | exact True.intro | rfl | exact absurd (show false = true by assumption) Bool.false_ne_true | ((repeat' (first | assumption | apply anda | apply notf)); done)) | (exact hd) | (intro j hj; simp [All]))
    refine piece_ok mixed hc (uIz g nb N true) ?_ (l0 nb 0 0 _ (by omega) (by omega) (by simp [lstB, LI, srtL]))
    simp only [All]
    repeat' (first | exact trivial | with_reducible apply And.intro)
    all_goals (first | omega | rfl | (intros; first | assumption | exact True.intro | rfl | exact absurd (show false = true by assumption) Bool.false_ne_true | ((repeat' (first | assumption | apply anda | apply notf)); done)) | (exact c1) | (exact hcd) | (intro j hj; exact absurd hj (Nat.not_lt_zero _)) | (intro h; omega) | (intro j hj; simp [All]))

theorem con_Unr_s (v : T_GainGraph) (hs : smS s_GainGraph v) :
    Con Try.prog 22 0 [] [gainA v] [(0, brOb (unG v).2.1.1 (unG v).2.1.2)] (.tup [.agg [.p (.int .i64 (unG v).1), .ar 2 0 0 (unG v).2.1.1], .p (.bool (unB v))]) := by
  have c1 := con_IsGainGraph_s v hs
  rw [show gainA v = uA v.2.1.2 v.2.1.1 v.1 from rfl] at c1 ⊢
  refine con_start Try.func22 rfl (by kernel_rfl) rfl (fun c hc => ?_)
  cases hb : unB v with
  | false =>
    rw [show unG v = (0, (0, fun _ => (0, 0, ())), ()) by simp [unG, hb]]
    cases hg : isGainF v with
    | false =>
      rw [hg] at c1
      refine path_ok mixed Try.func22 hc (uSy v.2.1.2 v.2.1.1 v.1 false) ?_
      simp only [All]
      repeat' (first | exact trivial | with_reducible apply And.intro)
      all_goals (first | omega | rfl | (intros; first | assumption | exact True.intro | rfl | exact absurd (show false = true by assumption) Bool.false_ne_true | ((repeat' (first | assumption | apply anda | apply notf)); done)) | (exact c1) | (intro j hj; exact absurd hj (Nat.not_lt_zero _)) | (intro h; simp at h; done) | (simp; done))
    | true =>
      rw [hg] at c1
      obtain ⟨g1, g2, g3, g4⟩ := gain_in2 hg
      have hcd : (bif bif !true then true else decide (4 * v.1 > 8) then true else decide (4 * (v.2.1.1 : Int) > 24)) = true := by
        simp only [unB, hg, Bool.true_and, Bool.and_eq_false_iff, decide_eq_false_iff_not] at hb
        by_cases h8 : 4 * v.1 > 8
        · simp [h8]
        · have : 4 * (v.2.1.1 : Int) > 24 := by omega
          simp [h8, this]
      refine path_ok mixed Try.func22 hc (uSy v.2.1.2 v.2.1.1 v.1 true) ?_
      simp only [All]
      repeat' (first | exact trivial | with_reducible apply And.intro)
      all_goals (first | omega | rfl | (intros; first | assumption | exact True.intro | rfl | exact absurd (show false = true by assumption) Bool.false_ne_true | ((repeat' (first | assumption | apply anda | apply notf)); done)) | (exact c1) | (exact hcd) | (intro j hj; exact absurd hj (Nat.not_lt_zero _)) | (intro h; omega) | (simp; done))
  | true =>
    have hb' := hb
    simp only [unB, Bool.and_eq_true, decide_eq_true_eq] at hb'
    obtain ⟨hg, h8, h24⟩ := hb'
    rw [hg] at c1
    obtain ⟨g1, g2, g3, g4⟩ := gain_in2 hg
    rw [show unG v = (4 * v.1, ((unL v).length, fun i => (unL v).getD i (0, 0, ())), ()) by simp [unG, hb]]
    have hcd : (bif bif !true then true else decide (4 * v.1 > 8) then true else decide (4 * (v.2.1.1 : Int) > 24)) = false := by
      have a1 : ¬ 4 * v.1 > 8 := by omega
      have a2 : ¬ 4 * (v.2.1.1 : Int) > 24 := by omega
      simp [a1, a2]
    generalize hL : unL v = L
    unfold unL at hL
    rw [srtL_congr (LI_LS v.2.1.2 v.2.1.1)] at hL
    generalize v.2.1.2 = g at *
    generalize v.2.1.1 = nb at *
    generalize v.1 = N at *
    have l1 : ∀ k, k < 4 → (∀ n h, n ≤ 8 * (k + 1) → lstB n h = srtL (LS g nb (k + 1)) → Run Try.prog c 22 [.code (cAt (bodyOf Try.f22) [1, 1, 1, 0, 1, 0, 0]), .inLoop (cAt (bodyOf Try.f22) [1, 1, 1, 0, 1, 0, 0]), .inBlock 0, .code (cAt (bodyOf Try.f22) [1, 1, 1, 1])] (SV0 g nb N (k + 1) n h) (Post c [(0, brOb L.length (fun i => L.getD i (0, 0, ())))] (.tup [.agg [.p (.int .i64 (4 * N)), .ar 2 0 0 L.length], .p (.bool true)]))) →
        ∀ d i n h, i + d = nb → n ≤ 8 * k + i → lstB n h = srtL (LS g nb k ++ LK g k i) →
        Run Try.prog c 22 [.code (cAt (bodyOf Try.f22) [1, 1, 1, 0, 1, 0, 0, 1, 0, 0, 1, 0, 0]), .inLoop (cAt (bodyOf Try.f22) [1, 1, 1, 0, 1, 0, 0, 1, 0, 0, 1, 0, 0]), .inBlock 2, .inBlock 1, .code (cAt (bodyOf Try.f22) [1, 1, 1, 0, 1, 0, 0, 1, 1]), .inLoop (cAt (bodyOf Try.f22) [1, 1, 1, 0, 1, 0, 0]), .inBlock 0, .code (cAt (bodyOf Try.f22) [1, 1, 1, 1])] (SV1 g nb N k i n h) (Post c [(0, brOb L.length (fun i => L.getD i (0, 0, ())))] (.tup [.agg [.p (.int .i64 (4 * N)), .ar 2 0 0 L.length], .p (.bool true)])) := by
      intro k hk4 hk d
      induction d with
      | zero =>
        intro i n h hi hn hh
        obtain rfl : i = nb := by omega
        have hd : decide ((i : Int) < (i : Int)) = false := by simp
        refine piece_ok mixed hc (uS1e g i N k i n h) ?_ (hk n h (by omega) hh)
        simp only [All]
        repeat' (first | exact trivial | with_reducible apply And.intro)
        all_goals (first | omega | rfl | (intros; first | assumption | exact True.intro | rfl | exact absurd (show false = true by assumption) Bool.false_ne_true | ((repeat' (first | assumption | apply anda | apply notf)); done)) | (exact hd) | (intro j hj; simp [All]))
      | succ d ih =>
        intro i n h hi hn hh
        have hd : decide ((i : Int) < (nb : Int)) = true := by simp; omega
        have hgi := g4 i (by omega)
        cases he : (uu (g i) k != vv (g i) k) with
        | false =>
          refine piece_ok mixed hc (uS1f g nb N k i n h) ?_ (ih (i + 1) n h (by omega) (by omega) (by
            rw [hh, LK, el_f he, List.append_nil]))
          simp only [All]
          repeat' (first | exact trivial | with_reducible apply And.intro)
          all_goals (first | omega | rfl | (intros; first | assumption | exact True.intro | rfl | exact absurd (show false = true by assumption) Bool.false_ne_true | ((repeat' (first | assumption | apply anda | apply notf)); done)) | (exact hd) | (exact he) | (intro j hj; simp [All]))
        | true =>
          have hel := el_t he
          have cp := con_l2Put h n (4 * N).toNat (brX (uu (g i) k) (vv (g i) k)) (by omega)
          have hN : (((4 * N).toNat : Nat) : Int) = 4 * N := by omega
          rw [grG, hN] at cp
          have hsrt : (lstB n h).Pairwise leB := by rw [hh]; exact srtL_sorted _
          have hl := insR_list h n (brX (uu (g i) k) (vv (g i) k)) hsrt
          have hn' := insR_n h n (brX (uu (g i) k) (vv (g i) k))
          rw [hn'] at cp hl
          have hl2 : lstB (n + 1) (insR h n (brX (uu (g i) k) (vv (g i) k))).2 = srtL (LS g nb k ++ LK g k (i + 1)) := by
            rw [hl, hh, LK, hel, ← List.append_assoc]
            exact srtL_congr (List.Perm.append_right _ (srtL_perm _))
          generalize (insR h n (brX (uu (g i) k) (vv (g i) k))).2 = r at cp hl2
          refine piece_ok mixed hc (uS1t g nb N k i n h (n + 1) r) ?_ (ih (i + 1) (n + 1) r (by omega) (by omega) hl2)
          simp only [All]
          repeat' (first | exact trivial | with_reducible apply And.intro)
          all_goals (first | omega | rfl | (intros; first | assumption | exact True.intro | rfl | exact absurd (show false = true by assumption) Bool.false_ne_true | ((repeat' (first | assumption | apply anda | apply notf)); done)) | (exact hd) | (exact he) | (exact cp) | (intro j hj; simp [All]))
    have l0 : ∀ d k n h, k + d = 4 → n ≤ 8 * k → lstB n h = srtL (LS g nb k) →
        Run Try.prog c 22 [.code (cAt (bodyOf Try.f22) [1, 1, 1, 0, 1, 0, 0]), .inLoop (cAt (bodyOf Try.f22) [1, 1, 1, 0, 1, 0, 0]), .inBlock 0, .code (cAt (bodyOf Try.f22) [1, 1, 1, 1])] (SV0 g nb N k n h) (Post c [(0, brOb L.length (fun i => L.getD i (0, 0, ())))] (.tup [.agg [.p (.int .i64 (4 * N)), .ar 2 0 0 L.length], .p (.bool true)])) := by
      intro d
      induction d with
      | zero =>
        intro k n h hk hn hh
        obtain rfl : k = 4 := by omega
        have hd : decide (((4 : Nat) : Int) < 4) = false := by decide
        rw [hL] at hh
        obtain ⟨e1, e2⟩ := lst_end hh
        rw [← e1]
        refine path_ok mixed Try.func22 hc (uSe g nb N 4 n h (fun i => L.getD i (0, 0, ()))) ?_
        simp only [All]
        repeat' (first | exact trivial | with_reducible apply And.intro)
        all_goals (first | omega | rfl | (intros; first | assumption | exact True.intro | rfl | exact absurd (show false = true by assumption) Bool.false_ne_true | ((repeat' (first | assumption | apply anda | apply notf)); done)) | (exact hd) | (intro j hj; simp [All]; done) | (intro j hj; rw [e2 j hj]; simp [cvtL, cvt, tg, tru, All]))
      | succ d ih =>
        intro k n h hk hn hh
        have hd : decide ((k : Int) < 4) = true := by simp; omega
        refine piece_ok mixed hc (uS0 g nb N k n h) ?_ (l1 k (by omega) (fun n' h' h1 h2 => ih (k + 1) n' h' (by omega) h1 h2) nb 0 n h (by omega) (by omega) (by rw [hh]; simp [LK]))
        simp only [All]
        repeat' (first | exact trivial | with_reducible apply And.intro)
        all_goals (first | omega | rfl | (intros; first | assumption | exact True.intro | rfl | exact absurd (show false = true by assumption) Bool.false_ne_true | ((repeat' (first | assumption | apply anda | apply notf)); done)) | (exact hd) | (intro j hj; simp [All]))
    refine piece_ok mixed hc (uSz g nb N true) ?_ (l0 4 0 0 _ (by omega) (by omega) (by simp [lstB, LS, srtL]))
    simp only [All]
    repeat' (first | exact trivial | with_reducible apply And.intro)
    all_goals (first | omega | rfl | (intros; first | assumption | exact True.intro | rfl | exact absurd (show false = true by assumption) Bool.false_ne_true | ((repeat' (first | assumption | apply anda | apply notf)); done)) | (exact c1) | (exact hcd) | (intro j hj; exact absurd hj (Nat.not_lt_zero _)) | (intro h; omega) | (intro j hj; simp [All]))

theorem EP_len (b : T_GainBar) : ∀ k, (EP b k).length ≤ k
  | 0 => Nat.le_refl _
  | k + 1 => by
    have := EP_len b k
    have : (el b k).length ≤ 1 := by unfold el; cases (uu b k != vv b k) <;> simp
    simp only [EP, List.length_append]; omega
theorem LI_len (g : Nat → T_GainBar) : ∀ i, (LI g i).length ≤ 4 * i
  | 0 => Nat.le_refl _
  | i + 1 => by
    have := LI_len g i
    have := EP_len (g i) 4
    simp only [LI, List.length_append]; omega
theorem unG_le (v : T_GainGraph) : (unG v).2.1.1 ≤ 24 := by
  unfold unG
  split
  · rename_i h
    simp only [unB, Bool.and_eq_true, decide_eq_true_eq] at h
    have := LI_len v.2.1.2 v.2.1.1
    show (unL v).length ≤ 24
    unfold unL
    rw [srtL_len]
    omega
  · exact Nat.zero_le _

end Go.Proofs.Ythnidhkfelfkdab.Mach
