/- A bar put into a graph: the reference's way (the part of PebI on l2Put). Conditions: as each theorem says. -/
import Derived.Test.YtgdbnnmogddkaaaPebF
import Derived.Test.YtgdbnnmogddkaaaGraph
namespace Go.Proofs.Ytgdbnnmogddkaaa.Mach
open Go
set_option linter.unusedVariables false
set_option linter.unusedSimpArgs false

def brOb (n : Nat) (h : Nat → T_Bar) : Ob := ⟨false, 2, n, fun i => [.p (.int .i64 (h i).1), .p (.int .i64 (h i).2.1)]⟩
def bxB (x : T_Bar) : Ob := ⟨true, 2, 1, fun _ => [.p (.int .i64 x.1), .p (.int .i64 x.2.1)]⟩
def SL (g : Nat → T_Bar) (nb N : Nat) (x : T_Bar) (i n : Nat) (pl : Bool) (h : Nat → T_Bar) : St :=
  ⟨[grG g nb N, brA x, .pt 2 0 0 0, .pt 2 1 0 0, .pt 2 2 0 0, .pt 2 3 0 0, .p (.bool pl), .p (.int .i64 i)] ++ List.replicate 48 anyA,
   [(0, bxG g nb N), (1, bxB x), (2, ⟨true, 2, 1, fun _ => [.p (.int .i64 0), .p .nil]⟩), (3, ⟨true, 2, 1, fun _ => [.p (.int .i64 N), .ar 2 4 0 n]⟩), (4, brOb n h)], 5⟩
def snoc (n : Nat) (h : Nat → T_Bar) (x : T_Bar) (s : Nat) : T_Bar := (if s < n then (h s).1 else x.1, if s < n then (h s).2.1 else x.2.1, ())

theorem rLz (g : Nat → T_Bar) (nb N : Nat) (x : T_Bar) :
    pieceOb Try.prog 0 [.reg [oT, oT, oT], .reg [oT, oT, oT, oT, oT, oT], .reg [oT], .reg [oT], .head] [.code (bodyOf Try.f108)] (start Try.f108 [] 0 [grG g nb N, brA x]) [0, 32, 64, 224, 160] 1 (SL g nb N x 0 0 false (fun _ => (0, 0, ()))) =
    some ([.code (cAt (bodyOf Try.f108) [1, 1, 1, 0, 1, 0, 0]), .inLoop (cAt (bodyOf Try.f108) [1, 1, 1, 0, 1, 0, 0]), .inBlock 0, .code (cAt (bodyOf Try.f108) [1, 1, 1, 1])], [((0 : Nat) < 1),
  ((0 : Nat) < 1),
  (((true) = true) → ((1 : Nat) = 1)),
  ((((↑N : Int)) : Int) = ((↑N : Int))),
  (((nb) : Nat) = (nb)),
  (∀ i : Nat, ((((i) : Nat) < (nb)) → (([.int .i64 ((g i).fst), .int .i64 ((g i).snd.fst)] : List PV) = [.int .i64 ((g i).fst), .int .i64 ((g i).snd.fst)]))),
  (((x.fst) : Int) = (x.fst)),
  (((x.snd.fst) : Int) = (x.snd.fst)),
  ((0 : Nat) = 0),
  ((0 : Nat) = 0),
  ((0 : Nat) = 0),
  ((0 : Nat) = 0),
  (false = false),
  ((0 : Int) = ((↑0 : Int))),
  ((([AV.p (PV.int IntKind.i64 (↑N : Int)), brL g nb].length) : Nat) = 2),
  ((1 : Nat) ≤ 1),
  ((1 : Nat) ≤ 1),
  ((((↑N : Int)) : Int) = ((↑N : Int))),
  (((nb) : Nat) = (nb)),
  (∀ i : Nat, ((((i) : Nat) < (nb)) → (([.int .i64 ((g i).fst), .int .i64 ((g i).snd.fst)] : List PV) = [.int .i64 ((g i).fst), .int .i64 ((g i).snd.fst)]))),
  ((([AV.p (PV.int IntKind.i64 x.fst), AV.p (PV.int IntKind.i64 x.snd.fst)].length) : Nat) = 2),
  ((1 : Nat) ≤ 1),
  ((1 : Nat) ≤ 1),
  (((x.fst) : Int) = (x.fst)),
  (((x.snd.fst) : Int) = (x.snd.fst)),
  ((((List.map (fun v => AV.p (absV v)) [Value.int IntKind.i64 0, Value.slice none 0 0]).length) : Nat) = 2),
  ((1 : Nat) ≤ 1),
  ((1 : Nat) ≤ 1),
  ((0 : Int) = 0),
  ((((List.map (fun v => AV.p (absV v)) [Value.int IntKind.i64 0, Value.slice none 0 0]).length) : Nat) = 2),
  ((1 : Nat) ≤ 1),
  ((1 : Nat) ≤ 1),
  ((((↑N : Int)) : Int) = ((↑N : Int))),
  ((0 : Nat) = 0),
  ((0 : Nat) = 0),
  ((2 : Nat) = 2),
  ((0 : Nat) ≤ 0),
  (∀ i : Nat, ((((i) : Nat) < 0) → (All [] ∧ (([.p .any, .p .any] : List AV) = [.p (.int .i64 0), .p (.int .i64 0)]))))]) := by kernel_rfl
theorem rLa (g : Nat → T_Bar) (nb N : Nat) (x : T_Bar) (i n : Nat) (pl : Bool) (h : Nat → T_Bar) :
    pieceOb Try.prog 0 [.reg [oT, oT, oT, oT, oT], .dec true, .reg [oT, oT, oT, oT, oT, oT, oT, oT, oT, ⟨true, (some ⟨[], [], 1, [], .p (.bool (aft (g i) x))⟩), none⟩, oT, oT], .dec true, .reg [oT, oT, oT, oT, oT, oT, oT], .reg [oT], .reg [oT, oT, oT, oT, oT, oT, oT, oT, oT, oT, oT], .reg [oT, oT, oT], .head] [.code (cAt (bodyOf Try.f108) [1, 1, 1, 0, 1, 0, 0]), .inLoop (cAt (bodyOf Try.f108) [1, 1, 1, 0, 1, 0, 0]), .inBlock 0, .code (cAt (bodyOf Try.f108) [1, 1, 1, 1])] (SL g nb N x i n pl h) [0, 1, 2, 3, 1061] 1 (SL g nb N x (i + 1) (n + 1 + 1) true (snoc (n + 1) (snoc n h x) (g i))) =
    some ([.code (cAt (bodyOf Try.f108) [1, 1, 1, 0, 1, 0, 0]), .inLoop (cAt (bodyOf Try.f108) [1, 1, 1, 0, 1, 0, 0]), .inBlock 0, .code (cAt (bodyOf Try.f108) [1, 1, 1, 1])], [((0 : Nat) < 1),
  ((decide ((↑i : Int) < (↑nb : Int))) = true),
  (((!pl) = true) → ((!pl) = true)),
  (((!pl) = true) → ((0 : Nat) < 1)),
  (((!pl) = true) → ((!pl) = true)),
  (((!pl) = true) → ((!pl) = true)),
  (((!pl) = true) → ((0 : Int) ≤ ((↑i : Int)))),
  (((!pl) = true) → ((((↑i : Int)) : Int) < ((↑nb : Int)))),
  (((!pl) = true) → ((!pl) = true)),
  (((!pl) = true) → ((0 : Nat) < 1)),
  (((!pl) = true) → ((!pl) = true)),
  (((!pl) = true) → ((!pl) = true)),
  (((!pl) = true) → Con (Try.prog) 113 0 [] [.agg [.p (.int .i64 ((g i).fst)), .p (.int .i64 ((g i).snd.fst))], .agg [.p (.int .i64 (x.fst)), .p (.int .i64 (x.snd.fst))]] [] (.p (.bool (aft (g i) x)))),
  (((!pl) = true) → ((!pl) = true)),
  (((!pl) = true) → ((!pl) = true)),
  ((bif !pl then !aft (g i) x else false) = true),
  ((0 : Nat) < 1),
  ((0 : Nat) < 1),
  ((1 : Nat) ≤ 1),
  (((n) : Nat) ≤ (n)),
  ((((n + 1) * 16) : Nat) ≤ 140737488355328),
  (((n + 1) : Nat) ≤ 9223372036854775807),
  ((0 : Nat) < 1),
  (((true) = true) → ((1 : Nat) = 1)),
  ((0 : Nat) < 1),
  ((0 : Nat) < 1),
  ((0 : Int) ≤ ((↑i : Int))),
  ((((↑i : Int)) : Int) < ((↑nb : Int))),
  ((1 : Nat) ≤ 1),
  (((n + 1) : Nat) ≤ (n + 1)),
  ((((n + 1 + 1) * 16) : Nat) ≤ 140737488355328),
  (((n + 1 + 1) : Nat) ≤ 9223372036854775807),
  ((0 : Nat) < 1),
  (((true) = true) → ((1 : Nat) = 1)),
  (((-9223372036854775808) : Int) ≤ ((↑i : Int) + 1)),
  ((((↑i : Int) + 1) : Int) ≤ 9223372036854775807),
  ((((↑N : Int)) : Int) = ((↑N : Int))),
  (((nb) : Nat) = (nb)),
  (∀ i_1 : Nat, ((((i_1) : Nat) < (nb)) → (([.int .i64 ((g i_1).fst), .int .i64 ((g i_1).snd.fst)] : List PV) = [.int .i64 ((g i_1).fst), .int .i64 ((g i_1).snd.fst)]))),
  (((x.fst) : Int) = (x.fst)),
  (((x.snd.fst) : Int) = (x.snd.fst)),
  ((0 : Nat) = 0),
  ((0 : Nat) = 0),
  ((0 : Nat) = 0),
  ((0 : Nat) = 0),
  (true = true),
  ((((↑i : Int) + 1) : Int) = ((↑(i + 1) : Int))),
  ((2 : Nat) = 2),
  ((1 : Nat) ≤ 1),
  ((1 : Nat) ≤ 1),
  ((((↑N : Int)) : Int) = ((↑N : Int))),
  (((nb) : Nat) = (nb)),
  (∀ i_1 : Nat, ((((i_1) : Nat) < (nb)) → (([.int .i64 ((g i_1).fst), .int .i64 ((g i_1).snd.fst)] : List PV) = [.int .i64 ((g i_1).fst), .int .i64 ((g i_1).snd.fst)]))),
  ((2 : Nat) = 2),
  ((1 : Nat) ≤ 1),
  ((1 : Nat) ≤ 1),
  (((x.fst) : Int) = (x.fst)),
  (((x.snd.fst) : Int) = (x.snd.fst)),
  ((2 : Nat) = 2),
  ((1 : Nat) ≤ 1),
  ((1 : Nat) ≤ 1),
  ((0 : Int) = 0),
  ((2 : Nat) = 2),
  ((1 : Nat) ≤ 1),
  ((1 : Nat) ≤ 1),
  ((((↑N : Int)) : Int) = ((↑N : Int))),
  ((0 : Nat) = 0),
  (((n + 1 + 1) : Nat) = (n + 1 + 1)),
  ((2 : Nat) = 2),
  (((n + 1 + 1) : Nat) ≤ (n + 1 + 1)),
  (∀ i_1 : Nat, ((((i_1) : Nat) < (n + 1 + 1)) → (All (cvtL false [(3, ⟨true, 2, 1, (fun i_2 => [.p (.int .i64 ((↑N : Int))), .ar 2 1061 0 (n + 1 + 1)])⟩), (1061, ⟨false, 2, (n + 1 + 1), (fun i_2 => (if (i_2 < n + 1) then (if (i_2 < n) then [.p (.int .i64 ((h i_2).fst)), .p (.int .i64 ((h i_2).snd.fst))] else [.p (.int .i64 (x.fst)), .p (.int .i64 (x.snd.fst))]) else [.p (.int .i64 ((g i).fst)), .p (.int .i64 ((g i).snd.fst))]))⟩), (1029, ⟨false, 2, 1, (fun i_2 => [.p (.int .i64 ((g i).fst)), .p (.int .i64 ((g i).snd.fst))])⟩), (645, ⟨false, 2, 1, (fun i_2 => [.p (.int .i64 (x.fst)), .p (.int .i64 (x.snd.fst))])⟩), (0, ⟨true, 2, 1, (fun i_2 => [.p (.int .i64 ((↑N : Int))), .p (.seq true 2 (nb) (fun i_3 => [.int .i64 ((g i_3).fst), .int .i64 ((g i_3).snd.fst)]))])⟩), (1, ⟨true, 2, 1, (fun i_2 => [.p (.int .i64 (x.fst)), .p (.int .i64 (x.snd.fst))])⟩), (2, ⟨true, 2, 1, (fun i_2 => [.p (.int .i64 0), .p (.nil)])⟩)] [0, 1, 2, 3, 1061] 1 (if (i_1 < n + 1) then (if (i_1 < n) then [.p (.int .i64 ((h i_1).fst)), .p (.int .i64 ((h i_1).snd.fst))] else [.p (.int .i64 (x.fst)), .p (.int .i64 (x.snd.fst))]) else [.p (.int .i64 ((g i).fst)), .p (.int .i64 ((g i).snd.fst))])).2 ∧ (((cvtL false [(3, ⟨true, 2, 1, (fun i_2 => [.p (.int .i64 ((↑N : Int))), .ar 2 1061 0 (n + 1 + 1)])⟩), (1061, ⟨false, 2, (n + 1 + 1), (fun i_2 => (if (i_2 < n + 1) then (if (i_2 < n) then [.p (.int .i64 ((h i_2).fst)), .p (.int .i64 ((h i_2).snd.fst))] else [.p (.int .i64 (x.fst)), .p (.int .i64 (x.snd.fst))]) else [.p (.int .i64 ((g i).fst)), .p (.int .i64 ((g i).snd.fst))]))⟩), (1029, ⟨false, 2, 1, (fun i_2 => [.p (.int .i64 ((g i).fst)), .p (.int .i64 ((g i).snd.fst))])⟩), (645, ⟨false, 2, 1, (fun i_2 => [.p (.int .i64 (x.fst)), .p (.int .i64 (x.snd.fst))])⟩), (0, ⟨true, 2, 1, (fun i_2 => [.p (.int .i64 ((↑N : Int))), .p (.seq true 2 (nb) (fun i_3 => [.int .i64 ((g i_3).fst), .int .i64 ((g i_3).snd.fst)]))])⟩), (1, ⟨true, 2, 1, (fun i_2 => [.p (.int .i64 (x.fst)), .p (.int .i64 (x.snd.fst))])⟩), (2, ⟨true, 2, 1, (fun i_2 => [.p (.int .i64 0), .p (.nil)])⟩)] [0, 1, 2, 3, 1061] 1 (if (i_1 < n + 1) then (if (i_1 < n) then [.p (.int .i64 ((h i_1).fst)), .p (.int .i64 ((h i_1).snd.fst))] else [.p (.int .i64 (x.fst)), .p (.int .i64 (x.snd.fst))]) else [.p (.int .i64 ((g i).fst)), .p (.int .i64 ((g i).snd.fst))])).1 : List AV) = [.p (.int .i64 (if i_1 < n + 1 then if i_1 < n then (h i_1).fst else x.fst else (g i).fst)), .p (.int .i64 (if i_1 < n + 1 then if i_1 < n then (h i_1).snd.fst else x.snd.fst else (g i).snd.fst))]))))]) := by kernel_rfl
theorem rLb (g : Nat → T_Bar) (nb N : Nat) (x : T_Bar) (i n : Nat) (pl : Bool) (h : Nat → T_Bar) :
    pieceOb Try.prog 0 [.reg [oT, oT, oT, oT, oT], .dec true, .reg [oT, oT, oT, oT, oT, oT, oT, oT, oT, ⟨true, (some ⟨[], [], 1, [], .p (.bool (aft (g i) x))⟩), none⟩, oT, oT], .dec false, .reg [oT, oT, oT, oT, oT, oT, oT, oT, oT, oT, oT], .reg [oT, oT, oT], .head] [.code (cAt (bodyOf Try.f108) [1, 1, 1, 0, 1, 0, 0]), .inLoop (cAt (bodyOf Try.f108) [1, 1, 1, 0, 1, 0, 0]), .inBlock 0, .code (cAt (bodyOf Try.f108) [1, 1, 1, 1])] (SL g nb N x i n pl h) [0, 1, 2, 3, 805] 1 (SL g nb N x (i + 1) (n + 1) pl (snoc n h (g i))) =
    some ([.code (cAt (bodyOf Try.f108) [1, 1, 1, 0, 1, 0, 0]), .inLoop (cAt (bodyOf Try.f108) [1, 1, 1, 0, 1, 0, 0]), .inBlock 0, .code (cAt (bodyOf Try.f108) [1, 1, 1, 1])], [((0 : Nat) < 1),
  ((decide ((↑i : Int) < (↑nb : Int))) = true),
  (((!pl) = true) → ((!pl) = true)),
  (((!pl) = true) → ((0 : Nat) < 1)),
  (((!pl) = true) → ((!pl) = true)),
  (((!pl) = true) → ((!pl) = true)),
  (((!pl) = true) → ((0 : Int) ≤ ((↑i : Int)))),
  (((!pl) = true) → ((((↑i : Int)) : Int) < ((↑nb : Int)))),
  (((!pl) = true) → ((!pl) = true)),
  (((!pl) = true) → ((0 : Nat) < 1)),
  (((!pl) = true) → ((!pl) = true)),
  (((!pl) = true) → ((!pl) = true)),
  (((!pl) = true) → Con (Try.prog) 113 0 [] [.agg [.p (.int .i64 ((g i).fst)), .p (.int .i64 ((g i).snd.fst))], .agg [.p (.int .i64 (x.fst)), .p (.int .i64 (x.snd.fst))]] [] (.p (.bool (aft (g i) x)))),
  (((!pl) = true) → ((!pl) = true)),
  (((!pl) = true) → ((!pl) = true)),
  ((bif !pl then !aft (g i) x else false) = false),
  ((0 : Nat) < 1),
  ((0 : Nat) < 1),
  ((0 : Int) ≤ ((↑i : Int))),
  ((((↑i : Int)) : Int) < ((↑nb : Int))),
  ((1 : Nat) ≤ 1),
  (((n) : Nat) ≤ (n)),
  ((((n + 1) * 16) : Nat) ≤ 140737488355328),
  (((n + 1) : Nat) ≤ 9223372036854775807),
  ((0 : Nat) < 1),
  (((true) = true) → ((1 : Nat) = 1)),
  (((-9223372036854775808) : Int) ≤ ((↑i : Int) + 1)),
  ((((↑i : Int) + 1) : Int) ≤ 9223372036854775807),
  ((((↑N : Int)) : Int) = ((↑N : Int))),
  (((nb) : Nat) = (nb)),
  (∀ i_1 : Nat, ((((i_1) : Nat) < (nb)) → (([.int .i64 ((g i_1).fst), .int .i64 ((g i_1).snd.fst)] : List PV) = [.int .i64 ((g i_1).fst), .int .i64 ((g i_1).snd.fst)]))),
  (((x.fst) : Int) = (x.fst)),
  (((x.snd.fst) : Int) = (x.snd.fst)),
  ((0 : Nat) = 0),
  ((0 : Nat) = 0),
  ((0 : Nat) = 0),
  ((0 : Nat) = 0),
  ((pl) = (pl)),
  ((((↑i : Int) + 1) : Int) = ((↑(i + 1) : Int))),
  ((2 : Nat) = 2),
  ((1 : Nat) ≤ 1),
  ((1 : Nat) ≤ 1),
  ((((↑N : Int)) : Int) = ((↑N : Int))),
  (((nb) : Nat) = (nb)),
  (∀ i_1 : Nat, ((((i_1) : Nat) < (nb)) → (([.int .i64 ((g i_1).fst), .int .i64 ((g i_1).snd.fst)] : List PV) = [.int .i64 ((g i_1).fst), .int .i64 ((g i_1).snd.fst)]))),
  ((2 : Nat) = 2),
  ((1 : Nat) ≤ 1),
  ((1 : Nat) ≤ 1),
  (((x.fst) : Int) = (x.fst)),
  (((x.snd.fst) : Int) = (x.snd.fst)),
  ((2 : Nat) = 2),
  ((1 : Nat) ≤ 1),
  ((1 : Nat) ≤ 1),
  ((0 : Int) = 0),
  ((2 : Nat) = 2),
  ((1 : Nat) ≤ 1),
  ((1 : Nat) ≤ 1),
  ((((↑N : Int)) : Int) = ((↑N : Int))),
  ((0 : Nat) = 0),
  (((n + 1) : Nat) = (n + 1)),
  ((2 : Nat) = 2),
  (((n + 1) : Nat) ≤ (n + 1)),
  (∀ i_1 : Nat, ((((i_1) : Nat) < (n + 1)) → (All (cvtL false [(3, ⟨true, 2, 1, (fun i_2 => [.p (.int .i64 ((↑N : Int))), .ar 2 805 0 (n + 1)])⟩), (805, ⟨false, 2, (n + 1), (fun i_2 => (if (i_2 < n) then [.p (.int .i64 ((h i_2).fst)), .p (.int .i64 ((h i_2).snd.fst))] else [.p (.int .i64 ((g i).fst)), .p (.int .i64 ((g i).snd.fst))]))⟩), (773, ⟨false, 2, 1, (fun i_2 => [.p (.int .i64 ((g i).fst)), .p (.int .i64 ((g i).snd.fst))])⟩), (0, ⟨true, 2, 1, (fun i_2 => [.p (.int .i64 ((↑N : Int))), .p (.seq true 2 (nb) (fun i_3 => [.int .i64 ((g i_3).fst), .int .i64 ((g i_3).snd.fst)]))])⟩), (1, ⟨true, 2, 1, (fun i_2 => [.p (.int .i64 (x.fst)), .p (.int .i64 (x.snd.fst))])⟩), (2, ⟨true, 2, 1, (fun i_2 => [.p (.int .i64 0), .p (.nil)])⟩)] [0, 1, 2, 3, 805] 1 (if (i_1 < n) then [.p (.int .i64 ((h i_1).fst)), .p (.int .i64 ((h i_1).snd.fst))] else [.p (.int .i64 ((g i).fst)), .p (.int .i64 ((g i).snd.fst))])).2 ∧ (((cvtL false [(3, ⟨true, 2, 1, (fun i_2 => [.p (.int .i64 ((↑N : Int))), .ar 2 805 0 (n + 1)])⟩), (805, ⟨false, 2, (n + 1), (fun i_2 => (if (i_2 < n) then [.p (.int .i64 ((h i_2).fst)), .p (.int .i64 ((h i_2).snd.fst))] else [.p (.int .i64 ((g i).fst)), .p (.int .i64 ((g i).snd.fst))]))⟩), (773, ⟨false, 2, 1, (fun i_2 => [.p (.int .i64 ((g i).fst)), .p (.int .i64 ((g i).snd.fst))])⟩), (0, ⟨true, 2, 1, (fun i_2 => [.p (.int .i64 ((↑N : Int))), .p (.seq true 2 (nb) (fun i_3 => [.int .i64 ((g i_3).fst), .int .i64 ((g i_3).snd.fst)]))])⟩), (1, ⟨true, 2, 1, (fun i_2 => [.p (.int .i64 (x.fst)), .p (.int .i64 (x.snd.fst))])⟩), (2, ⟨true, 2, 1, (fun i_2 => [.p (.int .i64 0), .p (.nil)])⟩)] [0, 1, 2, 3, 805] 1 (if (i_1 < n) then [.p (.int .i64 ((h i_1).fst)), .p (.int .i64 ((h i_1).snd.fst))] else [.p (.int .i64 ((g i).fst)), .p (.int .i64 ((g i).snd.fst))])).1 : List AV) = [.p (.int .i64 (if i_1 < n then (h i_1).fst else (g i).fst)), .p (.int .i64 (if i_1 < n then (h i_1).snd.fst else (g i).snd.fst))]))))]) := by kernel_rfl
theorem rLc (g : Nat → T_Bar) (nb N : Nat) (x : T_Bar) (i n : Nat) (pl : Bool) (h : Nat → T_Bar) :
    pathOb Try.prog Try.f108 0 [.reg [oT, oT, oT, oT, oT], .dec false, .reg [oT, oT], .dec true, .reg [oT, oT, oT, oT, oT, oT, oT], .reg [oT, oT]] [.code (cAt (bodyOf Try.f108) [1, 1, 1, 0, 1, 0, 0]), .inLoop (cAt (bodyOf Try.f108) [1, 1, 1, 0, 1, 0, 0]), .inBlock 0, .code (cAt (bodyOf Try.f108) [1, 1, 1, 1])] (SL g nb N x i n pl h) [357] 1 [(0, brOb (n + 1) (snoc n h x))] (.agg [.p (.int .i64 N), .ar 2 0 0 (n + 1)]) =
    some [((0 : Nat) < 1),
  ((decide ((↑i : Int) < (↑nb : Int))) = false),
  ((!pl) = true),
  ((0 : Nat) < 1),
  ((0 : Nat) < 1),
  ((1 : Nat) ≤ 1),
  (((n) : Nat) ≤ (n)),
  ((((n + 1) * 16) : Nat) ≤ 140737488355328),
  (((n + 1) : Nat) ≤ 9223372036854775807),
  ((0 : Nat) < 1),
  (((true) = true) → ((1 : Nat) = 1)),
  ((0 : Nat) < 1),
  ((0 : Nat) < 1),
  (((true) = true) → ((1 : Nat) = 1)),
  ((0 : Nat) < 1),
  ((((↑N : Int)) : Int) = ((↑N : Int))),
  ((0 : Nat) = 0),
  (((n + 1) : Nat) = (n + 1)),
  ((2 : Nat) = 2),
  (((n + 1) : Nat) ≤ (n + 1)),
  (∀ i_1 : Nat, ((((i_1) : Nat) < (n + 1)) → (All (cvtL false [(2, ⟨true, 2, 1, (fun i_2 => [.p (.int .i64 ((↑N : Int))), .ar 2 357 0 (n + 1)])⟩), (3, ⟨true, 2, 1, (fun i_2 => [.p (.int .i64 ((↑N : Int))), .ar 2 357 0 (n + 1)])⟩), (357, ⟨false, 2, (n + 1), (fun i_2 => (if (i_2 < n) then [.p (.int .i64 ((h i_2).fst)), .p (.int .i64 ((h i_2).snd.fst))] else [.p (.int .i64 (x.fst)), .p (.int .i64 (x.snd.fst))]))⟩), (325, ⟨false, 2, 1, (fun i_2 => [.p (.int .i64 (x.fst)), .p (.int .i64 (x.snd.fst))])⟩), (0, ⟨true, 2, 1, (fun i_2 => [.p (.int .i64 ((↑N : Int))), .p (.seq true 2 (nb) (fun i_3 => [.int .i64 ((g i_3).fst), .int .i64 ((g i_3).snd.fst)]))])⟩), (1, ⟨true, 2, 1, (fun i_2 => [.p (.int .i64 (x.fst)), .p (.int .i64 (x.snd.fst))])⟩)] [357] 1 (if (i_1 < n) then [.p (.int .i64 ((h i_1).fst)), .p (.int .i64 ((h i_1).snd.fst))] else [.p (.int .i64 (x.fst)), .p (.int .i64 (x.snd.fst))])).2 ∧ (((cvtL false [(2, ⟨true, 2, 1, (fun i_2 => [.p (.int .i64 ((↑N : Int))), .ar 2 357 0 (n + 1)])⟩), (3, ⟨true, 2, 1, (fun i_2 => [.p (.int .i64 ((↑N : Int))), .ar 2 357 0 (n + 1)])⟩), (357, ⟨false, 2, (n + 1), (fun i_2 => (if (i_2 < n) then [.p (.int .i64 ((h i_2).fst)), .p (.int .i64 ((h i_2).snd.fst))] else [.p (.int .i64 (x.fst)), .p (.int .i64 (x.snd.fst))]))⟩), (325, ⟨false, 2, 1, (fun i_2 => [.p (.int .i64 (x.fst)), .p (.int .i64 (x.snd.fst))])⟩), (0, ⟨true, 2, 1, (fun i_2 => [.p (.int .i64 ((↑N : Int))), .p (.seq true 2 (nb) (fun i_3 => [.int .i64 ((g i_3).fst), .int .i64 ((g i_3).snd.fst)]))])⟩), (1, ⟨true, 2, 1, (fun i_2 => [.p (.int .i64 (x.fst)), .p (.int .i64 (x.snd.fst))])⟩)] [357] 1 (if (i_1 < n) then [.p (.int .i64 ((h i_1).fst)), .p (.int .i64 ((h i_1).snd.fst))] else [.p (.int .i64 (x.fst)), .p (.int .i64 (x.snd.fst))])).1 : List AV) = [.p (.int .i64 (if i_1 < n then (h i_1).fst else x.fst)), .p (.int .i64 (if i_1 < n then (h i_1).snd.fst else x.snd.fst))])))),
  (∀ i_1 : Nat, ((((i_1) : Nat) < (n + 1)) → All []))] := by kernel_rfl
theorem rLd (g : Nat → T_Bar) (nb N : Nat) (x : T_Bar) (i n : Nat) (pl : Bool) (h : Nat → T_Bar) :
    pathOb Try.prog Try.f108 0 [.reg [oT, oT, oT, oT, oT], .dec false, .reg [oT, oT], .dec false, .reg [oT, oT]] [.code (cAt (bodyOf Try.f108) [1, 1, 1, 0, 1, 0, 0]), .inLoop (cAt (bodyOf Try.f108) [1, 1, 1, 0, 1, 0, 0]), .inBlock 0, .code (cAt (bodyOf Try.f108) [1, 1, 1, 1])] (SL g nb N x i n pl h) [4] 1 [(0, brOb n h)] (.agg [.p (.int .i64 N), .ar 2 0 0 n]) =
    some [((0 : Nat) < 1),
  ((decide ((↑i : Int) < (↑nb : Int))) = false),
  ((!pl) = false),
  ((0 : Nat) < 1),
  ((0 : Nat) < 1),
  (((true) = true) → ((1 : Nat) = 1)),
  ((0 : Nat) < 1),
  ((((↑N : Int)) : Int) = ((↑N : Int))),
  ((0 : Nat) = 0),
  (((n) : Nat) = (n)),
  ((2 : Nat) = 2),
  (((n) : Nat) ≤ (n)),
  (∀ i_1 : Nat, ((((i_1) : Nat) < (n)) → (All [] ∧ (([.p (.int .i64 ((h i_1).fst)), .p (.int .i64 ((h i_1).snd.fst))] : List AV) = [.p (.int .i64 ((h i_1).fst)), .p (.int .i64 ((h i_1).snd.fst))])))),
  (∀ i_1 : Nat, ((((i_1) : Nat) < (n)) → All []))] := by kernel_rfl
theorem snoc_lt {n : Nat} {h : Nat → T_Bar} {x : T_Bar} {s : Nat} (hs : s < n) : snoc n h x s = h s := by
  simp only [snoc, hs, if_true]

theorem snoc_ge {n : Nat} {h : Nat → T_Bar} {x : T_Bar} {s : Nat} (hs : ¬ s < n) : snoc n h x s = x := by
  simp only [snoc, hs, if_false]

theorem snoc_mem (n : Nat) (h : Nat → T_Bar) (x y : T_Bar) : (∃ s, s < n + 1 ∧ snoc n h x s = y) ↔ (∃ s, s < n ∧ h s = y) ∨ x = y := by
  constructor
  · rintro ⟨s, h1, h2⟩
    by_cases e : s < n
    · rw [snoc_lt e] at h2; exact .inl ⟨s, e, h2⟩
    · rw [snoc_ge e] at h2; exact .inr h2
  · rintro (⟨s, h1, h2⟩ | h2)
    · exact ⟨s, by omega, by rw [snoc_lt h1]; exact h2⟩
    · exact ⟨n, by omega, by rw [snoc_ge (Nat.lt_irrefl n)]; exact h2⟩

/-- The insertion, bar by bar: whether it is done, how many, which. -/
def insD (g : Nat → T_Bar) (x : T_Bar) : Nat → Bool × Nat × (Nat → T_Bar)
  | 0 => (false, 0, fun _ => (0, 0, ()))
  | i + 1 =>
    if (bif !(insD g x i).1 then !aft (g i) x else false) = true then (true, (insD g x i).2.1 + 1 + 1, snoc ((insD g x i).2.1 + 1) (snoc (insD g x i).2.1 (insD g x i).2.2 x) (g i))
    else ((insD g x i).1, (insD g x i).2.1 + 1, snoc (insD g x i).2.1 (insD g x i).2.2 (g i))
def insR (g : Nat → T_Bar) (nb : Nat) (x : T_Bar) : Nat × (Nat → T_Bar) :=
  if (insD g x nb).1 = true then ((insD g x nb).2.1, (insD g x nb).2.2) else ((insD g x nb).2.1 + 1, snoc (insD g x nb).2.1 (insD g x nb).2.2 x)

theorem insD_n (g : Nat → T_Bar) (x : T_Bar) : ∀ i, (insD g x i).2.1 = i + (if (insD g x i).1 = true then 1 else 0)
  | 0 => rfl
  | i + 1 => by
    have ih := insD_n g x i
    simp only [insD]
    split
    · rename_i h
      have hf : (insD g x i).1 = false := by
        cases e : (insD g x i).1 with
        | false => rfl
        | true => rw [e] at h; simp at h
      rw [hf] at ih
      simp only [if_true]
      simp at ih
      omega
    · simp only
      omega

theorem insD_mem (g : Nat → T_Bar) (x y : T_Bar) : ∀ i, (∃ s, s < (insD g x i).2.1 ∧ (insD g x i).2.2 s = y) ↔ (∃ s, s < i ∧ g s = y) ∨ ((insD g x i).1 = true ∧ x = y)
  | 0 => by
    constructor
    · rintro ⟨s, h1, _⟩; exact absurd h1 (Nat.not_lt_zero _)
    · rintro (⟨s, h1, _⟩ | ⟨h1, _⟩)
      · exact absurd h1 (Nat.not_lt_zero _)
      · cases h1
  | i + 1 => by
    have ih := insD_mem g x y i
    have step : (∃ s, s < i + 1 ∧ g s = y) ↔ (∃ s, s < i ∧ g s = y) ∨ g i = y := by
      constructor
      · rintro ⟨s, h1, h2⟩
        by_cases e : s = i
        · right; rw [← e]; exact h2
        · exact .inl ⟨s, by omega, h2⟩
      · rintro (⟨s, h1, h2⟩ | h2)
        · exact ⟨s, by omega, h2⟩
        · exact ⟨i, by omega, h2⟩
    simp only [insD]
    split
    · rename_i h
      have hf : (insD g x i).1 = false := by
        cases e : (insD g x i).1 with
        | false => rfl
        | true => rw [e] at h; simp at h
      simp only [snoc_mem, ih, step, hf]
      constructor
      · rintro ((( h | ⟨h, _⟩) | h) | h)
        · exact .inl (.inl h)
        · cases h
        · exact .inr ⟨trivial, h⟩
        · exact .inl (.inr h)
      · rintro ((h | h) | ⟨_, h⟩)
        · exact .inl (.inl (.inl h))
        · exact .inr h
        · exact .inl (.inr h)
    · simp only [snoc_mem, ih, step]
      constructor
      · rintro ((h | h) | h)
        · exact .inl (.inl h)
        · exact .inr h
        · exact .inl (.inr h)
      · rintro ((h | h) | h)
        · exact .inl (.inl h)
        · exact .inr h
        · exact .inl (.inr h)

theorem insR_mem (g : Nat → T_Bar) (nb : Nat) (x y : T_Bar) : (∃ s, s < (insR g nb x).1 ∧ (insR g nb x).2 s = y) ↔ (∃ s, s < nb ∧ g s = y) ∨ x = y := by
  have h := insD_mem g x y nb
  unfold insR
  split
  · rename_i hp
    simp only [h, hp, true_and]
  · rename_i hp
    simp only [snoc_mem, h]
    constructor
    · rintro ((h | ⟨h, _⟩) | h)
      · exact .inl h
      · exact absurd h hp
      · exact .inr h
    · rintro (h | h)
      · exact .inl (.inl h)
      · exact .inr h

theorem insR_n (g : Nat → T_Bar) (nb : Nat) (x : T_Bar) : (insR g nb x).1 = nb + 1 := by
  have h := insD_n g x nb
  unfold insR
  split
  · rename_i hp; rw [if_pos hp] at h; exact h
  · rename_i hp; rw [if_neg hp] at h; show (insD g x nb).2.1 + 1 = nb + 1; omega

theorem con_l2Put (g : Nat → T_Bar) (nb N : Nat) (x : T_Bar) (hnb : nb ≤ 1048576) : Con Try.prog 108 0 [] [grG g nb N, brA x] [(0, brOb (insR g nb x).1 (insR g nb x).2)] (.agg [.p (.int .i64 N), .ar 2 0 0 (insR g nb x).1]) := by
  refine con_start Try.func108 rfl (by kernel_rfl) rfl (fun c hc => ?_)
  have lp : ∀ d i, i + d = nb → Run Try.prog c 108 [.code (cAt (bodyOf Try.f108) [1, 1, 1, 0, 1, 0, 0]), .inLoop (cAt (bodyOf Try.f108) [1, 1, 1, 0, 1, 0, 0]), .inBlock 0, .code (cAt (bodyOf Try.f108) [1, 1, 1, 1])] (SL g nb N x i (insD g x i).2.1 (insD g x i).1 (insD g x i).2.2) (Post c [(0, brOb (insR g nb x).1 (insR g nb x).2)] (.agg [.p (.int .i64 N), .ar 2 0 0 (insR g nb x).1])) := by
    intro d
    induction d with
    | zero =>
      intro i hi
      obtain rfl : i = nb := by omega
      have hd : decide ((i : Int) < (i : Int)) = false := by simp
      have hn := insD_n g x i
      have hle : (insD g x i).2.1 ≤ i + 1 := by split at hn <;> omega
      cases hp : (insD g x i).1 with
      | true =>
        rw [show insR g i x = ((insD g x i).2.1, (insD g x i).2.2) by simp [insR, hp]]
        refine path_ok mixed Try.func108 hc (rLd g i N x i (insD g x i).2.1 true (insD g x i).2.2) ?_
        simp only [All]
        repeat' (first | exact trivial | with_reducible apply And.intro)
        all_goals (first | omega | rfl | (intros; first | assumption | exact True.intro | rfl | exact absurd (show false = true by assumption) Bool.false_ne_true | ((repeat' (first | assumption | apply anda | apply notf)); done)) | (intro i hi; simp [All]))
      | false =>
        rw [show insR g i x = ((insD g x i).2.1 + 1, snoc (insD g x i).2.1 (insD g x i).2.2 x) by simp [insR, hp]]
        refine path_ok mixed Try.func108 hc (rLc g i N x i (insD g x i).2.1 false (insD g x i).2.2) ?_
        simp only [All]
        repeat' (first | exact trivial | with_reducible apply And.intro)
        all_goals (first | omega | rfl | (intros; first | assumption | exact True.intro | rfl | exact absurd (show false = true by assumption) Bool.false_ne_true | ((repeat' (first | assumption | apply anda | apply notf)); done)) | (intro j hj; simp [All]; done) | (intro j hj; by_cases h : j < (insD g x i).2.1 <;> simp [h, snoc, cvtL, cvt, tg, tru, All]))
    | succ d ih =>
      intro i hi
      have hd : decide ((i : Int) < (nb : Int)) = true := by simp; omega
      have hn := insD_n g x i
      have hle : (insD g x i).2.1 ≤ i + 1 := by split at hn <;> omega
      have hca := con_l2After (g i) x
      have hs : insD g x (i + 1) = if (bif !(insD g x i).1 then !aft (g i) x else false) = true then (true, (insD g x i).2.1 + 1 + 1, snoc ((insD g x i).2.1 + 1) (snoc (insD g x i).2.1 (insD g x i).2.2 x) (g i)) else ((insD g x i).1, (insD g x i).2.1 + 1, snoc (insD g x i).2.1 (insD g x i).2.2 (g i)) := rfl
      have hih := ih (i + 1) (by omega)
      cases ht : (bif !(insD g x i).1 then !aft (g i) x else false) with
      | true =>
        rw [hs, if_pos ht] at hih
        refine piece_ok mixed hc (rLa g nb N x i (insD g x i).2.1 (insD g x i).1 (insD g x i).2.2) ?_ hih
        simp only [All]
        repeat' (first | exact trivial | with_reducible apply And.intro)
        all_goals (first | omega | rfl | (intros; first | assumption | exact True.intro | rfl | exact absurd (show false = true by assumption) Bool.false_ne_true | ((repeat' (first | assumption | apply anda | apply notf)); done)) | (intros; exact hca) | (exact ht) | (intro j hj; simp [All]; done) | (intro j hj; by_cases h : j < (insD g x i).2.1 + 1 <;> by_cases h' : j < (insD g x i).2.1 <;> simp [h, h', snoc, cvtL, cvt, tg, tru, All]) | (simp; omega))
      | false =>
        rw [hs, if_neg (by rw [ht]; simp)] at hih
        refine piece_ok mixed hc (rLb g nb N x i (insD g x i).2.1 (insD g x i).1 (insD g x i).2.2) ?_ hih
        simp only [All]
        repeat' (first | exact trivial | with_reducible apply And.intro)
        all_goals (first | omega | rfl | (intros; first | assumption | exact True.intro | rfl | exact absurd (show false = true by assumption) Bool.false_ne_true | ((repeat' (first | assumption | apply anda | apply notf)); done)) | (intros; exact hca) | (exact ht) | (intro j hj; simp [All]; done) | (intro j hj; by_cases h : j < (insD g x i).2.1 <;> simp [h, snoc, cvtL, cvt, tg, tru, All]))
  refine piece_ok mixed hc (rLz g nb N x) ?_ (lp nb 0 (by omega))
  simp only [All]
  repeat' (first | exact trivial | with_reducible apply And.intro)
  all_goals (first | omega | rfl | (intros; first | assumption | exact True.intro | rfl | exact absurd (show false = true by assumption) Bool.false_ne_true | ((repeat' (first | assumption | apply anda | apply notf)); done)) | (intro i hi; simp [All]))

end Go.Proofs.Ytgdbnnmogddkaaa.Mach
