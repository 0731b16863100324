/- The ground of a pinned structure held together: both programs' bars, and the ranks. Conditions: as each theorem says. -/
import Derived.Test.YtgdbnnmogddkaaaRep
import Derived.Test.YtgdbnnmogddkaaaMatP
namespace Go.Proofs.Ytgdbnnmogddkaaa.Mach
open Go Go.Sort
set_option linter.unusedVariables false
set_option linter.unusedSimpArgs false

def SHo (p : T_Pinned) (i n : Nat) (h : Nat → T_Bar) : St :=
  ⟨[pinA p, .pt 3 0 0 0, .p .any, .ar 2 1 0 n] ++ List.replicate 6 anyA ++ [inL p.2.1, .p (.int .i64 p.2.1.1), .p (.int .i64 i)] ++ List.replicate 23 anyA, [(0, boxP p), (1, brOb n h)], 2⟩
def SHi (p : T_Pinned) (i j n : Nat) (h : Nat → T_Bar) : St :=
  ⟨[pinA p, .pt 3 0 0 0, .p .any, .ar 2 1 0 n, .p .any, .p (.int .i64 (p.2.1.2 i))] ++ List.replicate 4 anyA ++ [inL p.2.1, .p (.int .i64 p.2.1.1), .p (.int .i64 i)] ++ List.replicate 8 anyA ++
    [.p (.seq true 1 (p.2.1.1 - (i + 1)) (fun s => [.int .i64 (p.2.1.2 (s + (i + 1)))])), .p (.int .i64 ((p.2.1.1 - (i + 1) : Nat) : Int)), .p (.int .i64 j)] ++ List.replicate 12 anyA, [(0, boxP p), (1, brOb n h)], 2⟩
def SKl (p : T_Pinned) (k n : Nat) (h : Nat → T_Bar) : St :=
  ⟨[pinA p, .pt 3 0 0 0, .pt 2 1 0 0, .pt 2 2 0 0, .p (.int .i64 k)] ++ List.replicate 39 anyA, [(0, boxP p), (1, zG2), (2, ⟨true, 2, 1, fun _ => [.p (.int .i64 p.1.1), .ar 2 3 0 n]⟩), (3, brOb n h)], 4⟩
def SKa (p : T_Pinned) (k n : Nat) (h : Nat → T_Bar) : St :=
  ⟨[pinA p, .pt 3 0 0 0, .pt 2 1 0 0, .pt 2 2 0 0, .p (.int .i64 k)] ++ List.replicate 19 anyA, [(0, boxP p), (1, zG2), (2, ⟨true, 2, 1, fun _ => [.p (.int .i64 p.1.1), .ar 2 3 0 n]⟩), (3, brOb n h)], 4⟩

theorem hAz (p : T_Pinned) :
    pieceOb Try.prog 0 [.reg [oT, oT], .reg [oT, oT], .reg [oT, oT, oT, oT], .head] [.code (bodyOf Try.f104)] (start Try.f104 [] 0 [pinA p]) [0, 64] 1 (SHo p 0 0 (fun _ => (0, 0, ()))) =
    some ([.code (cAt (bodyOf Try.f104) [1, 1, 0, 1, 0, 0]), .inLoop (cAt (bodyOf Try.f104) [1, 1, 0, 1, 0, 0]), .inBlock 0, .code (cAt (bodyOf Try.f104) [1, 1, 1])], [((0 : Nat) < 1),
  (((p.fst.fst) : Int) = (p.fst.fst)),
  (((p.fst.snd.fst.fst) : Nat) = (p.fst.snd.fst.fst)),
  (∀ i : Nat, ((((i) : Nat) < (p.fst.snd.fst.fst)) → (([.int .i64 ((p.fst.snd.fst.snd i).fst), .int .i64 ((p.fst.snd.fst.snd i).snd.fst)] : List PV) = [.int .i64 ((p.fst.snd.fst.snd i).fst), .int .i64 ((p.fst.snd.fst.snd i).snd.fst)]))),
  (((p.snd.fst.fst) : Nat) = (p.snd.fst.fst)),
  (∀ i : Nat, ((((i) : Nat) < (p.snd.fst.fst)) → (([.int .i64 (p.snd.fst.snd i)] : List PV) = [.int .i64 (p.snd.fst.snd i)]))),
  ((0 : Nat) = 0),
  ((0 : Nat) = 0),
  ((0 : Nat) = 0),
  (((p.snd.fst.fst) : Nat) = (p.snd.fst.fst)),
  (∀ i : Nat, ((((i) : Nat) < (p.snd.fst.fst)) → (([.int .i64 (p.snd.fst.snd i)] : List PV) = [.int .i64 (p.snd.fst.snd i)]))),
  ((((↑p.snd.fst.fst : Int)) : Int) = ((↑p.snd.fst.fst : Int))),
  ((0 : Int) = ((↑0 : Int))),
  ((([AV.p (PV.int IntKind.i64 p.fst.fst), graphL p.fst.snd.fst, inL p.snd.fst].length) : Nat) = 3),
  ((1 : Nat) ≤ 1),
  ((1 : Nat) ≤ 1),
  (((p.fst.fst) : Int) = (p.fst.fst)),
  (((p.fst.snd.fst.fst) : Nat) = (p.fst.snd.fst.fst)),
  (∀ i : Nat, ((((i) : Nat) < (p.fst.snd.fst.fst)) → (([.int .i64 ((p.fst.snd.fst.snd i).fst), .int .i64 ((p.fst.snd.fst.snd i).snd.fst)] : List PV) = [.int .i64 ((p.fst.snd.fst.snd i).fst), .int .i64 ((p.fst.snd.fst.snd i).snd.fst)]))),
  (((p.snd.fst.fst) : Nat) = (p.snd.fst.fst)),
  (∀ i : Nat, ((((i) : Nat) < (p.snd.fst.fst)) → (([.int .i64 (p.snd.fst.snd i)] : List PV) = [.int .i64 (p.snd.fst.snd i)]))),
  ((2 : Nat) = 2),
  ((0 : Nat) ≤ 0),
  (∀ i : Nat, ((((i) : Nat) < 0) → (All [] ∧ (([.p .any, .p .any] : List AV) = [.p (.int .i64 0), .p (.int .i64 0)]))))]) := by kernel_rfl
theorem hAo (p : T_Pinned) (i n : Nat) (h : Nat → T_Bar) :
    pieceOb Try.prog 0 [.reg [oT], .dec true, .reg [oT, oT, oT, oT, oT], .reg [oT, oT, oT, oT, oT, oT, oT], .head] [.code (cAt (bodyOf Try.f104) [1, 1, 0, 1, 0, 0]), .inLoop (cAt (bodyOf Try.f104) [1, 1, 0, 1, 0, 0]), .inBlock 0, .code (cAt (bodyOf Try.f104) [1, 1, 1])] (SHo p i n h) [0, 1] 1 (SHi p i 0 n h) =
    some ([.code (cAt (bodyOf Try.f104) [1, 1, 0, 1, 0, 0, 1, 1, 0, 0, 1, 1, 0, 0]), .inLoop (cAt (bodyOf Try.f104) [1, 1, 0, 1, 0, 0, 1, 1, 0, 0, 1, 1, 0, 0]), .inBlock 2, .inBlock 1, .code (cAt (bodyOf Try.f104) [1, 1, 0, 1, 0, 0, 1, 1, 1]), .inLoop (cAt (bodyOf Try.f104) [1, 1, 0, 1, 0, 0]), .inBlock 0, .code (cAt (bodyOf Try.f104) [1, 1, 1])], [((decide ((↑i : Int) < (↑p.snd.fst.fst : Int))) = true),
  ((0 : Int) ≤ ((↑i : Int))),
  ((((↑i : Int)) : Int) < ((↑p.snd.fst.fst : Int))),
  ((0 : Nat) < 1),
  (((-9223372036854775808) : Int) ≤ ((↑i : Int) + 1)),
  ((((↑i : Int) + 1) : Int) ≤ 9223372036854775807),
  ((0 : Int) ≤ ((↑i : Int) + 1)),
  ((((↑i : Int) + 1) : Int) ≤ ((↑p.snd.fst.fst : Int))),
  ((((↑p.snd.fst.fst : Int)) : Int) ≤ ((↑p.snd.fst.fst : Int))),
  (((p.fst.fst) : Int) = (p.fst.fst)),
  (((p.fst.snd.fst.fst) : Nat) = (p.fst.snd.fst.fst)),
  (∀ i_1 : Nat, ((((i_1) : Nat) < (p.fst.snd.fst.fst)) → (([.int .i64 ((p.fst.snd.fst.snd i_1).fst), .int .i64 ((p.fst.snd.fst.snd i_1).snd.fst)] : List PV) = [.int .i64 ((p.fst.snd.fst.snd i_1).fst), .int .i64 ((p.fst.snd.fst.snd i_1).snd.fst)]))),
  (((p.snd.fst.fst) : Nat) = (p.snd.fst.fst)),
  (∀ i_1 : Nat, ((((i_1) : Nat) < (p.snd.fst.fst)) → (([.int .i64 (p.snd.fst.snd i_1)] : List PV) = [.int .i64 (p.snd.fst.snd i_1)]))),
  ((0 : Nat) = 0),
  ((0 : Nat) = 0),
  (((n) : Nat) = (n)),
  (((p.snd.fst.snd i) : Int) = (p.snd.fst.snd i)),
  (((p.snd.fst.fst) : Nat) = (p.snd.fst.fst)),
  (∀ i_1 : Nat, ((((i_1) : Nat) < (p.snd.fst.fst)) → (([.int .i64 (p.snd.fst.snd i_1)] : List PV) = [.int .i64 (p.snd.fst.snd i_1)]))),
  ((((↑p.snd.fst.fst : Int)) : Int) = ((↑p.snd.fst.fst : Int))),
  ((((↑i : Int)) : Int) = ((↑i : Int))),
  (((p.snd.fst.fst - (i + 1)) : Nat) = (p.snd.fst.fst - (i + 1))),
  (∀ i_1 : Nat, ((((i_1) : Nat) < (p.snd.fst.fst - (i + 1))) → (([.int .i64 (p.snd.fst.snd (i_1 + (i + 1)))] : List PV) = [.int .i64 (p.snd.fst.snd (i_1 + (i + 1)))]))),
  ((((↑(p.snd.fst.fst - (i + 1)) : Int)) : Int) = ((↑(p.snd.fst.fst - (i + 1)) : Int))),
  ((0 : Int) = ((↑0 : Int))),
  ((3 : Nat) = 3),
  ((1 : Nat) ≤ 1),
  ((1 : Nat) ≤ 1),
  (((p.fst.fst) : Int) = (p.fst.fst)),
  (((p.fst.snd.fst.fst) : Nat) = (p.fst.snd.fst.fst)),
  (∀ i_1 : Nat, ((((i_1) : Nat) < (p.fst.snd.fst.fst)) → (([.int .i64 ((p.fst.snd.fst.snd i_1).fst), .int .i64 ((p.fst.snd.fst.snd i_1).snd.fst)] : List PV) = [.int .i64 ((p.fst.snd.fst.snd i_1).fst), .int .i64 ((p.fst.snd.fst.snd i_1).snd.fst)]))),
  (((p.snd.fst.fst) : Nat) = (p.snd.fst.fst)),
  (∀ i_1 : Nat, ((((i_1) : Nat) < (p.snd.fst.fst)) → (([.int .i64 (p.snd.fst.snd i_1)] : List PV) = [.int .i64 (p.snd.fst.snd i_1)]))),
  ((2 : Nat) = 2),
  (((n) : Nat) ≤ (n)),
  (∀ i_1 : Nat, ((((i_1) : Nat) < (n)) → (All [] ∧ (([.p (.int .i64 ((h i_1).fst)), .p (.int .i64 ((h i_1).snd.fst))] : List AV) = [.p (.int .i64 ((h i_1).fst)), .p (.int .i64 ((h i_1).snd.fst))]))))]) := by kernel_rfl
theorem hAi (p : T_Pinned) (i j n : Nat) (h : Nat → T_Bar) (x : T_Bar) :
    pieceOb Try.prog 0 [.reg [oT], .dec true, .reg [oT, oT, oT], .reg [oT, oT, oT, ⟨true, (some ⟨[], [], 1, [], .agg [.p (.int .i64 x.1), .p (.int .i64 x.2.1)]⟩), none⟩, oT, oT, oT], .reg [oT, oT], .head] [.code (cAt (bodyOf Try.f104) [1, 1, 0, 1, 0, 0, 1, 1, 0, 0, 1, 1, 0, 0]), .inLoop (cAt (bodyOf Try.f104) [1, 1, 0, 1, 0, 0, 1, 1, 0, 0, 1, 1, 0, 0]), .inBlock 2, .inBlock 1, .code (cAt (bodyOf Try.f104) [1, 1, 0, 1, 0, 0, 1, 1, 1]), .inLoop (cAt (bodyOf Try.f104) [1, 1, 0, 1, 0, 0]), .inBlock 0, .code (cAt (bodyOf Try.f104) [1, 1, 1])] (SHi p i j n h) [0, 290] 1 (SHi p i (j + 1) (n + 1) (snoc n h x)) =
    some ([.code (cAt (bodyOf Try.f104) [1, 1, 0, 1, 0, 0, 1, 1, 0, 0, 1, 1, 0, 0]), .inLoop (cAt (bodyOf Try.f104) [1, 1, 0, 1, 0, 0, 1, 1, 0, 0, 1, 1, 0, 0]), .inBlock 2, .inBlock 1, .code (cAt (bodyOf Try.f104) [1, 1, 0, 1, 0, 0, 1, 1, 1]), .inLoop (cAt (bodyOf Try.f104) [1, 1, 0, 1, 0, 0]), .inBlock 0, .code (cAt (bodyOf Try.f104) [1, 1, 1])], [((decide ((↑j : Int) < (↑(p.snd.fst.fst - (i + 1)) : Int))) = true),
  ((0 : Int) ≤ ((↑j : Int))),
  ((((↑j : Int)) : Int) < ((↑(p.snd.fst.fst - (i + 1)) : Int))),
  Con (Try.prog) 106 0 [] [.p (.int .i64 (p.snd.fst.snd i)), .p (.int .i64 (p.snd.fst.snd (j + (i + 1))))] [] (.agg [.p (.int .i64 (x.fst)), .p (.int .i64 (x.snd.fst))]),
  ((1 : Nat) ≤ 1),
  (((n) : Nat) ≤ (n)),
  ((((n + 1) * 16) : Nat) ≤ 140737488355328),
  (((n + 1) : Nat) ≤ 9223372036854775807),
  (((-9223372036854775808) : Int) ≤ ((↑j : Int) + 1)),
  ((((↑j : Int) + 1) : Int) ≤ 9223372036854775807),
  (((p.fst.fst) : Int) = (p.fst.fst)),
  (((p.fst.snd.fst.fst) : Nat) = (p.fst.snd.fst.fst)),
  (∀ i_1 : Nat, ((((i_1) : Nat) < (p.fst.snd.fst.fst)) → (([.int .i64 ((p.fst.snd.fst.snd i_1).fst), .int .i64 ((p.fst.snd.fst.snd i_1).snd.fst)] : List PV) = [.int .i64 ((p.fst.snd.fst.snd i_1).fst), .int .i64 ((p.fst.snd.fst.snd i_1).snd.fst)]))),
  (((p.snd.fst.fst) : Nat) = (p.snd.fst.fst)),
  (∀ i_1 : Nat, ((((i_1) : Nat) < (p.snd.fst.fst)) → (([.int .i64 (p.snd.fst.snd i_1)] : List PV) = [.int .i64 (p.snd.fst.snd i_1)]))),
  ((0 : Nat) = 0),
  ((0 : Nat) = 0),
  (((n + 1) : Nat) = (n + 1)),
  (((p.snd.fst.snd i) : Int) = (p.snd.fst.snd i)),
  (((p.snd.fst.fst) : Nat) = (p.snd.fst.fst)),
  (∀ i_1 : Nat, ((((i_1) : Nat) < (p.snd.fst.fst)) → (([.int .i64 (p.snd.fst.snd i_1)] : List PV) = [.int .i64 (p.snd.fst.snd i_1)]))),
  ((((↑p.snd.fst.fst : Int)) : Int) = ((↑p.snd.fst.fst : Int))),
  ((((↑i : Int)) : Int) = ((↑i : Int))),
  (((p.snd.fst.fst - (i + 1)) : Nat) = (p.snd.fst.fst - (i + 1))),
  (∀ i_1 : Nat, ((((i_1) : Nat) < (p.snd.fst.fst - (i + 1))) → (([.int .i64 (p.snd.fst.snd (i_1 + (i + 1)))] : List PV) = [.int .i64 (p.snd.fst.snd (i_1 + (i + 1)))]))),
  ((((↑(p.snd.fst.fst - (i + 1)) : Int)) : Int) = ((↑(p.snd.fst.fst - (i + 1)) : Int))),
  ((((↑j : Int) + 1) : Int) = ((↑(j + 1) : Int))),
  ((3 : Nat) = 3),
  ((1 : Nat) ≤ 1),
  ((1 : Nat) ≤ 1),
  (((p.fst.fst) : Int) = (p.fst.fst)),
  (((p.fst.snd.fst.fst) : Nat) = (p.fst.snd.fst.fst)),
  (∀ i_1 : Nat, ((((i_1) : Nat) < (p.fst.snd.fst.fst)) → (([.int .i64 ((p.fst.snd.fst.snd i_1).fst), .int .i64 ((p.fst.snd.fst.snd i_1).snd.fst)] : List PV) = [.int .i64 ((p.fst.snd.fst.snd i_1).fst), .int .i64 ((p.fst.snd.fst.snd i_1).snd.fst)]))),
  (((p.snd.fst.fst) : Nat) = (p.snd.fst.fst)),
  (∀ i_1 : Nat, ((((i_1) : Nat) < (p.snd.fst.fst)) → (([.int .i64 (p.snd.fst.snd i_1)] : List PV) = [.int .i64 (p.snd.fst.snd i_1)]))),
  ((2 : Nat) = 2),
  (((n + 1) : Nat) ≤ (n + 1)),
  (∀ i_1 : Nat, ((((i_1) : Nat) < (n + 1)) → (All (cvtL false [(290, ⟨false, 2, (n + 1), (fun i_2 => (if (i_2 < n) then [.p (.int .i64 ((h i_2).fst)), .p (.int .i64 ((h i_2).snd.fst))] else [.p (.int .i64 (x.fst)), .p (.int .i64 (x.snd.fst))]))⟩), (258, ⟨false, 2, 1, (fun i_2 => [.p (.int .i64 (x.fst)), .p (.int .i64 (x.snd.fst))])⟩), (0, ⟨true, 3, 1, (fun i_2 => [.p (.int .i64 (p.fst.fst)), .p (.seq true 2 (p.fst.snd.fst.fst) (fun i_3 => [.int .i64 ((p.fst.snd.fst.snd i_3).fst), .int .i64 ((p.fst.snd.fst.snd i_3).snd.fst)])), .p (.seq true 1 (p.snd.fst.fst) (fun i_3 => [.int .i64 (p.snd.fst.snd i_3)]))])⟩)] [0, 290] 1 (if (i_1 < n) then [.p (.int .i64 ((h i_1).fst)), .p (.int .i64 ((h i_1).snd.fst))] else [.p (.int .i64 (x.fst)), .p (.int .i64 (x.snd.fst))])).2 ∧ (((cvtL false [(290, ⟨false, 2, (n + 1), (fun i_2 => (if (i_2 < n) then [.p (.int .i64 ((h i_2).fst)), .p (.int .i64 ((h i_2).snd.fst))] else [.p (.int .i64 (x.fst)), .p (.int .i64 (x.snd.fst))]))⟩), (258, ⟨false, 2, 1, (fun i_2 => [.p (.int .i64 (x.fst)), .p (.int .i64 (x.snd.fst))])⟩), (0, ⟨true, 3, 1, (fun i_2 => [.p (.int .i64 (p.fst.fst)), .p (.seq true 2 (p.fst.snd.fst.fst) (fun i_3 => [.int .i64 ((p.fst.snd.fst.snd i_3).fst), .int .i64 ((p.fst.snd.fst.snd i_3).snd.fst)])), .p (.seq true 1 (p.snd.fst.fst) (fun i_3 => [.int .i64 (p.snd.fst.snd i_3)]))])⟩)] [0, 290] 1 (if (i_1 < n) then [.p (.int .i64 ((h i_1).fst)), .p (.int .i64 ((h i_1).snd.fst))] else [.p (.int .i64 (x.fst)), .p (.int .i64 (x.snd.fst))])).1 : List AV) = [.p (.int .i64 (if i_1 < n then (h i_1).fst else x.fst)), .p (.int .i64 (if i_1 < n then (h i_1).snd.fst else x.snd.fst))]))))]) := by kernel_rfl
theorem hAx (p : T_Pinned) (i j n : Nat) (h : Nat → T_Bar) :
    pieceOb Try.prog 0 [.reg [oT], .dec false, .reg [oT, oT], .head] [.code (cAt (bodyOf Try.f104) [1, 1, 0, 1, 0, 0, 1, 1, 0, 0, 1, 1, 0, 0]), .inLoop (cAt (bodyOf Try.f104) [1, 1, 0, 1, 0, 0, 1, 1, 0, 0, 1, 1, 0, 0]), .inBlock 2, .inBlock 1, .code (cAt (bodyOf Try.f104) [1, 1, 0, 1, 0, 0, 1, 1, 1]), .inLoop (cAt (bodyOf Try.f104) [1, 1, 0, 1, 0, 0]), .inBlock 0, .code (cAt (bodyOf Try.f104) [1, 1, 1])] (SHi p i j n h) [0, 1] 1 (SHo p (i + 1) n h) =
    some ([.code (cAt (bodyOf Try.f104) [1, 1, 0, 1, 0, 0]), .inLoop (cAt (bodyOf Try.f104) [1, 1, 0, 1, 0, 0]), .inBlock 0, .code (cAt (bodyOf Try.f104) [1, 1, 1])], [((decide ((↑j : Int) < (↑(p.snd.fst.fst - (i + 1)) : Int))) = false),
  (((-9223372036854775808) : Int) ≤ ((↑i : Int) + 1)),
  ((((↑i : Int) + 1) : Int) ≤ 9223372036854775807),
  (((p.fst.fst) : Int) = (p.fst.fst)),
  (((p.fst.snd.fst.fst) : Nat) = (p.fst.snd.fst.fst)),
  (∀ i_1 : Nat, ((((i_1) : Nat) < (p.fst.snd.fst.fst)) → (([.int .i64 ((p.fst.snd.fst.snd i_1).fst), .int .i64 ((p.fst.snd.fst.snd i_1).snd.fst)] : List PV) = [.int .i64 ((p.fst.snd.fst.snd i_1).fst), .int .i64 ((p.fst.snd.fst.snd i_1).snd.fst)]))),
  (((p.snd.fst.fst) : Nat) = (p.snd.fst.fst)),
  (∀ i_1 : Nat, ((((i_1) : Nat) < (p.snd.fst.fst)) → (([.int .i64 (p.snd.fst.snd i_1)] : List PV) = [.int .i64 (p.snd.fst.snd i_1)]))),
  ((0 : Nat) = 0),
  ((0 : Nat) = 0),
  (((n) : Nat) = (n)),
  (((p.snd.fst.fst) : Nat) = (p.snd.fst.fst)),
  (∀ i_1 : Nat, ((((i_1) : Nat) < (p.snd.fst.fst)) → (([.int .i64 (p.snd.fst.snd i_1)] : List PV) = [.int .i64 (p.snd.fst.snd i_1)]))),
  ((((↑p.snd.fst.fst : Int)) : Int) = ((↑p.snd.fst.fst : Int))),
  ((((↑i : Int) + 1) : Int) = ((↑(i + 1) : Int))),
  ((3 : Nat) = 3),
  ((1 : Nat) ≤ 1),
  ((1 : Nat) ≤ 1),
  (((p.fst.fst) : Int) = (p.fst.fst)),
  (((p.fst.snd.fst.fst) : Nat) = (p.fst.snd.fst.fst)),
  (∀ i_1 : Nat, ((((i_1) : Nat) < (p.fst.snd.fst.fst)) → (([.int .i64 ((p.fst.snd.fst.snd i_1).fst), .int .i64 ((p.fst.snd.fst.snd i_1).snd.fst)] : List PV) = [.int .i64 ((p.fst.snd.fst.snd i_1).fst), .int .i64 ((p.fst.snd.fst.snd i_1).snd.fst)]))),
  (((p.snd.fst.fst) : Nat) = (p.snd.fst.fst)),
  (∀ i_1 : Nat, ((((i_1) : Nat) < (p.snd.fst.fst)) → (([.int .i64 (p.snd.fst.snd i_1)] : List PV) = [.int .i64 (p.snd.fst.snd i_1)]))),
  ((2 : Nat) = 2),
  (((n) : Nat) ≤ (n)),
  (∀ i_1 : Nat, ((((i_1) : Nat) < (n)) → (All [] ∧ (([.p (.int .i64 ((h i_1).fst)), .p (.int .i64 ((h i_1).snd.fst))] : List AV) = [.p (.int .i64 ((h i_1).fst)), .p (.int .i64 ((h i_1).snd.fst))]))))]) := by kernel_rfl
theorem hAe (p : T_Pinned) (i n : Nat) (h : Nat → T_Bar) :
    pathOb Try.prog Try.f104 0 [.reg [oT], .dec false, .reg [oT, oT]] [.code (cAt (bodyOf Try.f104) [1, 1, 0, 1, 0, 0]), .inLoop (cAt (bodyOf Try.f104) [1, 1, 0, 1, 0, 0]), .inBlock 0, .code (cAt (bodyOf Try.f104) [1, 1, 1])] (SHo p i n h) [1] 1 [(0, brOb n h)] (.ar 2 0 0 n) =
    some [((decide ((↑i : Int) < (↑p.snd.fst.fst : Int))) = false),
  ((0 : Nat) = 0),
  (((n) : Nat) = (n)),
  ((2 : Nat) = 2),
  (((n) : Nat) ≤ (n)),
  (∀ i_1 : Nat, ((((i_1) : Nat) < (n)) → (All [] ∧ (([.p (.int .i64 ((h i_1).fst)), .p (.int .i64 ((h i_1).snd.fst))] : List AV) = [.p (.int .i64 ((h i_1).fst)), .p (.int .i64 ((h i_1).snd.fst))])))),
  (∀ i_1 : Nat, ((((i_1) : Nat) < (n)) → All []))] := by kernel_rfl
theorem hKz (p : T_Pinned) :
    pieceOb Try.prog 0 [.reg [oT, oT], .reg [oT, oT, oT, oT, oT, oT, oT], .reg [oT], .head] [.code (bodyOf Try.f128)] (start Try.f128 [] 0 [pinA p]) [0, 32, 224, 160] 1 (SKl p 1 0 (fun _ => (0, 0, ()))) =
    some ([.code (cAt (bodyOf Try.f128) [1, 1, 0, 1, 0, 0]), .inLoop (cAt (bodyOf Try.f128) [1, 1, 0, 1, 0, 0]), .inBlock 0, .code (cAt (bodyOf Try.f128) [1, 1, 1])], [((0 : Nat) < 1),
  ((0 : Nat) < 1),
  (((true) = true) → ((1 : Nat) = 1)),
  (((p.fst.fst) : Int) = (p.fst.fst)),
  (((p.fst.snd.fst.fst) : Nat) = (p.fst.snd.fst.fst)),
  (∀ i : Nat, ((((i) : Nat) < (p.fst.snd.fst.fst)) → (([.int .i64 ((p.fst.snd.fst.snd i).fst), .int .i64 ((p.fst.snd.fst.snd i).snd.fst)] : List PV) = [.int .i64 ((p.fst.snd.fst.snd i).fst), .int .i64 ((p.fst.snd.fst.snd i).snd.fst)]))),
  (((p.snd.fst.fst) : Nat) = (p.snd.fst.fst)),
  (∀ i : Nat, ((((i) : Nat) < (p.snd.fst.fst)) → (([.int .i64 (p.snd.fst.snd i)] : List PV) = [.int .i64 (p.snd.fst.snd i)]))),
  ((0 : Nat) = 0),
  ((0 : Nat) = 0),
  ((0 : Nat) = 0),
  ((1 : Int) = ((↑1 : Int))),
  ((([AV.p (PV.int IntKind.i64 p.fst.fst), graphL p.fst.snd.fst, inL p.snd.fst].length) : Nat) = 3),
  ((1 : Nat) ≤ 1),
  ((1 : Nat) ≤ 1),
  (((p.fst.fst) : Int) = (p.fst.fst)),
  (((p.fst.snd.fst.fst) : Nat) = (p.fst.snd.fst.fst)),
  (∀ i : Nat, ((((i) : Nat) < (p.fst.snd.fst.fst)) → (([.int .i64 ((p.fst.snd.fst.snd i).fst), .int .i64 ((p.fst.snd.fst.snd i).snd.fst)] : List PV) = [.int .i64 ((p.fst.snd.fst.snd i).fst), .int .i64 ((p.fst.snd.fst.snd i).snd.fst)]))),
  (((p.snd.fst.fst) : Nat) = (p.snd.fst.fst)),
  (∀ i : Nat, ((((i) : Nat) < (p.snd.fst.fst)) → (([.int .i64 (p.snd.fst.snd i)] : List PV) = [.int .i64 (p.snd.fst.snd i)]))),
  ((((List.map (fun v => AV.p (absV v)) [Value.int IntKind.i64 0, Value.slice none 0 0]).length) : Nat) = 2),
  ((1 : Nat) ≤ 1),
  ((1 : Nat) ≤ 1),
  ((0 : Int) = 0),
  ((((List.map (fun v => AV.p (absV v)) [Value.int IntKind.i64 0, Value.slice none 0 0]).length) : Nat) = 2),
  ((1 : Nat) ≤ 1),
  ((1 : Nat) ≤ 1),
  (((p.fst.fst) : Int) = (p.fst.fst)),
  ((0 : Nat) = 0),
  ((0 : Nat) = 0),
  ((2 : Nat) = 2),
  ((0 : Nat) ≤ 0),
  (∀ i : Nat, ((((i) : Nat) < 0) → (All [] ∧ (([.p .any, .p .any] : List AV) = [.p (.int .i64 0), .p (.int .i64 0)]))))]) := by kernel_rfl
theorem hKa (p : T_Pinned) (k n m : Nat) (h r : Nat → T_Bar) :
    pieceOb Try.prog 0 [.reg [oT, oT, oT, oT, oT], .dec true, .reg [oT, oT, oT, oT, oT, oT, oT, oT, oT, oT, oT, ⟨true, (some ⟨[], [], 1, [(0, brOb m r)], .agg [.p (.int .i64 p.1.1), .ar 2 0 0 m]⟩), none⟩, oT], .reg [oT, oT], .dec false, .reg [oT, oT, oT], .head] [.code (cAt (bodyOf Try.f128) [1, 1, 0, 1, 0, 0]), .inLoop (cAt (bodyOf Try.f128) [1, 1, 0, 1, 0, 0]), .inBlock 0, .code (cAt (bodyOf Try.f128) [1, 1, 1])] (SKl p k n h) [0, 1, 2, 516] 1 (SKl p (k + 1) m r) =
    some ([.code (cAt (bodyOf Try.f128) [1, 1, 0, 1, 0, 0]), .inLoop (cAt (bodyOf Try.f128) [1, 1, 0, 1, 0, 0]), .inBlock 0, .code (cAt (bodyOf Try.f128) [1, 1, 1])], [((0 : Nat) < 1),
  ((decide ((↑k : Int) < (↑p.snd.fst.fst : Int))) = true),
  ((0 : Nat) < 1),
  ((0 : Nat) < 1),
  ((0 : Int) ≤ 0),
  ((0 : Int) < ((↑p.snd.fst.fst : Int))),
  ((0 : Nat) < 1),
  ((0 : Int) ≤ ((↑k : Int))),
  ((((↑k : Int)) : Int) < ((↑p.snd.fst.fst : Int))),
  ((2 : Nat) = 2),
  (((n) : Nat) ≤ (n)),
  Con (Try.prog) 108 0 [] [.agg [.p (.int .i64 (p.fst.fst)), .p (.seq true 2 (n) (fun i => [.int .i64 ((h i).fst), .int .i64 ((h i).snd.fst)]))], .agg [.p (.int .i64 (p.snd.fst.snd 0)), .p (.int .i64 (p.snd.fst.snd k))]] [(0, ⟨false, 2, (m), (fun i => [.p (.int .i64 ((r i).fst)), .p (.int .i64 ((r i).snd.fst))])⟩)] (.agg [.p (.int .i64 (p.fst.fst)), .ar 2 0 0 (m)]),
  ((0 : Nat) < 1),
  (((true) = true) → ((1 : Nat) = 1)),
  ((decide ((↑k : Int) > 1)) = false),
  (((-9223372036854775808) : Int) ≤ ((↑k : Int) + 1)),
  ((((↑k : Int) + 1) : Int) ≤ 9223372036854775807),
  (((p.fst.fst) : Int) = (p.fst.fst)),
  (((p.fst.snd.fst.fst) : Nat) = (p.fst.snd.fst.fst)),
  (∀ i : Nat, ((((i) : Nat) < (p.fst.snd.fst.fst)) → (([.int .i64 ((p.fst.snd.fst.snd i).fst), .int .i64 ((p.fst.snd.fst.snd i).snd.fst)] : List PV) = [.int .i64 ((p.fst.snd.fst.snd i).fst), .int .i64 ((p.fst.snd.fst.snd i).snd.fst)]))),
  (((p.snd.fst.fst) : Nat) = (p.snd.fst.fst)),
  (∀ i : Nat, ((((i) : Nat) < (p.snd.fst.fst)) → (([.int .i64 (p.snd.fst.snd i)] : List PV) = [.int .i64 (p.snd.fst.snd i)]))),
  ((0 : Nat) = 0),
  ((0 : Nat) = 0),
  ((0 : Nat) = 0),
  ((((↑k : Int) + 1) : Int) = ((↑(k + 1) : Int))),
  ((3 : Nat) = 3),
  ((1 : Nat) ≤ 1),
  ((1 : Nat) ≤ 1),
  (((p.fst.fst) : Int) = (p.fst.fst)),
  (((p.fst.snd.fst.fst) : Nat) = (p.fst.snd.fst.fst)),
  (∀ i : Nat, ((((i) : Nat) < (p.fst.snd.fst.fst)) → (([.int .i64 ((p.fst.snd.fst.snd i).fst), .int .i64 ((p.fst.snd.fst.snd i).snd.fst)] : List PV) = [.int .i64 ((p.fst.snd.fst.snd i).fst), .int .i64 ((p.fst.snd.fst.snd i).snd.fst)]))),
  (((p.snd.fst.fst) : Nat) = (p.snd.fst.fst)),
  (∀ i : Nat, ((((i) : Nat) < (p.snd.fst.fst)) → (([.int .i64 (p.snd.fst.snd i)] : List PV) = [.int .i64 (p.snd.fst.snd i)]))),
  ((2 : Nat) = 2),
  ((1 : Nat) ≤ 1),
  ((1 : Nat) ≤ 1),
  ((0 : Int) = 0),
  ((2 : Nat) = 2),
  ((1 : Nat) ≤ 1),
  ((1 : Nat) ≤ 1),
  (((p.fst.fst) : Int) = (p.fst.fst)),
  ((0 : Nat) = 0),
  (((m) : Nat) = (m)),
  ((2 : Nat) = 2),
  (((m) : Nat) ≤ (m)),
  (∀ i : Nat, ((((i) : Nat) < (m)) → (All [] ∧ (([.p (.int .i64 ((r i).fst)), .p (.int .i64 ((r i).snd.fst))] : List AV) = [.p (.int .i64 ((r i).fst)), .p (.int .i64 ((r i).snd.fst))]))))]) := by kernel_rfl
theorem hKb (p : T_Pinned) (k n m m2 : Nat) (h r r2 : Nat → T_Bar) :
    pieceOb Try.prog 0 [.reg [oT, oT, oT, oT, oT], .dec true, .reg [oT, oT, oT, oT, oT, oT, oT, oT, oT, oT, oT, ⟨true, (some ⟨[], [], 1, [(0, brOb m r)], .agg [.p (.int .i64 p.1.1), .ar 2 0 0 m]⟩), none⟩, oT], .reg [oT, oT], .dec true, .reg [oT, oT, oT, oT, oT, oT, oT, oT, oT, oT, oT, ⟨true, (some ⟨[], [], 1, [(0, brOb m2 r2)], .agg [.p (.int .i64 p.1.1), .ar 2 0 0 m2]⟩), none⟩, oT], .reg [oT, oT, oT], .head] [.code (cAt (bodyOf Try.f128) [1, 1, 0, 1, 0, 0]), .inLoop (cAt (bodyOf Try.f128) [1, 1, 0, 1, 0, 0]), .inBlock 0, .code (cAt (bodyOf Try.f128) [1, 1, 1])] (SKl p k n h) [0, 1, 2, 996] 1 (SKl p (k + 1) m2 r2) =
    some ([.code (cAt (bodyOf Try.f128) [1, 1, 0, 1, 0, 0]), .inLoop (cAt (bodyOf Try.f128) [1, 1, 0, 1, 0, 0]), .inBlock 0, .code (cAt (bodyOf Try.f128) [1, 1, 1])], [((0 : Nat) < 1),
  ((decide ((↑k : Int) < (↑p.snd.fst.fst : Int))) = true),
  ((0 : Nat) < 1),
  ((0 : Nat) < 1),
  ((0 : Int) ≤ 0),
  ((0 : Int) < ((↑p.snd.fst.fst : Int))),
  ((0 : Nat) < 1),
  ((0 : Int) ≤ ((↑k : Int))),
  ((((↑k : Int)) : Int) < ((↑p.snd.fst.fst : Int))),
  ((2 : Nat) = 2),
  (((n) : Nat) ≤ (n)),
  Con (Try.prog) 108 0 [] [.agg [.p (.int .i64 (p.fst.fst)), .p (.seq true 2 (n) (fun i => [.int .i64 ((h i).fst), .int .i64 ((h i).snd.fst)]))], .agg [.p (.int .i64 (p.snd.fst.snd 0)), .p (.int .i64 (p.snd.fst.snd k))]] [(0, ⟨false, 2, (m), (fun i => [.p (.int .i64 ((r i).fst)), .p (.int .i64 ((r i).snd.fst))])⟩)] (.agg [.p (.int .i64 (p.fst.fst)), .ar 2 0 0 (m)]),
  ((0 : Nat) < 1),
  (((true) = true) → ((1 : Nat) = 1)),
  ((decide ((↑k : Int) > 1)) = true),
  ((0 : Nat) < 1),
  ((0 : Nat) < 1),
  ((0 : Int) ≤ 1),
  ((1 : Int) < ((↑p.snd.fst.fst : Int))),
  ((0 : Nat) < 1),
  ((0 : Int) ≤ ((↑k : Int))),
  ((((↑k : Int)) : Int) < ((↑p.snd.fst.fst : Int))),
  ((2 : Nat) = 2),
  (((m) : Nat) ≤ (m)),
  Con (Try.prog) 108 0 [] [.agg [.p (.int .i64 (p.fst.fst)), .p (.seq true 2 (m) (fun i => [.int .i64 ((r i).fst), .int .i64 ((r i).snd.fst)]))], .agg [.p (.int .i64 (p.snd.fst.snd 1)), .p (.int .i64 (p.snd.fst.snd k))]] [(0, ⟨false, 2, (m2), (fun i => [.p (.int .i64 ((r2 i).fst)), .p (.int .i64 ((r2 i).snd.fst))])⟩)] (.agg [.p (.int .i64 (p.fst.fst)), .ar 2 0 0 (m2)]),
  ((0 : Nat) < 1),
  (((true) = true) → ((1 : Nat) = 1)),
  (((-9223372036854775808) : Int) ≤ ((↑k : Int) + 1)),
  ((((↑k : Int) + 1) : Int) ≤ 9223372036854775807),
  (((p.fst.fst) : Int) = (p.fst.fst)),
  (((p.fst.snd.fst.fst) : Nat) = (p.fst.snd.fst.fst)),
  (∀ i : Nat, ((((i) : Nat) < (p.fst.snd.fst.fst)) → (([.int .i64 ((p.fst.snd.fst.snd i).fst), .int .i64 ((p.fst.snd.fst.snd i).snd.fst)] : List PV) = [.int .i64 ((p.fst.snd.fst.snd i).fst), .int .i64 ((p.fst.snd.fst.snd i).snd.fst)]))),
  (((p.snd.fst.fst) : Nat) = (p.snd.fst.fst)),
  (∀ i : Nat, ((((i) : Nat) < (p.snd.fst.fst)) → (([.int .i64 (p.snd.fst.snd i)] : List PV) = [.int .i64 (p.snd.fst.snd i)]))),
  ((0 : Nat) = 0),
  ((0 : Nat) = 0),
  ((0 : Nat) = 0),
  ((((↑k : Int) + 1) : Int) = ((↑(k + 1) : Int))),
  ((3 : Nat) = 3),
  ((1 : Nat) ≤ 1),
  ((1 : Nat) ≤ 1),
  (((p.fst.fst) : Int) = (p.fst.fst)),
  (((p.fst.snd.fst.fst) : Nat) = (p.fst.snd.fst.fst)),
  (∀ i : Nat, ((((i) : Nat) < (p.fst.snd.fst.fst)) → (([.int .i64 ((p.fst.snd.fst.snd i).fst), .int .i64 ((p.fst.snd.fst.snd i).snd.fst)] : List PV) = [.int .i64 ((p.fst.snd.fst.snd i).fst), .int .i64 ((p.fst.snd.fst.snd i).snd.fst)]))),
  (((p.snd.fst.fst) : Nat) = (p.snd.fst.fst)),
  (∀ i : Nat, ((((i) : Nat) < (p.snd.fst.fst)) → (([.int .i64 (p.snd.fst.snd i)] : List PV) = [.int .i64 (p.snd.fst.snd i)]))),
  ((2 : Nat) = 2),
  ((1 : Nat) ≤ 1),
  ((1 : Nat) ≤ 1),
  ((0 : Int) = 0),
  ((2 : Nat) = 2),
  ((1 : Nat) ≤ 1),
  ((1 : Nat) ≤ 1),
  (((p.fst.fst) : Int) = (p.fst.fst)),
  ((0 : Nat) = 0),
  (((m2) : Nat) = (m2)),
  ((2 : Nat) = 2),
  (((m2) : Nat) ≤ (m2)),
  (∀ i : Nat, ((((i) : Nat) < (m2)) → (All [] ∧ (([.p (.int .i64 ((r2 i).fst)), .p (.int .i64 ((r2 i).snd.fst))] : List AV) = [.p (.int .i64 ((r2 i).fst)), .p (.int .i64 ((r2 i).snd.fst))]))))]) := by kernel_rfl
theorem hKe (p : T_Pinned) (k n : Nat) (h : Nat → T_Bar) :
    pathOb Try.prog Try.f128 0 [.reg [oT, oT, oT, oT, oT], .dec false, .reg [oT, oT]] [.code (cAt (bodyOf Try.f128) [1, 1, 0, 1, 0, 0]), .inLoop (cAt (bodyOf Try.f128) [1, 1, 0, 1, 0, 0]), .inBlock 0, .code (cAt (bodyOf Try.f128) [1, 1, 1])] (SKl p k n h) [3] 1 [(0, brOb n h)] (.agg [.p (.int .i64 p.1.1), .ar 2 0 0 n]) =
    some [((0 : Nat) < 1),
  ((decide ((↑k : Int) < (↑p.snd.fst.fst : Int))) = false),
  ((0 : Nat) < 1),
  ((0 : Nat) < 1),
  (((true) = true) → ((1 : Nat) = 1)),
  ((0 : Nat) < 1),
  (((p.fst.fst) : Int) = (p.fst.fst)),
  ((0 : Nat) = 0),
  (((n) : Nat) = (n)),
  ((2 : Nat) = 2),
  (((n) : Nat) ≤ (n)),
  (∀ i : Nat, ((((i) : Nat) < (n)) → (All [] ∧ (([.p (.int .i64 ((h i).fst)), .p (.int .i64 ((h i).snd.fst))] : List AV) = [.p (.int .i64 ((h i).fst)), .p (.int .i64 ((h i).snd.fst))])))),
  (∀ i : Nat, ((((i) : Nat) < (n)) → All []))] := by kernel_rfl
theorem hLz (p : T_Pinned) (n : Nat) (h : Nat → T_Bar) :
    pieceOb Try.prog 0 [.reg [oT, oT], .reg [oT, ⟨true, (some ⟨[], [], 1, [(0, brOb n h)], .agg [.p (.int .i64 p.1.1), .ar 2 0 0 n]⟩), none⟩, oT, oT], .reg [oT], .head] [.code (bodyOf Try.f97)] (start Try.f97 [] 0 [pinA p]) [0, 32, 128, 96] 1 (SKa p 0 n h) =
    some ([.code (cAt (bodyOf Try.f97) [1, 1, 0, 1, 0, 0]), .inLoop (cAt (bodyOf Try.f97) [1, 1, 0, 1, 0, 0]), .inBlock 0, .code (cAt (bodyOf Try.f97) [1, 1, 1])], [((0 : Nat) < 1),
  Con (Try.prog) 128 0 [] [.agg [.p (.int .i64 (p.fst.fst)), .p (.seq true 2 (p.fst.snd.fst.fst) (fun i => [.int .i64 ((p.fst.snd.fst.snd i).fst), .int .i64 ((p.fst.snd.fst.snd i).snd.fst)])), .p (.seq true 1 (p.snd.fst.fst) (fun i => [.int .i64 (p.snd.fst.snd i)]))]] [(0, ⟨false, 2, (n), (fun i => [.p (.int .i64 ((h i).fst)), .p (.int .i64 ((h i).snd.fst))])⟩)] (.agg [.p (.int .i64 (p.fst.fst)), .ar 2 0 0 (n)]),
  ((0 : Nat) < 1),
  (((true) = true) → ((1 : Nat) = 1)),
  (((p.fst.fst) : Int) = (p.fst.fst)),
  (((p.fst.snd.fst.fst) : Nat) = (p.fst.snd.fst.fst)),
  (∀ i : Nat, ((((i) : Nat) < (p.fst.snd.fst.fst)) → (([.int .i64 ((p.fst.snd.fst.snd i).fst), .int .i64 ((p.fst.snd.fst.snd i).snd.fst)] : List PV) = [.int .i64 ((p.fst.snd.fst.snd i).fst), .int .i64 ((p.fst.snd.fst.snd i).snd.fst)]))),
  (((p.snd.fst.fst) : Nat) = (p.snd.fst.fst)),
  (∀ i : Nat, ((((i) : Nat) < (p.snd.fst.fst)) → (([.int .i64 (p.snd.fst.snd i)] : List PV) = [.int .i64 (p.snd.fst.snd i)]))),
  ((0 : Nat) = 0),
  ((0 : Nat) = 0),
  ((0 : Nat) = 0),
  ((0 : Int) = ((↑0 : Int))),
  ((([AV.p (PV.int IntKind.i64 p.fst.fst), graphL p.fst.snd.fst, inL p.snd.fst].length) : Nat) = 3),
  ((1 : Nat) ≤ 1),
  ((1 : Nat) ≤ 1),
  (((p.fst.fst) : Int) = (p.fst.fst)),
  (((p.fst.snd.fst.fst) : Nat) = (p.fst.snd.fst.fst)),
  (∀ i : Nat, ((((i) : Nat) < (p.fst.snd.fst.fst)) → (([.int .i64 ((p.fst.snd.fst.snd i).fst), .int .i64 ((p.fst.snd.fst.snd i).snd.fst)] : List PV) = [.int .i64 ((p.fst.snd.fst.snd i).fst), .int .i64 ((p.fst.snd.fst.snd i).snd.fst)]))),
  (((p.snd.fst.fst) : Nat) = (p.snd.fst.fst)),
  (∀ i : Nat, ((((i) : Nat) < (p.snd.fst.fst)) → (([.int .i64 (p.snd.fst.snd i)] : List PV) = [.int .i64 (p.snd.fst.snd i)]))),
  ((((List.map (fun v => AV.p (absV v)) [Value.int IntKind.i64 0, Value.slice none 0 0]).length) : Nat) = 2),
  ((1 : Nat) ≤ 1),
  ((1 : Nat) ≤ 1),
  ((0 : Int) = 0),
  ((((List.map (fun v => AV.p (absV v)) [Value.int IntKind.i64 0, Value.slice none 0 0]).length) : Nat) = 2),
  ((1 : Nat) ≤ 1),
  ((1 : Nat) ≤ 1),
  (((p.fst.fst) : Int) = (p.fst.fst)),
  ((0 : Nat) = 0),
  (((n) : Nat) = (n)),
  ((2 : Nat) = 2),
  (((n) : Nat) ≤ (n)),
  (∀ i : Nat, ((((i) : Nat) < (n)) → (All [] ∧ (([.p (.int .i64 ((h i).fst)), .p (.int .i64 ((h i).snd.fst))] : List AV) = [.p (.int .i64 ((h i).fst)), .p (.int .i64 ((h i).snd.fst))]))))]) := by kernel_rfl
theorem hLa (p : T_Pinned) (k n m : Nat) (h r : Nat → T_Bar) :
    pieceOb Try.prog 0 [.reg [oT, oT, oT, oT, oT, oT], .dec true, .reg [oT, oT, oT, oT, oT, oT, oT, ⟨true, (some ⟨[], [], 1, [(0, brOb m r)], .agg [.p (.int .i64 p.1.1), .ar 2 0 0 m]⟩), none⟩, oT], .reg [oT, oT, oT], .head] [.code (cAt (bodyOf Try.f97) [1, 1, 0, 1, 0, 0]), .inLoop (cAt (bodyOf Try.f97) [1, 1, 0, 1, 0, 0]), .inBlock 0, .code (cAt (bodyOf Try.f97) [1, 1, 1])] (SKa p k n h) [0, 1, 2, 420] 1 (SKa p (k + 1) m r) =
    some ([.code (cAt (bodyOf Try.f97) [1, 1, 0, 1, 0, 0]), .inLoop (cAt (bodyOf Try.f97) [1, 1, 0, 1, 0, 0]), .inBlock 0, .code (cAt (bodyOf Try.f97) [1, 1, 1])], [((0 : Nat) < 1),
  ((decide ((↑k : Int) < (↑p.fst.snd.fst.fst : Int))) = true),
  ((0 : Nat) < 1),
  ((0 : Nat) < 1),
  ((0 : Int) ≤ ((↑k : Int))),
  ((((↑k : Int)) : Int) < ((↑p.fst.snd.fst.fst : Int))),
  ((2 : Nat) = 2),
  (((n) : Nat) ≤ (n)),
  Con (Try.prog) 108 0 [] [.agg [.p (.int .i64 (p.fst.fst)), .p (.seq true 2 (n) (fun i => [.int .i64 ((h i).fst), .int .i64 ((h i).snd.fst)]))], .agg [.p (.int .i64 ((p.fst.snd.fst.snd k).fst)), .p (.int .i64 ((p.fst.snd.fst.snd k).snd.fst))]] [(0, ⟨false, 2, (m), (fun i => [.p (.int .i64 ((r i).fst)), .p (.int .i64 ((r i).snd.fst))])⟩)] (.agg [.p (.int .i64 (p.fst.fst)), .ar 2 0 0 (m)]),
  ((0 : Nat) < 1),
  (((true) = true) → ((1 : Nat) = 1)),
  (((-9223372036854775808) : Int) ≤ ((↑k : Int) + 1)),
  ((((↑k : Int) + 1) : Int) ≤ 9223372036854775807),
  (((p.fst.fst) : Int) = (p.fst.fst)),
  (((p.fst.snd.fst.fst) : Nat) = (p.fst.snd.fst.fst)),
  (∀ i : Nat, ((((i) : Nat) < (p.fst.snd.fst.fst)) → (([.int .i64 ((p.fst.snd.fst.snd i).fst), .int .i64 ((p.fst.snd.fst.snd i).snd.fst)] : List PV) = [.int .i64 ((p.fst.snd.fst.snd i).fst), .int .i64 ((p.fst.snd.fst.snd i).snd.fst)]))),
  (((p.snd.fst.fst) : Nat) = (p.snd.fst.fst)),
  (∀ i : Nat, ((((i) : Nat) < (p.snd.fst.fst)) → (([.int .i64 (p.snd.fst.snd i)] : List PV) = [.int .i64 (p.snd.fst.snd i)]))),
  ((0 : Nat) = 0),
  ((0 : Nat) = 0),
  ((0 : Nat) = 0),
  ((((↑k : Int) + 1) : Int) = ((↑(k + 1) : Int))),
  ((3 : Nat) = 3),
  ((1 : Nat) ≤ 1),
  ((1 : Nat) ≤ 1),
  (((p.fst.fst) : Int) = (p.fst.fst)),
  (((p.fst.snd.fst.fst) : Nat) = (p.fst.snd.fst.fst)),
  (∀ i : Nat, ((((i) : Nat) < (p.fst.snd.fst.fst)) → (([.int .i64 ((p.fst.snd.fst.snd i).fst), .int .i64 ((p.fst.snd.fst.snd i).snd.fst)] : List PV) = [.int .i64 ((p.fst.snd.fst.snd i).fst), .int .i64 ((p.fst.snd.fst.snd i).snd.fst)]))),
  (((p.snd.fst.fst) : Nat) = (p.snd.fst.fst)),
  (∀ i : Nat, ((((i) : Nat) < (p.snd.fst.fst)) → (([.int .i64 (p.snd.fst.snd i)] : List PV) = [.int .i64 (p.snd.fst.snd i)]))),
  ((2 : Nat) = 2),
  ((1 : Nat) ≤ 1),
  ((1 : Nat) ≤ 1),
  ((0 : Int) = 0),
  ((2 : Nat) = 2),
  ((1 : Nat) ≤ 1),
  ((1 : Nat) ≤ 1),
  (((p.fst.fst) : Int) = (p.fst.fst)),
  ((0 : Nat) = 0),
  (((m) : Nat) = (m)),
  ((2 : Nat) = 2),
  (((m) : Nat) ≤ (m)),
  (∀ i : Nat, ((((i) : Nat) < (m)) → (All [] ∧ (([.p (.int .i64 ((r i).fst)), .p (.int .i64 ((r i).snd.fst))] : List AV) = [.p (.int .i64 ((r i).fst)), .p (.int .i64 ((r i).snd.fst))]))))]) := by kernel_rfl
theorem hLe (p : T_Pinned) (k n : Nat) (h : Nat → T_Bar) :
    pathOb Try.prog Try.f97 0 [.reg [oT, oT, oT, oT, oT, oT], .dec false, .reg [oT, oT]] [.code (cAt (bodyOf Try.f97) [1, 1, 0, 1, 0, 0]), .inLoop (cAt (bodyOf Try.f97) [1, 1, 0, 1, 0, 0]), .inBlock 0, .code (cAt (bodyOf Try.f97) [1, 1, 1])] (SKa p k n h) [3] 1 [(0, brOb n h)] (.agg [.p (.int .i64 p.1.1), .ar 2 0 0 n]) =
    some [((0 : Nat) < 1),
  ((decide ((↑k : Int) < (↑p.fst.snd.fst.fst : Int))) = false),
  ((0 : Nat) < 1),
  ((0 : Nat) < 1),
  (((true) = true) → ((1 : Nat) = 1)),
  ((0 : Nat) < 1),
  (((p.fst.fst) : Int) = (p.fst.fst)),
  ((0 : Nat) = 0),
  (((n) : Nat) = (n)),
  ((2 : Nat) = 2),
  (((n) : Nat) ≤ (n)),
  (∀ i : Nat, ((((i) : Nat) < (n)) → (All [] ∧ (([.p (.int .i64 ((h i).fst)), .p (.int .i64 ((h i).snd.fst))] : List AV) = [.p (.int .i64 ((h i).fst)), .p (.int .i64 ((h i).snd.fst))])))),
  (∀ i : Nat, ((((i) : Nat) < (n)) → All []))] := by kernel_rfl
theorem hPn (p : T_Pinned) :
    pathOb Try.prog Try.f103 0 [.reg [oT, oT], .reg [oT, ⟨true, (some ⟨[], [], 1, [], .p (.bool false)⟩), none⟩, oT], .dec true, .reg [oT]] [.code (bodyOf Try.f103)] (start Try.f103 [] 0 [pinA p]) [] 1 [] (.p (.int .i64 (-1))) =
    some [((0 : Nat) < 1),
  Con (Try.prog) 52 0 [] [.agg [.p (.int .i64 (p.fst.fst)), .p (.seq true 2 (p.fst.snd.fst.fst) (fun i => [.int .i64 ((p.fst.snd.fst.snd i).fst), .int .i64 ((p.fst.snd.fst.snd i).snd.fst)])), .p (.seq true 1 (p.snd.fst.fst) (fun i => [.int .i64 (p.snd.fst.snd i)]))]] [] (.p (.bool false)),
  ((!false) = true),
  (((-1) : Int) = (-1))] := by kernel_rfl
theorem hPy (p : T_Pinned) (n : Nat) (h : Nat → T_Bar) (r1 r0 : Nat) :
    pathOb Try.prog Try.f103 0 [.reg [oT, oT], .reg [oT, ⟨true, (some ⟨[], [], 1, [], .p (.bool true)⟩), none⟩, oT], .dec false, .reg [oT, oT, oT, oT], .reg [oT, oT, ⟨true, (some ⟨[], [], 1, [(0, brOb n h)], .ar 2 0 0 n⟩), none⟩, oT, oT, oT, oT, ⟨true, (some ⟨[], [], 1, [], .p (.int .i64 r1)⟩), none⟩, oT, oT, ⟨true, (some ⟨[], [], 1, [(0, brOb n h)], .ar 2 0 0 n⟩), none⟩, ⟨true, (some ⟨[], [], 1, [], .p (.int .i64 r0)⟩), none⟩, oT, oT]] [.code (bodyOf Try.f103)] (start Try.f103 [] 0 [pinA p]) [] 1 [] (.p (.int .i64 ((r1 : Int) - (r0 : Int)))) =
    some [((0 : Nat) < 1),
  Con (Try.prog) 52 0 [] [.agg [.p (.int .i64 (p.fst.fst)), .p (.seq true 2 (p.fst.snd.fst.fst) (fun i => [.int .i64 ((p.fst.snd.fst.snd i).fst), .int .i64 ((p.fst.snd.fst.snd i).snd.fst)])), .p (.seq true 1 (p.snd.fst.fst) (fun i => [.int .i64 (p.snd.fst.snd i)]))]] [] (.p (.bool true)),
  ((!true) = false),
  ((0 : Nat) < 1),
  ((0 : Nat) < 1),
  Con (Try.prog) 104 0 [] [.agg [.p (.int .i64 (p.fst.fst)), .p (.seq true 2 (p.fst.snd.fst.fst) (fun i => [.int .i64 ((p.fst.snd.fst.snd i).fst), .int .i64 ((p.fst.snd.fst.snd i).snd.fst)])), .p (.seq true 1 (p.snd.fst.fst) (fun i => [.int .i64 (p.snd.fst.snd i)]))]] [(0, ⟨false, 2, (n), (fun i => [.p (.int .i64 ((h i).fst)), .p (.int .i64 ((h i).snd.fst))])⟩)] (.ar 2 0 0 (n)),
  ((0 : Nat) < 1),
  (((n) : Nat) ≤ (n)),
  ((((n + p.fst.snd.fst.fst) * 16) : Nat) ≤ 140737488355328),
  (((n + p.fst.snd.fst.fst) : Nat) ≤ 9223372036854775807),
  ((2 : Nat) = 2),
  (((n + p.fst.snd.fst.fst) : Nat) ≤ (n + p.fst.snd.fst.fst)),
  Con (Try.prog) 130 0 [] [.p (.int .i64 (p.fst.fst)), .p (.seq true 2 (n + p.fst.snd.fst.fst) (fun i => [(cellP true (if (i < n) then [.p (.int .i64 ((h i).fst)), .p (.int .i64 ((h i).snd.fst))] else [.p (.int .i64 ((p.fst.snd.fst.snd (i - n)).fst)), .p (.int .i64 ((p.fst.snd.fst.snd (i - n)).snd.fst))]) 0), (cellP true (if (i < n) then [.p (.int .i64 ((h i).fst)), .p (.int .i64 ((h i).snd.fst))] else [.p (.int .i64 ((p.fst.snd.fst.snd (i - n)).fst)), .p (.int .i64 ((p.fst.snd.fst.snd (i - n)).snd.fst))]) 1)]))] [] (.p (.int .i64 ((↑r1 : Int)))),
  ((0 : Nat) < 1),
  Con (Try.prog) 104 0 [] [.agg [.p (.int .i64 (p.fst.fst)), .p (.seq true 2 (p.fst.snd.fst.fst) (fun i => [.int .i64 ((p.fst.snd.fst.snd i).fst), .int .i64 ((p.fst.snd.fst.snd i).snd.fst)])), .p (.seq true 1 (p.snd.fst.fst) (fun i => [.int .i64 (p.snd.fst.snd i)]))]] [(0, ⟨false, 2, (n), (fun i => [.p (.int .i64 ((h i).fst)), .p (.int .i64 ((h i).snd.fst))])⟩)] (.ar 2 0 0 (n)),
  ((2 : Nat) = 2),
  (((n) : Nat) ≤ (n)),
  Con (Try.prog) 130 0 [] [.p (.int .i64 (p.fst.fst)), .p (.seq true 2 (n) (fun i => [.int .i64 ((h i).fst), .int .i64 ((h i).snd.fst)]))] [] (.p (.int .i64 ((↑r0 : Int)))),
  (((-9223372036854775808) : Int) ≤ ((↑r1 : Int) - (↑r0 : Int))),
  ((((↑r1 : Int) - (↑r0 : Int)) : Int) ≤ 9223372036854775807),
  ((((↑r1 : Int) - (↑r0 : Int)) : Int) = ((↑r1 : Int) - (↑r0 : Int)))] := by kernel_rfl
theorem hQn (p : T_Pinned) :
    pathOb Try.prog Try.f96 0 [.reg [oT, oT], .reg [oT, ⟨true, (some ⟨[], [], 1, [], .p (.bool false)⟩), none⟩, oT], .dec true, .reg [oT]] [.code (bodyOf Try.f96)] (start Try.f96 [] 0 [pinA p]) [] 1 [] (.p (.int .i64 (-1))) =
    some [((0 : Nat) < 1),
  Con (Try.prog) 46 0 [] [.agg [.p (.int .i64 (p.fst.fst)), .p (.seq true 2 (p.fst.snd.fst.fst) (fun i => [.int .i64 ((p.fst.snd.fst.snd i).fst), .int .i64 ((p.fst.snd.fst.snd i).snd.fst)])), .p (.seq true 1 (p.snd.fst.fst) (fun i => [.int .i64 (p.snd.fst.snd i)]))]] [] (.p (.bool false)),
  ((!false) = true),
  (((-1) : Int) = (-1))] := by kernel_rfl
theorem hQy (p : T_Pinned) (n m : Nat) (h k : Nat → T_Bar) (r1 r0 : Nat) :
    pathOb Try.prog Try.f96 0 [.reg [oT, oT], .reg [oT, ⟨true, (some ⟨[], [], 1, [], .p (.bool true)⟩), none⟩, oT], .dec false, .reg [oT, ⟨true, (some ⟨[], [], 1, [(0, brOb n h)], .agg [.p (.int .i64 p.1.1), .ar 2 0 0 n]⟩), none⟩, ⟨true, (some ⟨[], [], 1, [], .p (.int .i64 r1)⟩), none⟩, oT, ⟨true, (some ⟨[], [], 1, [(0, brOb m k)], .agg [.p (.int .i64 p.1.1), .ar 2 0 0 m]⟩), none⟩, ⟨true, (some ⟨[], [], 1, [], .p (.int .i64 r0)⟩), none⟩, oT, oT]] [.code (bodyOf Try.f96)] (start Try.f96 [] 0 [pinA p]) [] 1 [] (.p (.int .i64 ((r1 : Int) - (r0 : Int)))) =
    some [((0 : Nat) < 1),
  Con (Try.prog) 46 0 [] [.agg [.p (.int .i64 (p.fst.fst)), .p (.seq true 2 (p.fst.snd.fst.fst) (fun i => [.int .i64 ((p.fst.snd.fst.snd i).fst), .int .i64 ((p.fst.snd.fst.snd i).snd.fst)])), .p (.seq true 1 (p.snd.fst.fst) (fun i => [.int .i64 (p.snd.fst.snd i)]))]] [] (.p (.bool true)),
  ((!true) = false),
  ((0 : Nat) < 1),
  Con (Try.prog) 97 0 [] [.agg [.p (.int .i64 (p.fst.fst)), .p (.seq true 2 (p.fst.snd.fst.fst) (fun i => [.int .i64 ((p.fst.snd.fst.snd i).fst), .int .i64 ((p.fst.snd.fst.snd i).snd.fst)])), .p (.seq true 1 (p.snd.fst.fst) (fun i => [.int .i64 (p.snd.fst.snd i)]))]] [(0, ⟨false, 2, (n), (fun i => [.p (.int .i64 ((h i).fst)), .p (.int .i64 ((h i).snd.fst))])⟩)] (.agg [.p (.int .i64 (p.fst.fst)), .ar 2 0 0 (n)]),
  ((2 : Nat) = 2),
  (((n) : Nat) ≤ (n)),
  Con (Try.prog) 127 0 [] [.agg [.p (.int .i64 (p.fst.fst)), .p (.seq true 2 (n) (fun i => [.int .i64 ((h i).fst), .int .i64 ((h i).snd.fst)]))]] [] (.p (.int .i64 ((↑r1 : Int)))),
  ((0 : Nat) < 1),
  Con (Try.prog) 128 0 [] [.agg [.p (.int .i64 (p.fst.fst)), .p (.seq true 2 (p.fst.snd.fst.fst) (fun i => [.int .i64 ((p.fst.snd.fst.snd i).fst), .int .i64 ((p.fst.snd.fst.snd i).snd.fst)])), .p (.seq true 1 (p.snd.fst.fst) (fun i => [.int .i64 (p.snd.fst.snd i)]))]] [(0, ⟨false, 2, (m), (fun i => [.p (.int .i64 ((k i).fst)), .p (.int .i64 ((k i).snd.fst))])⟩)] (.agg [.p (.int .i64 (p.fst.fst)), .ar 2 0 0 (m)]),
  ((2 : Nat) = 2),
  (((m) : Nat) ≤ (m)),
  Con (Try.prog) 127 0 [] [.agg [.p (.int .i64 (p.fst.fst)), .p (.seq true 2 (m) (fun i => [.int .i64 ((k i).fst), .int .i64 ((k i).snd.fst)]))]] [] (.p (.int .i64 ((↑r0 : Int)))),
  (((-9223372036854775808) : Int) ≤ ((↑r1 : Int) - (↑r0 : Int))),
  ((((↑r1 : Int) - (↑r0 : Int)) : Int) ≤ 9223372036854775807),
  ((((↑r1 : Int) - (↑r0 : Int)) : Int) = ((↑r1 : Int) - (↑r0 : Int)))] := by kernel_rfl

abbrev NB := Nat × (Nat → T_Bar)
def zNB : NB := (0, fun _ => (0, 0, ()))
def sn (r : NB) (x : T_Bar) : NB := (r.1 + 1, snoc r.1 r.2 x)
def hIn (s : Nat → Int) (i : Nat) (r : NB) : Nat → NB
  | 0 => r
  | j + 1 => sn (hIn s i r j) (brX (s i) (s (j + (i + 1))))
/-- All bars of the ground. -/
def hC (s : Nat → Int) (m : Nat) : Nat → NB
  | 0 => zNB
  | i + 1 => hIn s i (hC s m i) (m - (i + 1))
/-- The few bars of the ground, of the reference. -/
def hS (s : Nat → Int) : Nat → NB
  | 0 => zNB
  | k + 1 => if 1 ≤ k then insR (insR (hS s k).2 (hS s k).1 (s 0, s (k + 1), ())).2 (insR (hS s k).2 (hS s k).1 (s 0, s (k + 1), ())).1 (s 1, s (k + 1), ()) else insR (hS s k).2 (hS s k).1 (s 0, s (k + 1), ())
def aS (g : Nat → T_Bar) (r : NB) : Nat → NB
  | 0 => r
  | k + 1 => insR (aS g r k).2 (aS g r k).1 (g k)
def aC (r : NB) (g : Nat → T_Bar) (i : Nat) : T_Bar := (if i < r.1 then (r.2 i).1 else (g (i - r.1)).1, if i < r.1 then (r.2 i).2.1 else (g (i - r.1)).2.1, ())
def mem (r : NB) (y : T_Bar) : Prop := ∃ s, s < r.1 ∧ r.2 s = y

theorem hIn_n (s : Nat → Int) (i : Nat) (r : NB) : ∀ j, (hIn s i r j).1 = r.1 + j
  | 0 => rfl
  | j + 1 => by simp only [hIn, sn, hIn_n s i r j]; omega
theorem hC_n (s : Nat → Int) (m : Nat) : ∀ i, (hC s m i).1 ≤ i * m
  | 0 => by simp [hC, zNB]
  | i + 1 => by
    have := hC_n s m i
    simp only [hC, hIn_n]
    rw [Nat.add_mul]; omega
theorem hIn_mem (s : Nat → Int) (i : Nat) (r : NB) (y : T_Bar) : ∀ j, mem (hIn s i r j) y ↔ mem r y ∨ ∃ q, q < j ∧ brX (s i) (s (q + (i + 1))) = y
  | 0 => by
    constructor
    · intro h; exact .inl h
    · rintro (h | ⟨q, h, _⟩)
      · exact h
      · exact absurd h (Nat.not_lt_zero _)
  | j + 1 => by
    have ih := hIn_mem s i r y j
    show (∃ t, t < (hIn s i r j).1 + 1 ∧ snoc (hIn s i r j).1 (hIn s i r j).2 _ t = y) ↔ _
    rw [snoc_mem]
    rw [show (∃ t, t < (hIn s i r j).1 ∧ (hIn s i r j).2 t = y) ↔ _ from ih]
    constructor
    · rintro ((h | ⟨q, h1, h2⟩) | h)
      · exact .inl h
      · exact .inr ⟨q, by omega, h2⟩
      · exact .inr ⟨j, by omega, h⟩
    · rintro (h | ⟨q, h1, h2⟩)
      · exact .inl (.inl h)
      · by_cases e : q = j
        · subst e; exact .inr h2
        · exact .inl (.inr ⟨q, by omega, h2⟩)
theorem hC_mem (s : Nat → Int) (m : Nat) (y : T_Bar) : ∀ i, i ≤ m → (mem (hC s m i) y ↔ ∃ a b, a < i ∧ a < b ∧ b < m ∧ brX (s a) (s b) = y)
  | 0, _ => by
    constructor
    · rintro ⟨t, h, _⟩; exact absurd h (Nat.not_lt_zero _)
    · rintro ⟨a, b, h, _⟩; exact absurd h (Nat.not_lt_zero _)
  | i + 1, hi => by
    have ih := hC_mem s m y i (by omega)
    simp only [hC]
    rw [hIn_mem, ih]
    constructor
    · rintro (⟨a, b, h1, h2, h3, h4⟩ | ⟨q, h1, h2⟩)
      · exact ⟨a, b, by omega, h2, h3, h4⟩
      · exact ⟨i, q + (i + 1), by omega, by omega, by omega, h2⟩
    · rintro ⟨a, b, h1, h2, h3, h4⟩
      by_cases e : a = i
      · subst e; exact .inr ⟨b - (a + 1), by omega, by rw [show b - (a + 1) + (a + 1) = b by omega]; exact h4⟩
      · exact .inl ⟨a, b, by omega, h2, h3, h4⟩
theorem mem_ins (r : NB) (x y : T_Bar) : mem (insR r.2 r.1 x) y ↔ mem r y ∨ x = y := insR_mem r.2 r.1 x y
theorem hS_mem (s : Nat → Int) (y : T_Bar) : ∀ k, mem (hS s k) y ↔ ∃ b, 1 ≤ b ∧ b ≤ k ∧ ((s 0, s b, ()) = y ∨ (2 ≤ b ∧ (s 1, s b, ()) = y))
  | 0 => by
    constructor
    · rintro ⟨t, h, _⟩; exact absurd h (Nat.not_lt_zero _)
    · rintro ⟨b, h1, h2, _⟩; omega
  | k + 1 => by
    have ih := hS_mem s y k
    simp only [hS]
    split
    · rename_i h1
      rw [mem_ins, mem_ins, ih]
      constructor
      · rintro ((⟨b, h2, h3, h4⟩ | h) | h)
        · exact ⟨b, h2, by omega, h4⟩
        · exact ⟨k + 1, by omega, Nat.le_refl _, .inl h⟩
        · exact ⟨k + 1, by omega, Nat.le_refl _, .inr ⟨by omega, h⟩⟩
      · rintro ⟨b, h2, h3, h4⟩
        by_cases e : b = k + 1
        · subst e
          rcases h4 with h4 | h4
          · exact .inl (.inr h4)
          · exact .inr h4.2
        · exact .inl (.inl ⟨b, h2, by omega, h4⟩)
    · rename_i h1
      rw [mem_ins, ih]
      constructor
      · rintro (⟨b, h2, h3, h4⟩ | h)
        · exact ⟨b, h2, by omega, h4⟩
        · exact ⟨k + 1, by omega, Nat.le_refl _, .inl h⟩
      · rintro ⟨b, h2, h3, h4⟩
        by_cases e : b = k + 1
        · subst e
          rcases h4 with h4 | h4
          · exact .inr h4
          · omega
        · exact .inl ⟨b, h2, by omega, h4⟩
theorem hS_n (s : Nat → Int) : ∀ k, (hS s k).1 ≤ 2 * k ∧ (1 ≤ k → (hS s k).1 + 1 ≤ 2 * k)
  | 0 => by simp [hS, zNB]
  | k + 1 => by
    have ih := hS_n s k
    simp only [hS]
    split
    · rw [insR_n, insR_n]; omega
    · rw [insR_n]; omega
theorem aS_mem (g : Nat → T_Bar) (r : NB) (y : T_Bar) : ∀ k, mem (aS g r k) y ↔ mem r y ∨ ∃ i, i < k ∧ g i = y
  | 0 => by
    constructor
    · intro h; exact .inl h
    · rintro (h | ⟨q, h, _⟩)
      · exact h
      · exact absurd h (Nat.not_lt_zero _)
  | k + 1 => by
    have ih := aS_mem g r y k
    simp only [aS]
    rw [mem_ins, ih]
    constructor
    · rintro ((h | ⟨q, h1, h2⟩) | h)
      · exact .inl h
      · exact .inr ⟨q, by omega, h2⟩
      · exact .inr ⟨k, by omega, h⟩
    · rintro (h | ⟨q, h1, h2⟩)
      · exact .inl (.inl h)
      · by_cases e : q = k
        · subst e; exact .inr h2
        · exact .inl (.inr ⟨q, by omega, h2⟩)
theorem aS_n (g : Nat → T_Bar) (r : NB) : ∀ k, (aS g r k).1 = r.1 + k
  | 0 => rfl
  | k + 1 => by simp only [aS, insR_n, aS_n g r k]; omega
theorem aC_lt {r : NB} {g : Nat → T_Bar} {i : Nat} (h : i < r.1) : aC r g i = r.2 i := by simp only [aC, h, if_true]
theorem aC_ge {r : NB} {g : Nat → T_Bar} {i : Nat} (h : ¬ i < r.1) : aC r g i = g (i - r.1) := by simp only [aC, h, if_false]
theorem aC_mem (r : NB) (g : Nat → T_Bar) (nb : Nat) (y : T_Bar) : mem (r.1 + nb, aC r g) y ↔ mem r y ∨ ∃ i, i < nb ∧ g i = y := by
  constructor
  · rintro ⟨t, h1, h2⟩
    by_cases e : t < r.1
    · exact .inl ⟨t, e, by rw [← h2]; exact (aC_lt e).symm⟩
    · exact .inr ⟨t - r.1, by have : t < r.1 + nb := h1; omega, by rw [← h2]; exact (aC_ge e).symm⟩
  · rintro (⟨t, h1, h2⟩ | ⟨i, h1, h2⟩)
    · exact ⟨t, by show t < r.1 + nb; omega, by show aC r g t = y; rw [aC_lt h1]; exact h2⟩
    · exact ⟨r.1 + i, by show r.1 + i < r.1 + nb; omega, by show aC r g (r.1 + i) = y; rw [aC_ge (by omega), show r.1 + i - r.1 = i by omega]; exact h2⟩

theorem con_held (p : T_Pinned) (hm : p.2.1.1 ≤ 8) : Con Try.prog 104 0 [] [pinA p] [(0, brOb (hC p.2.1.2 p.2.1.1 p.2.1.1).1 (hC p.2.1.2 p.2.1.1 p.2.1.1).2)] (.ar 2 0 0 (hC p.2.1.2 p.2.1.1 p.2.1.1).1) := by
  refine con_start Try.func104 rfl (by kernel_rfl) rfl (fun c hc => ?_)
  generalize hR : hC p.2.1.2 p.2.1.1 p.2.1.1 = R
  have li : ∀ i, i < p.2.1.1 → (Run Try.prog c 104 [.code (cAt (bodyOf Try.f104) [1, 1, 0, 1, 0, 0]), .inLoop (cAt (bodyOf Try.f104) [1, 1, 0, 1, 0, 0]), .inBlock 0, .code (cAt (bodyOf Try.f104) [1, 1, 1])] (SHo p (i + 1) (hC p.2.1.2 p.2.1.1 (i + 1)).1 (hC p.2.1.2 p.2.1.1 (i + 1)).2) (Post c [(0, brOb R.1 R.2)] (.ar 2 0 0 R.1))) →
      ∀ d j, j + d = p.2.1.1 - (i + 1) → Run Try.prog c 104 [.code (cAt (bodyOf Try.f104) [1, 1, 0, 1, 0, 0, 1, 1, 0, 0, 1, 1, 0, 0]), .inLoop (cAt (bodyOf Try.f104) [1, 1, 0, 1, 0, 0, 1, 1, 0, 0, 1, 1, 0, 0]), .inBlock 2, .inBlock 1, .code (cAt (bodyOf Try.f104) [1, 1, 0, 1, 0, 0, 1, 1, 1]), .inLoop (cAt (bodyOf Try.f104) [1, 1, 0, 1, 0, 0]), .inBlock 0, .code (cAt (bodyOf Try.f104) [1, 1, 1])] (SHi p i j (hIn p.2.1.2 i (hC p.2.1.2 p.2.1.1 i) j).1 (hIn p.2.1.2 i (hC p.2.1.2 p.2.1.1 i) j).2) (Post c [(0, brOb R.1 R.2)] (.ar 2 0 0 R.1)) := by
    intro i hi hk d
    induction d with
    | zero =>
      intro j hj
      obtain rfl : j = p.2.1.1 - (i + 1) := by omega
      have hd : decide (((p.2.1.1 - (i + 1) : Nat) : Int) < ((p.2.1.1 - (i + 1) : Nat) : Int)) = false := by simp
      refine piece_ok mixed hc (hAx p i (p.2.1.1 - (i + 1)) _ _) ?_ hk
      simp only [All]
      repeat' (first | exact trivial | with_reducible apply And.intro)
      all_goals (first | omega | rfl | (intros; first | assumption | exact True.intro | rfl | exact absurd (show false = true by assumption) Bool.false_ne_true | ((repeat' (first | assumption | apply anda | apply notf)); done)) | (exact hd) | (intro t ht; simp [All]))
    | succ d ih =>
      intro j hj
      have hd : decide ((j : Int) < ((p.2.1.1 - (i + 1) : Nat) : Int)) = true := decide_eq_true (by omega)
      have cb := con_barX (p.2.1.2 i) (p.2.1.2 (j + (i + 1)))
      have hn := hIn_n p.2.1.2 i (hC p.2.1.2 p.2.1.1 i) j
      have hn2 := hC_n p.2.1.2 p.2.1.1 i
      have hn3 : i * p.2.1.1 ≤ 64 := Nat.le_trans (Nat.mul_le_mul (show i ≤ 8 by omega) hm) (by omega)
      have hrec := ih (j + 1) (by omega)
      generalize hq : hIn p.2.1.2 i (hC p.2.1.2 p.2.1.1 i) j = q at hn ⊢
      rw [show hIn p.2.1.2 i (hC p.2.1.2 p.2.1.1 i) (j + 1) = sn q (brX (p.2.1.2 i) (p.2.1.2 (j + (i + 1)))) by rw [hIn, hq]] at hrec
      refine piece_ok mixed hc (hAi p i j q.1 q.2 (brX (p.2.1.2 i) (p.2.1.2 (j + (i + 1))))) ?_ hrec
      simp only [All]
      repeat' (first | exact trivial | with_reducible apply And.intro)
      all_goals (first | omega | rfl | (intros; first | assumption | exact True.intro | rfl | exact absurd (show false = true by assumption) Bool.false_ne_true | ((repeat' (first | assumption | apply anda | apply notf)); done)) | (exact hd) | (exact cb) | (intro t ht; by_cases h' : t < q.1 <;> simp [h', snoc, cvtL, cvt, tg, tru, All]))
  have lo : ∀ d i, i + d = p.2.1.1 → Run Try.prog c 104 [.code (cAt (bodyOf Try.f104) [1, 1, 0, 1, 0, 0]), .inLoop (cAt (bodyOf Try.f104) [1, 1, 0, 1, 0, 0]), .inBlock 0, .code (cAt (bodyOf Try.f104) [1, 1, 1])] (SHo p i (hC p.2.1.2 p.2.1.1 i).1 (hC p.2.1.2 p.2.1.1 i).2) (Post c [(0, brOb R.1 R.2)] (.ar 2 0 0 R.1)) := by
    intro d
    induction d with
    | zero =>
      intro i hi
      obtain rfl : i = p.2.1.1 := by omega
      have hd : decide ((p.2.1.1 : Int) < (p.2.1.1 : Int)) = false := by simp
      rw [hR]
      refine path_ok mixed Try.func104 hc (hAe p p.2.1.1 R.1 R.2) ?_
      simp only [All]
      repeat' (first | exact trivial | with_reducible apply And.intro)
      all_goals (first | omega | rfl | (intros; first | assumption | exact True.intro | rfl | exact absurd (show false = true by assumption) Bool.false_ne_true | ((repeat' (first | assumption | apply anda | apply notf)); done)) | (exact hd) | (intro t ht; simp [All]))
    | succ d ih =>
      intro i hi
      have hd : decide ((i : Int) < (p.2.1.1 : Int)) = true := decide_eq_true (by omega)
      refine piece_ok mixed hc (hAo p i _ _) ?_ (li i (by omega) (ih (i + 1) (by omega)) (p.2.1.1 - (i + 1)) 0 (by omega))
      simp only [All]
      repeat' (first | exact trivial | with_reducible apply And.intro)
      all_goals (first | omega | rfl | (intros; first | assumption | exact True.intro | rfl | exact absurd (show false = true by assumption) Bool.false_ne_true | ((repeat' (first | assumption | apply anda | apply notf)); done)) | (exact hd) | (intro t ht; simp [All]))
  refine piece_ok mixed hc (hAz p) ?_ (lo p.2.1.1 0 (by omega))
  simp only [All]
  repeat' (first | exact trivial | with_reducible apply And.intro)
  all_goals (first | omega | rfl | (intros; first | assumption | exact True.intro | rfl | exact absurd (show false = true by assumption) Bool.false_ne_true | ((repeat' (first | assumption | apply anda | apply notf)); done)) | (intro t ht; exact absurd ht (Nat.not_lt_zero _)) | (intro t ht; simp [All]))

theorem con_l20Held (p : T_Pinned) (h1 : 0 ≤ p.1.1) (hm : 1 ≤ p.2.1.1 ∧ p.2.1.1 ≤ 8) : Con Try.prog 128 0 [] [pinA p] [(0, brOb (hS p.2.1.2 (p.2.1.1 - 1)).1 (hS p.2.1.2 (p.2.1.1 - 1)).2)] (.agg [.p (.int .i64 p.1.1), .ar 2 0 0 (hS p.2.1.2 (p.2.1.1 - 1)).1]) := by
  refine con_start Try.func128 rfl (by kernel_rfl) rfl (fun c hc => ?_)
  have hN : ((p.1.1.toNat : Nat) : Int) = p.1.1 := by omega
  generalize hR : hS p.2.1.2 (p.2.1.1 - 1) = R
  have lo : ∀ d k, k + 1 + d = p.2.1.1 → Run Try.prog c 128 [.code (cAt (bodyOf Try.f128) [1, 1, 0, 1, 0, 0]), .inLoop (cAt (bodyOf Try.f128) [1, 1, 0, 1, 0, 0]), .inBlock 0, .code (cAt (bodyOf Try.f128) [1, 1, 1])] (SKl p (k + 1) (hS p.2.1.2 k).1 (hS p.2.1.2 k).2) (Post c [(0, brOb R.1 R.2)] (.agg [.p (.int .i64 p.1.1), .ar 2 0 0 R.1])) := by
    intro d
    induction d with
    | zero =>
      intro k hk
      have hd : decide ((((k + 1 : Nat)) : Int) < (p.2.1.1 : Int)) = false := decide_eq_false (by omega)
      rw [show k = p.2.1.1 - 1 by omega, hR]
      rw [show k = p.2.1.1 - 1 by omega] at hd
      refine path_ok mixed Try.func128 hc (hKe p (p.2.1.1 - 1 + 1) R.1 R.2) ?_
      simp only [All]
      repeat' (first | exact trivial | with_reducible apply And.intro)
      all_goals (first | omega | rfl | (intros; first | assumption | exact True.intro | rfl | exact absurd (show false = true by assumption) Bool.false_ne_true | ((repeat' (first | assumption | apply anda | apply notf)); done)) | (exact hd) | (intro t ht; simp [All]))
    | succ d ih =>
      intro k hk
      have hd : decide ((((k + 1 : Nat)) : Int) < (p.2.1.1 : Int)) = true := decide_eq_true (by omega)
      have hrec := ih (k + 1) (by omega)
      have hn := hS_n p.2.1.2 k
      have hs : hS p.2.1.2 (k + 1) = if 1 ≤ k then insR (insR (hS p.2.1.2 k).2 (hS p.2.1.2 k).1 (p.2.1.2 0, p.2.1.2 (k + 1), ())).2 (insR (hS p.2.1.2 k).2 (hS p.2.1.2 k).1 (p.2.1.2 0, p.2.1.2 (k + 1), ())).1 (p.2.1.2 1, p.2.1.2 (k + 1), ()) else insR (hS p.2.1.2 k).2 (hS p.2.1.2 k).1 (p.2.1.2 0, p.2.1.2 (k + 1), ()) := rfl
      generalize hS p.2.1.2 k = q at hn hs ⊢
      have c1 := con_l2Put q.2 q.1 p.1.1.toNat (p.2.1.2 0, p.2.1.2 (k + 1), ()) (by omega)
      have n1 := insR_n q.2 q.1 (p.2.1.2 0, p.2.1.2 (k + 1), ())
      rw [grG, hN] at c1
      generalize insR q.2 q.1 (p.2.1.2 0, p.2.1.2 (k + 1), ()) = q1 at c1 n1 hs
      by_cases h1k : 1 ≤ k
      · have hg : decide ((((k + 1 : Nat)) : Int) > 1) = true := decide_eq_true (by omega)
        rw [if_pos h1k] at hs
        have c2 := con_l2Put q1.2 q1.1 p.1.1.toNat (p.2.1.2 1, p.2.1.2 (k + 1), ()) (by omega)
        rw [grG, hN] at c2
        rw [hs] at hrec
        generalize insR q1.2 q1.1 (p.2.1.2 1, p.2.1.2 (k + 1), ()) = q2 at c2 hrec
        refine piece_ok mixed hc (hKb p (k + 1) q.1 q1.1 q2.1 q.2 q1.2 q2.2) ?_ hrec
        simp only [All]
        repeat' (first | exact trivial | with_reducible apply And.intro)
        all_goals (first | omega | rfl | (intros; first | assumption | exact True.intro | rfl | exact absurd (show false = true by assumption) Bool.false_ne_true | ((repeat' (first | assumption | apply anda | apply notf)); done)) | (exact hd) | (exact hg) | (exact c1) | (exact c2) | (intro t ht; simp [All]))
      · have hg : decide ((((k + 1 : Nat)) : Int) > 1) = false := decide_eq_false (by omega)
        rw [if_neg h1k] at hs
        rw [hs] at hrec
        refine piece_ok mixed hc (hKa p (k + 1) q.1 q1.1 q.2 q1.2) ?_ hrec
        simp only [All]
        repeat' (first | exact trivial | with_reducible apply And.intro)
        all_goals (first | omega | rfl | (intros; first | assumption | exact True.intro | rfl | exact absurd (show false = true by assumption) Bool.false_ne_true | ((repeat' (first | assumption | apply anda | apply notf)); done)) | (exact hd) | (exact hg) | (exact c1) | (intro t ht; simp [All]))
  refine piece_ok mixed hc (hKz p) ?_ (lo (p.2.1.1 - 1) 0 (by omega))
  simp only [All]
  repeat' (first | exact trivial | with_reducible apply And.intro)
  all_goals (first | omega | rfl | (intros; first | assumption | exact True.intro | rfl | exact absurd (show false = true by assumption) Bool.false_ne_true | ((repeat' (first | assumption | apply anda | apply notf)); done)) | (intro t ht; exact absurd ht (Nat.not_lt_zero _)) | (intro t ht; simp [All]))

def alS (p : T_Pinned) : NB := aS p.1.2.1.2 (hS p.2.1.2 (p.2.1.1 - 1)) p.1.2.1.1

theorem con_l20All (p : T_Pinned) (h1 : 0 ≤ p.1.1) (hm : 1 ≤ p.2.1.1 ∧ p.2.1.1 ≤ 8) (hn : p.1.2.1.1 ≤ 1000) : Con Try.prog 97 0 [] [pinA p] [(0, brOb (alS p).1 (alS p).2)] (.agg [.p (.int .i64 p.1.1), .ar 2 0 0 (alS p).1]) := by
  have c0 := con_l20Held p h1 hm
  have hn0 := hS_n p.2.1.2 (p.2.1.1 - 1)
  unfold alS
  refine con_start Try.func97 rfl (by kernel_rfl) rfl (fun c hc => ?_)
  have hN : ((p.1.1.toNat : Nat) : Int) = p.1.1 := by omega
  generalize hS p.2.1.2 (p.2.1.1 - 1) = r0 at c0 hn0 ⊢
  generalize hR : aS p.1.2.1.2 r0 p.1.2.1.1 = R
  have lo : ∀ d k, k + d = p.1.2.1.1 → Run Try.prog c 97 [.code (cAt (bodyOf Try.f97) [1, 1, 0, 1, 0, 0]), .inLoop (cAt (bodyOf Try.f97) [1, 1, 0, 1, 0, 0]), .inBlock 0, .code (cAt (bodyOf Try.f97) [1, 1, 1])] (SKa p k (aS p.1.2.1.2 r0 k).1 (aS p.1.2.1.2 r0 k).2) (Post c [(0, brOb R.1 R.2)] (.agg [.p (.int .i64 p.1.1), .ar 2 0 0 R.1])) := by
    intro d
    induction d with
    | zero =>
      intro k hk
      obtain rfl : k = p.1.2.1.1 := by omega
      have hd : decide ((p.1.2.1.1 : Int) < (p.1.2.1.1 : Int)) = false := by simp
      rw [hR]
      refine path_ok mixed Try.func97 hc (hLe p p.1.2.1.1 R.1 R.2) ?_
      simp only [All]
      repeat' (first | exact trivial | with_reducible apply And.intro)
      all_goals (first | omega | rfl | (intros; first | assumption | exact True.intro | rfl | exact absurd (show false = true by assumption) Bool.false_ne_true | ((repeat' (first | assumption | apply anda | apply notf)); done)) | (exact hd) | (intro t ht; simp [All]))
    | succ d ih =>
      intro k hk
      have hd : decide ((k : Int) < (p.1.2.1.1 : Int)) = true := decide_eq_true (by omega)
      have hrec := ih (k + 1) (by omega)
      have hnk := aS_n p.1.2.1.2 r0 k
      rw [show aS p.1.2.1.2 r0 (k + 1) = insR (aS p.1.2.1.2 r0 k).2 (aS p.1.2.1.2 r0 k).1 (p.1.2.1.2 k) from rfl] at hrec
      generalize aS p.1.2.1.2 r0 k = q at hnk hrec ⊢
      have c1 := con_l2Put q.2 q.1 p.1.1.toNat (p.1.2.1.2 k) (by omega)
      rw [grG, hN] at c1
      generalize insR q.2 q.1 (p.1.2.1.2 k) = q1 at c1 hrec
      refine piece_ok mixed hc (hLa p k q.1 q1.1 q.2 q1.2) ?_ hrec
      simp only [All]
      repeat' (first | exact trivial | with_reducible apply And.intro)
      all_goals (first | omega | rfl | (intros; first | assumption | exact True.intro | rfl | exact absurd (show false = true by assumption) Bool.false_ne_true | ((repeat' (first | assumption | apply anda | apply notf)); done)) | (exact hd) | (exact c1) | (intro t ht; simp [All]))
  refine piece_ok mixed hc (hLz p r0.1 r0.2) ?_ (lo p.1.2.1.1 0 (by omega))
  simp only [All]
  repeat' (first | exact trivial | with_reducible apply And.intro)
  all_goals (first | omega | rfl | (intros; first | assumption | exact True.intro | rfl | exact absurd (show false = true by assumption) Bool.false_ne_true | ((repeat' (first | assumption | apply anda | apply notf)); done)) | (exact c0) | (intro t ht; simp [All]))

/-! ### The ranks -/
def hlC (p : T_Pinned) : NB := hC p.2.1.2 p.2.1.1 p.2.1.1
def alC (p : T_Pinned) : NB := ((hlC p).1 + p.1.2.1.1, aC (hlC p) p.1.2.1.2)
def hlS (p : T_Pinned) : NB := hS p.2.1.2 (p.2.1.1 - 1)
noncomputable def rkN (N : Nat) (r : NB) : Nat := (accI N 2 3 r.2 r.1).length
def OkN (N : Nat) (r : NB) : Prop := OkBars N r.1 r.2

theorem okN_mem {N : Nat} {r : NB} (h : ∀ y, mem r y → 0 ≤ y.1 ∧ y.1 < y.2.1 ∧ y.2.1 < N) : OkN N r := fun e he => h _ ⟨e, he, rfl⟩
theorem okN_at {N : Nat} {r : NB} (h : OkN N r) {y : T_Bar} (hy : mem r y) : 0 ≤ y.1 ∧ y.1 < y.2.1 ∧ y.2.1 < N := by
  obtain ⟨e, he, rfl⟩ := hy
  exact h e he

structure PinOk (p : T_Pinned) : Prop where
  N : 1 ≤ p.1.1 ∧ p.1.1 ≤ 8
  m : 2 ≤ p.2.1.1 ∧ p.2.1.1 ≤ 8
  nb : p.1.2.1.1 ≤ 15 ∧ p.1.2.1.1 + 2 * p.2.1.1 ≤ 27
  gr : ∀ i, i < p.2.1.1 → 0 ≤ p.2.1.2 i ∧ p.2.1.2 i < p.1.1
  asc : ∀ i j, i < j → j < p.2.1.1 → p.2.1.2 i < p.2.1.2 j
  bars : ∀ i, i < p.1.2.1.1 → 0 ≤ (p.1.2.1.2 i).1 ∧ (p.1.2.1.2 i).1 < (p.1.2.1.2 i).2.1 ∧ (p.1.2.1.2 i).2.1 < p.1.1

theorem pin_ok {p : T_Pinned} (h : pinnedF p = true) : PinOk p := by
  have h1 := pinned_in h
  have h2 := graph_inR h1.1
  simp only [pinnedF, Bool.and_eq_true] at h
  exact ⟨⟨h2.1, h2.2.1⟩, ⟨h1.2.1, h1.2.2.1⟩, h1.2.2.2, fun i hi => ⟨(goodP_at h.1 i hi).1, (goodP_at h.1 i hi).2.1⟩, fun i j hij hj => goodP_asc h.1 j i hij hj,
    fun i hi => by have := goodB_at h2.2.2.2 i hi; exact ⟨this.1, this.2.1, this.2.2.1⟩⟩

theorem PinOk.brx {p : T_Pinned} (h : PinOk p) {a b : Nat} (h1 : a < b) (h2 : b < p.2.1.1) : brX (p.2.1.2 a) (p.2.1.2 b) = (p.2.1.2 a, p.2.1.2 b, ()) := by
  have := h.asc a b h1 h2
  simp only [brX]
  rw [if_neg (by omega), if_pos (by omega)]

theorem PinOk.okHS {p : T_Pinned} (h : PinOk p) : OkN p.1.1.toNat (hlS p) := by
  refine okN_mem (fun y hy => ?_)
  have hN := h.N; have hm := h.m
  rw [hlS, hS_mem] at hy
  obtain ⟨b, h1, h2, h3⟩ := hy
  have gb := h.gr b (by omega)
  rcases h3 with rfl | ⟨h3, rfl⟩
  · have g0 := h.gr 0 (by omega)
    have := h.asc 0 b (by omega) (by omega)
    simp only; omega
  · have g1 := h.gr 1 (by omega)
    have := h.asc 1 b (by omega) (by omega)
    simp only; omega
theorem PinOk.okHC {p : T_Pinned} (h : PinOk p) : OkN p.1.1.toNat (hlC p) := by
  refine okN_mem (fun y hy => ?_)
  have hN := h.N
  rw [hlC, hC_mem _ _ _ _ (Nat.le_refl _)] at hy
  obtain ⟨a, b, h1, h2, h3, rfl⟩ := hy
  have ga := h.gr a (by omega); have gb := h.gr b h3
  have := h.asc a b h2 h3
  rw [h.brx h2 h3]
  simp only; omega
theorem PinOk.okAS {p : T_Pinned} (h : PinOk p) : OkN p.1.1.toNat (alS p) := by
  refine okN_mem (fun y hy => ?_)
  have hN := h.N
  rw [alS, aS_mem] at hy
  rcases hy with hy | ⟨i, h1, rfl⟩
  · exact okN_at h.okHS hy
  · have := h.bars i h1; omega
theorem PinOk.okAC {p : T_Pinned} (h : PinOk p) : OkN p.1.1.toNat (alC p) := by
  refine okN_mem (fun y hy => ?_)
  have hN := h.N
  rw [alC, aC_mem] at hy
  rcases hy with hy | ⟨i, h1, rfl⟩
  · exact okN_at h.okHC hy
  · have := h.bars i h1; omega

theorem rkN_rk (N : Nat) (r : NB) : rkN N r = Mat.rk N (bL r.2 r.1) := acc_len N 2 3 r.2 r.1
theorem bL_in (r : NB) (x : Nat × Nat) : x ∈ bL r.2 r.1 ↔ ∃ y, mem r y ∧ brN y = x := by
  rw [bL_mem]
  constructor
  · rintro ⟨s, h1, h2⟩; exact ⟨_, ⟨s, h1, rfl⟩, h2⟩
  · rintro ⟨y, ⟨s, h1, rfl⟩, h2⟩; exact ⟨s, h1, h2⟩

theorem PinOk.grd {p : T_Pinned} (h : PinOk p) : Mat.Grd p.1.1.toNat p.2.1.1 (fun i => (p.2.1.2 i).toNat) (bL (hlS p).2 (hlS p).1) where
  two := h.m.1
  lt i hi := by have := h.gr i hi; show (p.2.1.2 i).toNat < _; omega
  ne i j hij hj := by have := h.asc i j hij hj; have := h.gr i (by omega); show (p.2.1.2 i).toNat ≠ (p.2.1.2 j).toNat; omega
  b0 i h1 h2 := by
    rw [bL_in]
    refine ⟨(p.2.1.2 0, p.2.1.2 i, ()), ?_, rfl⟩
    rw [hlS, hS_mem]
    exact ⟨i, h1, by omega, .inl rfl⟩
  b1 i h1 h2 := by
    rw [bL_in]
    refine ⟨(p.2.1.2 1, p.2.1.2 i, ()), ?_, rfl⟩
    rw [hlS, hS_mem]
    exact ⟨i, by omega, by omega, .inr ⟨h1, rfl⟩⟩

/-- Lists that have the few bars of the ground, and one more of its bars at most: the same rank. -/
theorem PinOk.same {p : T_Pinned} (h : PinOk p) {r q : NB} (hr : OkN p.1.1.toNat r) (hq : OkN p.1.1.toNat q) (hs : ∀ y, mem (hlS p) y → mem r y) (h1 : ∀ y, mem r y → mem q y)
    (h2 : ∀ y, mem q y → mem r y ∨ mem (hlC p) y) : rkN p.1.1.toNat q = rkN p.1.1.toNat r := by
  rw [rkN_rk, rkN_rk]
  refine h.grd.same (bL_good hr) (bL_good hq) (fun x hx => ?_) (fun x hx => ?_) (fun x hx => ?_)
  · rw [bL_in] at hx ⊢
    obtain ⟨y, h3, h4⟩ := hx
    exact ⟨y, hs y h3, h4⟩
  · rw [bL_in] at hx ⊢
    obtain ⟨y, h3, h4⟩ := hx
    exact ⟨y, h1 y h3, h4⟩
  · rw [bL_in] at hx
    obtain ⟨y, h3, h4⟩ := hx
    rcases h2 y h3 with h5 | h5
    · exact .inl ((bL_in _ _).2 ⟨y, h5, h4⟩)
    · rw [hlC, hC_mem _ _ _ _ (Nat.le_refl _)] at h5
      obtain ⟨a, b, h6, h7, h8, rfl⟩ := h5
      rw [h.brx h7 h8] at h4
      exact .inr ⟨a, b, h6, h8, h4.symm⟩

theorem PinOk.few {p : T_Pinned} (h : PinOk p) (y : T_Bar) (hy : mem (hlS p) y) : mem (hlC p) y := by
  have hm := h.m
  rw [hlS, hS_mem] at hy
  rw [hlC, hC_mem _ _ _ _ (Nat.le_refl _)]
  obtain ⟨b, h1, h2, h3⟩ := hy
  rcases h3 with rfl | ⟨h3, rfl⟩
  · exact ⟨0, b, by omega, by omega, by omega, h.brx (by omega) (by omega)⟩
  · exact ⟨1, b, by omega, by omega, by omega, h.brx (by omega) (by omega)⟩

theorem PinOk.rkH {p : T_Pinned} (h : PinOk p) : rkN p.1.1.toNat (hlC p) = rkN p.1.1.toNat (hlS p) :=
  h.same h.okHS h.okHC (fun y hy => hy) h.few (fun y hy => .inr hy)
theorem PinOk.rkA {p : T_Pinned} (h : PinOk p) : rkN p.1.1.toNat (alC p) = rkN p.1.1.toNat (alS p) := by
  refine h.same h.okAS h.okAC (fun y hy => ?_) (fun y hy => ?_) (fun y hy => ?_)
  · rw [alS, aS_mem]; exact .inl hy
  · rw [alS, aS_mem] at hy
    rw [alC, aC_mem]
    rcases hy with hy | hy
    · exact .inl (h.few y hy)
    · exact .inr hy
  · rw [alC, aC_mem] at hy
    rw [alS, aS_mem]
    rcases hy with hy | hy
    · exact .inr hy
    · exact .inl (.inr hy)

noncomputable def prG (p : T_Pinned) : Int := if pinnedF p = true then (rkN p.1.1.toNat (alS p) : Int) - (rkN p.1.1.toNat (hlS p) : Int) else -1

theorem accI_le (N k l : Nat) (g : Nat → T_Bar) : ∀ n, (accI N k l g n).length ≤ n
  | 0 => Nat.le_refl _
  | n + 1 => by
    have := accI_le N k l g n
    simp only [accI]
    split
    · simp; omega
    · omega

theorem PinOk.nC {p : T_Pinned} (h : PinOk p) : (hlC p).1 ≤ 64 := by
  have := hC_n p.2.1.2 p.2.1.1 p.2.1.1
  exact Nat.le_trans this (Nat.mul_le_mul h.m.2 h.m.2)
theorem PinOk.nS {p : T_Pinned} (h : PinOk p) : (hlS p).1 + p.1.2.1.1 ≤ 24 := by
  have := (hS_n p.2.1.2 (p.2.1.1 - 1)).2 (by have := h.m; omega)
  have := h.m; have := h.nb
  unfold hlS; omega
theorem alS_n (p : T_Pinned) : (alS p).1 = (hlS p).1 + p.1.2.1.1 := aS_n _ _ _

theorem con_PinnedRank_i (p : T_Pinned) (hs : smS s_Pinned p) : Con Try.prog 103 0 [] [pinA p] [] (.p (.int .i64 (prG p))) := by
  have c1 := con_IsPinned_i p hs
  cases hp : pinnedF p with
  | false =>
    rw [hp] at c1
    rw [show prG p = -1 by simp [prG, hp]]
    refine con_start Try.func103 rfl (by kernel_rfl) rfl (fun c hc => ?_)
    refine path_ok mixed Try.func103 hc (hPn p) ?_
    simp only [All]
    repeat' (first | exact trivial | with_reducible apply And.intro)
    all_goals (first | omega | rfl | (intros; first | assumption | exact True.intro | rfl | exact absurd (show false = true by assumption) Bool.false_ne_true | ((repeat' (first | assumption | apply anda | apply notf)); done)) | (exact c1) | (simp; done))
  | true =>
    rw [hp] at c1
    have ok := pin_ok hp
    have hN := ok.N; have hm := ok.m; have hnb := ok.nb; have hnC := ok.nC
    have ch := con_held p hm.2
    have cr1 := con_planeRank ok.okAC (by omega) (by show (hlC p).1 + p.1.2.1.1 ≤ 1048576; omega)
    have cr0 := con_planeRank ok.okHC (by omega) (by omega)
    have hNz : ((p.1.1.toNat : Nat) : Int) = p.1.1 := by omega
    rw [hNz] at cr1 cr0
    have hr1 : (accI p.1.1.toNat 2 3 (alC p).2 (alC p).1).length = rkN p.1.1.toNat (alS p) := ok.rkA
    have hr0 : (accI p.1.1.toNat 2 3 (hlC p).2 (hlC p).1).length = rkN p.1.1.toNat (hlS p) := ok.rkH
    have hb1 : rkN p.1.1.toNat (alS p) ≤ 24 := by
      have := accI_le p.1.1.toNat 2 3 (alS p).2 (alS p).1
      have := alS_n p; have := ok.nS
      unfold rkN; omega
    have hb0 : rkN p.1.1.toNat (hlS p) ≤ 24 := by
      have := accI_le p.1.1.toNat 2 3 (hlS p).2 (hlS p).1
      have := ok.nS
      unfold rkN; omega
    rw [hr1] at cr1
    rw [hr0] at cr0
    rw [show prG p = (rkN p.1.1.toNat (alS p) : Int) - (rkN p.1.1.toNat (hlS p) : Int) by simp [prG, hp]]
    rw [show hC p.2.1.2 p.2.1.1 p.2.1.1 = hlC p from rfl] at ch
    refine con_start Try.func103 rfl (by kernel_rfl) rfl (fun c hc => ?_)
    refine path_ok mixed Try.func103 hc (hPy p (hlC p).1 (hlC p).2 (rkN p.1.1.toNat (alS p)) (rkN p.1.1.toNat (hlS p))) ?_
    simp only [All]
    repeat' (first | exact trivial | with_reducible apply And.intro)
    all_goals (first | omega | rfl | (intros; first | assumption | exact True.intro | rfl | exact absurd (show false = true by assumption) Bool.false_ne_true | ((repeat' (first | assumption | apply anda | apply notf)); done)) | (exact c1) | (exact ch) | (exact cr0) | (refine Con.arg_ext cr1 ?_; simp only [brL, wkL, wk, wkP, beq_self_eq_true, Bool.and_self, if_true, ikEq, List.append_nil, List.cons_append, List.nil_append, All]; refine ⟨trivial, rfl, fun i hi => ?_, trivial⟩; by_cases h : i < (hlC p).1 <;> simp [h, cellP, tg, tru, alC, aC]))

theorem con_PinnedRank_s (p : T_Pinned) (hs : smS s_Pinned p) : Con Try.prog 96 0 [] [pinA p] [] (.p (.int .i64 (prG p))) := by
  have c1 := con_IsPinned_s p hs
  cases hp : pinnedF p with
  | false =>
    rw [hp] at c1
    rw [show prG p = -1 by simp [prG, hp]]
    refine con_start Try.func96 rfl (by kernel_rfl) rfl (fun c hc => ?_)
    refine path_ok mixed Try.func96 hc (hQn p) ?_
    simp only [All]
    repeat' (first | exact trivial | with_reducible apply And.intro)
    all_goals (first | omega | rfl | (intros; first | assumption | exact True.intro | rfl | exact absurd (show false = true by assumption) Bool.false_ne_true | ((repeat' (first | assumption | apply anda | apply notf)); done)) | (exact c1) | (simp; done))
  | true =>
    rw [hp] at c1
    have ok := pin_ok hp
    have hN := ok.N; have hm := ok.m; have hnb := ok.nb; have hnS := ok.nS; have haS := alS_n p
    have ch := con_l20Held p (by omega) (by omega)
    have ca := con_l20All p (by omega) (by omega) (by omega)
    have cr1 := con_l6Rank ok.okAS (by omega) (by omega)
    have cr0 := con_l6Rank ok.okHS (by omega) (by omega)
    have hNz : ((p.1.1.toNat : Nat) : Int) = p.1.1 := by omega
    rw [grG, hNz] at cr1 cr0
    have hb1 : rkN p.1.1.toNat (alS p) ≤ 24 := by
      have := accI_le p.1.1.toNat 2 3 (alS p).2 (alS p).1
      unfold rkN; omega
    have hb0 : rkN p.1.1.toNat (hlS p) ≤ 24 := by
      have := accI_le p.1.1.toNat 2 3 (hlS p).2 (hlS p).1
      unfold rkN; omega
    rw [show prG p = (rkN p.1.1.toNat (alS p) : Int) - (rkN p.1.1.toNat (hlS p) : Int) by simp [prG, hp]]
    rw [show hS p.2.1.2 (p.2.1.1 - 1) = hlS p from rfl] at ch
    refine con_start Try.func96 rfl (by kernel_rfl) rfl (fun c hc => ?_)
    refine path_ok mixed Try.func96 hc (hQy p (alS p).1 (hlS p).1 (alS p).2 (hlS p).2 (rkN p.1.1.toNat (alS p)) (rkN p.1.1.toNat (hlS p))) ?_
    simp only [All]
    repeat' (first | exact trivial | with_reducible apply And.intro)
    all_goals (first | omega | rfl | (intros; first | assumption | exact True.intro | rfl | exact absurd (show false = true by assumption) Bool.false_ne_true | ((repeat' (first | assumption | apply anda | apply notf)); done)) | (exact c1) | (exact ch) | (exact ca) | (exact cr0) | (exact cr1))

end Go.Proofs.Ytgdbnnmogddkaaa.Mach
