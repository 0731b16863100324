/- Points of several rigid bodies: both programs find the same. Conditions: as each theorem says. -/
import Derived.Test.YthnidhkfelfkdaaJoint
namespace Go.Proofs.Ythnidhkfelfkdaa.Mach
open Go
set_option linter.unusedVariables false
set_option linter.unusedSimpArgs false

def SHs (g : Nat → T_Bar) (nb N cn : Nat) (C : Nat → T_IntS) (i n : Nat) (f : Nat → Int) : St :=
  ⟨[grG g nb N, .pt 2 0 0 0, .p .any, .ar 1 2 0 n, .ar 1 1 0 cn, .p (.int .i64 i)] ++ List.replicate 22 anyA, [(0, bxG g nb N), (1, ssOb cn C), (2, iOb n f)], 3⟩
def SHi (v : T_Graph) (M : Nat) (K : Nat → Int) (i n : Nat) (f : Nat → Int) : St :=
  ⟨[.p .any, .p .any, .p .any, .ar 1 0 0 n, .p .any, .p .any, .p .any, .p .any, .ar 1 1 0 M, .p (.int .i64 M), .p (.int .i64 i)] ++ List.replicate 12 anyA, [(0, iOb n f), (1, iOb M K)], 2⟩

theorem hSy (v : T_Graph) :
    pathOb Try.prog Try.f27 0 [.reg [oT, oT], .reg [oT, oT], .reg [oT, ⟨true, (some ⟨[], [], 1, [(0, ssOb 0 (fun _ => (0, fun _ => 0)))], .ar 1 0 0 0⟩), none⟩, oT], .reg [oT], .loop, .reg [oT, oT, oT, oT, oT, oT, ⟨true, (some ⟨[], [], 1, [], .p (.bool false)⟩), none⟩, oT], .dec false, .reg [oT, oT]] [.code (bodyOf Try.f27)] (start Try.f27 [] 0 [graphA v]) [64] 1 [(0, iOb 0 (fun _ => 0))] (.ar 1 0 0 0) =
    some [((0 : Nat) < 1),
  Con (Try.prog) 36 0 [] [.agg [.p (.int .i64 (v.fst)), .p (.seq true 2 (v.snd.fst.fst) (fun i => [.int .i64 ((v.snd.fst.snd i).fst), .int .i64 ((v.snd.fst.snd i).snd.fst)]))]] [(0, ⟨false, 1, 0, (fun i => [.p (.seq false 1 0 (fun i_1 => [.int .i64 ((0, fun x => 0).snd i_1)]))])⟩)] (.ar 1 0 0 0),
  ((0 : Nat) < 1),
  (((decide (0 < v.fst)) = true) → ((0 : Nat) < 1)),
  (((decide (0 < v.fst)) = true) → ((decide (0 < v.fst)) = true)),
  (((decide (0 < v.fst)) = true) → Con (Try.prog) 35 0 [] [.agg [.p (.int .i64 (v.fst)), .p (.seq true 2 (v.snd.fst.fst) (fun i => [.int .i64 ((v.snd.fst.snd i).fst), .int .i64 ((v.snd.fst.snd i).snd.fst)]))]] [] (.p (.bool false))),
  (((decide (0 < v.fst)) = true) → ((decide (0 < v.fst)) = true)),
  ((bif decide (0 < v.fst) then false else false) = false),
  ((0 : Nat) = 0),
  ((0 : Nat) = 0),
  ((1 : Nat) = 1),
  ((0 : Nat) ≤ 0),
  (∀ i : Nat, ((((i) : Nat) < 0) → (All [] ∧ (([.p .any] : List AV) = [.p (.int .i64 0)])))),
  (∀ i : Nat, ((((i) : Nat) < 0) → All []))] := by kernel_rfl
theorem hSz (g : Nat → T_Bar) (nb N cn : Nat) (C : Nat → T_IntS) :
    pieceOb Try.prog 0 [.reg [oT, oT], .reg [oT, oT], .reg [oT, ⟨true, (some ⟨[], [], 1, [(0, ssOb cn C)], .ar 1 0 0 cn⟩), none⟩, oT], .reg [oT], .head] [.code (bodyOf Try.f27)] (start Try.f27 [] 0 [grG g nb N]) [0, 160, 64] 1 (SHs g nb N cn C 0 0 (fun _ => 0)) =
    some ([.code (cAt (bodyOf Try.f27) [1, 1, 1, 0, 1, 0, 0]), .inLoop (cAt (bodyOf Try.f27) [1, 1, 1, 0, 1, 0, 0]), .inBlock 0, .code (cAt (bodyOf Try.f27) [1, 1, 1, 1])], [((0 : Nat) < 1),
  Con (Try.prog) 36 0 [] [.agg [.p (.int .i64 ((↑N : Int))), .p (.seq true 2 (nb) (fun i => [.int .i64 ((g i).fst), .int .i64 ((g i).snd.fst)]))]] [(0, ⟨false, 1, (cn), (fun i => [.p (.seq false 1 ((C i).fst) (fun i_1 => [.int .i64 ((C i).snd i_1)]))])⟩)] (.ar 1 0 0 (cn)),
  ((((↑N : Int)) : Int) = ((↑N : Int))),
  (((nb) : Nat) = (nb)),
  (∀ i : Nat, ((((i) : Nat) < (nb)) → (([.int .i64 ((g i).fst), .int .i64 ((g i).snd.fst)] : List PV) = [.int .i64 ((g i).fst), .int .i64 ((g i).snd.fst)]))),
  ((0 : Nat) = 0),
  ((0 : Nat) = 0),
  ((0 : Nat) = 0),
  ((0 : Nat) = 0),
  (((cn) : Nat) = (cn)),
  ((0 : Int) = ((↑0 : Int))),
  ((([AV.p (PV.int IntKind.i64 (↑N : Int)), brL g nb].length) : Nat) = 2),
  ((1 : Nat) ≤ 1),
  ((1 : Nat) ≤ 1),
  ((((↑N : Int)) : Int) = ((↑N : Int))),
  (((nb) : Nat) = (nb)),
  (∀ i : Nat, ((((i) : Nat) < (nb)) → (([.int .i64 ((g i).fst), .int .i64 ((g i).snd.fst)] : List PV) = [.int .i64 ((g i).fst), .int .i64 ((g i).snd.fst)]))),
  ((1 : Nat) = 1),
  (((cn) : Nat) ≤ (cn)),
  (∀ i : Nat, ((((i) : Nat) < (cn)) → (All [] ∧ (([.p (.seq false 1 ((C i).fst) (fun i_1 => [.int .i64 ((C i).snd i_1)]))] : List AV) = [.p (.seq false 1 ((C i).fst) (fun i_1 => [.int .i64 ((C i).snd i_1)]))])))),
  ((1 : Nat) = 1),
  ((0 : Nat) ≤ 0),
  (∀ i : Nat, ((((i) : Nat) < 0) → (All [] ∧ (([.p .any] : List AV) = [.p (.int .i64 0)]))))]) := by kernel_rfl
theorem hSt (g : Nat → T_Bar) (nb N cn : Nat) (C : Nat → T_IntS) (i n : Nat) (f : Nat → Int) (r : Int) :
    pieceOb Try.prog 0 [.reg [oT, oT, oT, oT, oT, oT, ⟨true, (some ⟨[], [], 1, [], .p (.bool true)⟩), none⟩, oT], .dec true, .reg [oT, oT, ⟨true, (some ⟨[], [], 1, [], .p (.int .i64 r)⟩), none⟩, oT], .dec true, .reg [oT, oT, oT, oT, oT], .reg [oT, oT, oT], .head] [.code (cAt (bodyOf Try.f27) [1, 1, 1, 0, 1, 0, 0]), .inLoop (cAt (bodyOf Try.f27) [1, 1, 1, 0, 1, 0, 0]), .inBlock 0, .code (cAt (bodyOf Try.f27) [1, 1, 1, 1])] (SHs g nb N cn C i n f) [0, 1, 483] 1 (SHs g nb N cn C (i + 1) (n + 1) (snocI n f i)) =
    some ([.code (cAt (bodyOf Try.f27) [1, 1, 1, 0, 1, 0, 0]), .inLoop (cAt (bodyOf Try.f27) [1, 1, 1, 0, 1, 0, 0]), .inBlock 0, .code (cAt (bodyOf Try.f27) [1, 1, 1, 1])], [((0 : Nat) < 1),
  (((decide ((↑i : Int) < (↑N : Int))) = true) → ((0 : Nat) < 1)),
  (((decide ((↑i : Int) < (↑N : Int))) = true) → ((decide ((↑i : Int) < (↑N : Int))) = true)),
  (((decide ((↑i : Int) < (↑N : Int))) = true) → Con (Try.prog) 35 0 [] [.agg [.p (.int .i64 ((↑N : Int))), .p (.seq true 2 (nb) (fun i_1 => [.int .i64 ((g i_1).fst), .int .i64 ((g i_1).snd.fst)]))]] [] (.p (.bool true))),
  (((decide ((↑i : Int) < (↑N : Int))) = true) → ((decide ((↑i : Int) < (↑N : Int))) = true)),
  ((bif decide ((↑i : Int) < (↑N : Int)) then true else false) = true),
  ((1 : Nat) = 1),
  (((cn) : Nat) ≤ (cn)),
  Con (Try.prog) 41 0 [] [.p (.seq true 1 (cn) (fun i_1 => [.seq true 1 ((C i_1).fst) (fun i_2 => [.int .i64 ((C i_1).snd i_2)])])), .p (.int .i64 ((↑i : Int)))] [] (.p (.int .i64 (r))),
  ((decide (r > 1)) = true),
  ((1 : Nat) ≤ 1),
  (((n) : Nat) ≤ (n)),
  ((((n + 1) * 8) : Nat) ≤ 140737488355328),
  (((n + 1) : Nat) ≤ 9223372036854775807),
  (((-9223372036854775808) : Int) ≤ ((↑i : Int) + 1)),
  ((((↑i : Int) + 1) : Int) ≤ 9223372036854775807),
  ((((↑N : Int)) : Int) = ((↑N : Int))),
  (((nb) : Nat) = (nb)),
  (∀ i_1 : Nat, ((((i_1) : Nat) < (nb)) → (([.int .i64 ((g i_1).fst), .int .i64 ((g i_1).snd.fst)] : List PV) = [.int .i64 ((g i_1).fst), .int .i64 ((g i_1).snd.fst)]))),
  ((0 : Nat) = 0),
  ((0 : Nat) = 0),
  (((n + 1) : Nat) = (n + 1)),
  ((0 : Nat) = 0),
  (((cn) : Nat) = (cn)),
  ((((↑i : Int) + 1) : Int) = ((↑(i + 1) : Int))),
  ((2 : Nat) = 2),
  ((1 : Nat) ≤ 1),
  ((1 : Nat) ≤ 1),
  ((((↑N : Int)) : Int) = ((↑N : Int))),
  (((nb) : Nat) = (nb)),
  (∀ i_1 : Nat, ((((i_1) : Nat) < (nb)) → (([.int .i64 ((g i_1).fst), .int .i64 ((g i_1).snd.fst)] : List PV) = [.int .i64 ((g i_1).fst), .int .i64 ((g i_1).snd.fst)]))),
  ((1 : Nat) = 1),
  (((cn) : Nat) ≤ (cn)),
  (∀ i_1 : Nat, ((((i_1) : Nat) < (cn)) → (All [] ∧ (([.p (.seq false 1 ((C i_1).fst) (fun i_2 => [.int .i64 ((C i_1).snd i_2)]))] : List AV) = [.p (.seq false 1 ((C i_1).fst) (fun i_2 => [.int .i64 ((C i_1).snd i_2)]))])))),
  ((1 : Nat) = 1),
  (((n + 1) : Nat) ≤ (n + 1)),
  (∀ i_1 : Nat, ((((i_1) : Nat) < (n + 1)) → (All (cvtL false [(483, ⟨false, 1, (n + 1), (fun i_2 => (if (i_2 < n) then [.p (.int .i64 (f i_2))] else [.p (.int .i64 ((↑i : Int)))]))⟩), (451, ⟨false, 1, 1, (fun i_2 => [.p (.int .i64 ((↑i : Int)))])⟩), (0, ⟨true, 2, 1, (fun i_2 => [.p (.int .i64 ((↑N : Int))), .p (.seq true 2 (nb) (fun i_3 => [.int .i64 ((g i_3).fst), .int .i64 ((g i_3).snd.fst)]))])⟩), (1, ⟨false, 1, (cn), (fun i_2 => [.p (.seq false 1 ((C i_2).fst) (fun i_3 => [.int .i64 ((C i_2).snd i_3)]))])⟩)] [0, 1, 483] 1 (if (i_1 < n) then [.p (.int .i64 (f i_1))] else [.p (.int .i64 ((↑i : Int)))])).2 ∧ (((cvtL false [(483, ⟨false, 1, (n + 1), (fun i_2 => (if (i_2 < n) then [.p (.int .i64 (f i_2))] else [.p (.int .i64 ((↑i : Int)))]))⟩), (451, ⟨false, 1, 1, (fun i_2 => [.p (.int .i64 ((↑i : Int)))])⟩), (0, ⟨true, 2, 1, (fun i_2 => [.p (.int .i64 ((↑N : Int))), .p (.seq true 2 (nb) (fun i_3 => [.int .i64 ((g i_3).fst), .int .i64 ((g i_3).snd.fst)]))])⟩), (1, ⟨false, 1, (cn), (fun i_2 => [.p (.seq false 1 ((C i_2).fst) (fun i_3 => [.int .i64 ((C i_2).snd i_3)]))])⟩)] [0, 1, 483] 1 (if (i_1 < n) then [.p (.int .i64 (f i_1))] else [.p (.int .i64 ((↑i : Int)))])).1 : List AV) = [.p (.int .i64 (snocI n f (↑i : Int) i_1))]))))]) := by kernel_rfl
theorem hSf (g : Nat → T_Bar) (nb N cn : Nat) (C : Nat → T_IntS) (i n : Nat) (f : Nat → Int) (r : Int) :
    pieceOb Try.prog 0 [.reg [oT, oT, oT, oT, oT, oT, ⟨true, (some ⟨[], [], 1, [], .p (.bool true)⟩), none⟩, oT], .dec true, .reg [oT, oT, ⟨true, (some ⟨[], [], 1, [], .p (.int .i64 r)⟩), none⟩, oT], .dec false, .reg [oT, oT, oT], .head] [.code (cAt (bodyOf Try.f27) [1, 1, 1, 0, 1, 0, 0]), .inLoop (cAt (bodyOf Try.f27) [1, 1, 1, 0, 1, 0, 0]), .inBlock 0, .code (cAt (bodyOf Try.f27) [1, 1, 1, 1])] (SHs g nb N cn C i n f) [0, 1, 2] 1 (SHs g nb N cn C (i + 1) n f) =
    some ([.code (cAt (bodyOf Try.f27) [1, 1, 1, 0, 1, 0, 0]), .inLoop (cAt (bodyOf Try.f27) [1, 1, 1, 0, 1, 0, 0]), .inBlock 0, .code (cAt (bodyOf Try.f27) [1, 1, 1, 1])], [((0 : Nat) < 1),
  (((decide ((↑i : Int) < (↑N : Int))) = true) → ((0 : Nat) < 1)),
  (((decide ((↑i : Int) < (↑N : Int))) = true) → ((decide ((↑i : Int) < (↑N : Int))) = true)),
  (((decide ((↑i : Int) < (↑N : Int))) = true) → Con (Try.prog) 35 0 [] [.agg [.p (.int .i64 ((↑N : Int))), .p (.seq true 2 (nb) (fun i_1 => [.int .i64 ((g i_1).fst), .int .i64 ((g i_1).snd.fst)]))]] [] (.p (.bool true))),
  (((decide ((↑i : Int) < (↑N : Int))) = true) → ((decide ((↑i : Int) < (↑N : Int))) = true)),
  ((bif decide ((↑i : Int) < (↑N : Int)) then true else false) = true),
  ((1 : Nat) = 1),
  (((cn) : Nat) ≤ (cn)),
  Con (Try.prog) 41 0 [] [.p (.seq true 1 (cn) (fun i_1 => [.seq true 1 ((C i_1).fst) (fun i_2 => [.int .i64 ((C i_1).snd i_2)])])), .p (.int .i64 ((↑i : Int)))] [] (.p (.int .i64 (r))),
  ((decide (r > 1)) = false),
  (((-9223372036854775808) : Int) ≤ ((↑i : Int) + 1)),
  ((((↑i : Int) + 1) : Int) ≤ 9223372036854775807),
  ((((↑N : Int)) : Int) = ((↑N : Int))),
  (((nb) : Nat) = (nb)),
  (∀ i_1 : Nat, ((((i_1) : Nat) < (nb)) → (([.int .i64 ((g i_1).fst), .int .i64 ((g i_1).snd.fst)] : List PV) = [.int .i64 ((g i_1).fst), .int .i64 ((g i_1).snd.fst)]))),
  ((0 : Nat) = 0),
  ((0 : Nat) = 0),
  (((n) : Nat) = (n)),
  ((0 : Nat) = 0),
  (((cn) : Nat) = (cn)),
  ((((↑i : Int) + 1) : Int) = ((↑(i + 1) : Int))),
  ((2 : Nat) = 2),
  ((1 : Nat) ≤ 1),
  ((1 : Nat) ≤ 1),
  ((((↑N : Int)) : Int) = ((↑N : Int))),
  (((nb) : Nat) = (nb)),
  (∀ i_1 : Nat, ((((i_1) : Nat) < (nb)) → (([.int .i64 ((g i_1).fst), .int .i64 ((g i_1).snd.fst)] : List PV) = [.int .i64 ((g i_1).fst), .int .i64 ((g i_1).snd.fst)]))),
  ((1 : Nat) = 1),
  (((cn) : Nat) ≤ (cn)),
  (∀ i_1 : Nat, ((((i_1) : Nat) < (cn)) → (All [] ∧ (([.p (.seq false 1 ((C i_1).fst) (fun i_2 => [.int .i64 ((C i_1).snd i_2)]))] : List AV) = [.p (.seq false 1 ((C i_1).fst) (fun i_2 => [.int .i64 ((C i_1).snd i_2)]))])))),
  ((1 : Nat) = 1),
  (((n) : Nat) ≤ (n)),
  (∀ i_1 : Nat, ((((i_1) : Nat) < (n)) → (All [] ∧ (([.p (.int .i64 (f i_1))] : List AV) = [.p (.int .i64 (f i_1))]))))]) := by kernel_rfl
theorem hSe (g : Nat → T_Bar) (nb N cn : Nat) (C : Nat → T_IntS) (i n : Nat) (f : Nat → Int) :
    pathOb Try.prog Try.f27 0 [.reg [oT, oT, oT, oT, oT, oT, ⟨true, (some ⟨[], [], 1, [], .p (.bool true)⟩), none⟩, oT], .dec false, .reg [oT, oT]] [.code (cAt (bodyOf Try.f27) [1, 1, 1, 0, 1, 0, 0]), .inLoop (cAt (bodyOf Try.f27) [1, 1, 1, 0, 1, 0, 0]), .inBlock 0, .code (cAt (bodyOf Try.f27) [1, 1, 1, 1])] (SHs g nb N cn C i n f) [2] 1 [(0, iOb n f)] (.ar 1 0 0 n) =
    some [((0 : Nat) < 1),
  (((decide ((↑i : Int) < (↑N : Int))) = true) → ((0 : Nat) < 1)),
  (((decide ((↑i : Int) < (↑N : Int))) = true) → ((decide ((↑i : Int) < (↑N : Int))) = true)),
  (((decide ((↑i : Int) < (↑N : Int))) = true) → Con (Try.prog) 35 0 [] [.agg [.p (.int .i64 ((↑N : Int))), .p (.seq true 2 (nb) (fun i_1 => [.int .i64 ((g i_1).fst), .int .i64 ((g i_1).snd.fst)]))]] [] (.p (.bool true))),
  (((decide ((↑i : Int) < (↑N : Int))) = true) → ((decide ((↑i : Int) < (↑N : Int))) = true)),
  ((bif decide ((↑i : Int) < (↑N : Int)) then true else false) = false),
  ((0 : Nat) = 0),
  (((n) : Nat) = (n)),
  ((1 : Nat) = 1),
  (((n) : Nat) ≤ (n)),
  (∀ i_1 : Nat, ((((i_1) : Nat) < (n)) → (All [] ∧ (([.p (.int .i64 (f i_1))] : List AV) = [.p (.int .i64 (f i_1))])))),
  (∀ i_1 : Nat, ((((i_1) : Nat) < (n)) → All []))] := by kernel_rfl
theorem hIz (v : T_Graph) (M : Nat) (K : Nat → Int) :
    pieceOb Try.prog 0 [.reg [oT, oT], .reg [oT, oT], .reg [oT, ⟨true, (some ⟨[], [], 1, [(0, iOb M K)], .ar 1 0 0 M⟩), none⟩, oT, oT], .head] [.code (bodyOf Try.f28)] (start Try.f28 [] 0 [graphA v]) [64, 160] 1 (SHi v M K 0 0 (fun _ => 0)) =
    some ([.code (cAt (bodyOf Try.f28) [1, 1, 0, 1, 0, 0]), .inLoop (cAt (bodyOf Try.f28) [1, 1, 0, 1, 0, 0]), .inBlock 0, .code (cAt (bodyOf Try.f28) [1, 1, 1])], [((0 : Nat) < 1),
  Con (Try.prog) 17 0 [] [.agg [.p (.int .i64 (v.fst)), .p (.seq true 2 (v.snd.fst.fst) (fun i => [.int .i64 ((v.snd.fst.snd i).fst), .int .i64 ((v.snd.fst.snd i).snd.fst)]))]] [(0, ⟨false, 1, (M), (fun i => [.p (.int .i64 (K i))])⟩)] (.ar 1 0 0 (M)),
  ((0 : Nat) = 0),
  ((0 : Nat) = 0),
  ((0 : Nat) = 0),
  (((M) : Nat) = (M)),
  ((((↑M : Int)) : Int) = ((↑M : Int))),
  ((0 : Int) = ((↑0 : Int))),
  ((1 : Nat) = 1),
  ((0 : Nat) ≤ 0),
  (∀ i : Nat, ((((i) : Nat) < 0) → (All [] ∧ (([.p .any] : List AV) = [.p (.int .i64 0)])))),
  ((1 : Nat) = 1),
  (((M) : Nat) ≤ (M)),
  (∀ i : Nat, ((((i) : Nat) < (M)) → (All [] ∧ (([.p (.int .i64 (K i))] : List AV) = [.p (.int .i64 (K i))]))))]) := by kernel_rfl
theorem hIt (v : T_Graph) (M : Nat) (K : Nat → Int) (i n : Nat) (f : Nat → Int) :
    pieceOb Try.prog 0 [.reg [oT], .dec true, .reg [oT, oT, oT, oT, oT], .reg [oT, oT], .dec true, .reg [oT, oT, oT, oT, oT], .reg [oT, oT], .head] [.code (cAt (bodyOf Try.f28) [1, 1, 0, 1, 0, 0]), .inLoop (cAt (bodyOf Try.f28) [1, 1, 0, 1, 0, 0]), .inBlock 0, .code (cAt (bodyOf Try.f28) [1, 1, 1])] (SHi v M K i n f) [354, 1] 1 (SHi v M K (i + 1) (n + 1) (snocI n f i)) =
    some ([.code (cAt (bodyOf Try.f28) [1, 1, 0, 1, 0, 0]), .inLoop (cAt (bodyOf Try.f28) [1, 1, 0, 1, 0, 0]), .inBlock 0, .code (cAt (bodyOf Try.f28) [1, 1, 1])], [((decide ((↑i : Int) < (↑M : Int))) = true),
  ((0 : Int) ≤ ((↑i : Int))),
  ((((↑i : Int)) : Int) < ((↑M : Int))),
  (((i) : Nat) < (M)),
  ((decide (K ((↑i : Int).toNat + 0) ≥ 2)) = true),
  ((1 : Nat) ≤ 1),
  (((n) : Nat) ≤ (n)),
  ((((n + 1) * 8) : Nat) ≤ 140737488355328),
  (((n + 1) : Nat) ≤ 9223372036854775807),
  (((-9223372036854775808) : Int) ≤ ((↑i : Int) + 1)),
  ((((↑i : Int) + 1) : Int) ≤ 9223372036854775807),
  ((0 : Nat) = 0),
  (((n + 1) : Nat) = (n + 1)),
  ((0 : Nat) = 0),
  (((M) : Nat) = (M)),
  ((((↑M : Int)) : Int) = ((↑M : Int))),
  ((((↑i : Int) + 1) : Int) = ((↑(i + 1) : Int))),
  ((1 : Nat) = 1),
  (((n + 1) : Nat) ≤ (n + 1)),
  (∀ i_1 : Nat, ((((i_1) : Nat) < (n + 1)) → (All (cvtL false [(354, ⟨false, 1, (n + 1), (fun i_2 => (if (i_2 < n) then [.p (.int .i64 (f i_2))] else [.p (.int .i64 ((↑i : Int)))]))⟩), (322, ⟨false, 1, 1, (fun i_2 => [.p (.int .i64 ((↑i : Int)))])⟩), (1, ⟨false, 1, (M), (fun i_2 => [.p (.int .i64 (K i_2))])⟩)] [354, 1] 1 (if (i_1 < n) then [.p (.int .i64 (f i_1))] else [.p (.int .i64 ((↑i : Int)))])).2 ∧ (((cvtL false [(354, ⟨false, 1, (n + 1), (fun i_2 => (if (i_2 < n) then [.p (.int .i64 (f i_2))] else [.p (.int .i64 ((↑i : Int)))]))⟩), (322, ⟨false, 1, 1, (fun i_2 => [.p (.int .i64 ((↑i : Int)))])⟩), (1, ⟨false, 1, (M), (fun i_2 => [.p (.int .i64 (K i_2))])⟩)] [354, 1] 1 (if (i_1 < n) then [.p (.int .i64 (f i_1))] else [.p (.int .i64 ((↑i : Int)))])).1 : List AV) = [.p (.int .i64 (snocI n f (↑i : Int) i_1))])))),
  ((1 : Nat) = 1),
  (((M) : Nat) ≤ (M)),
  (∀ i_1 : Nat, ((((i_1) : Nat) < (M)) → (All [] ∧ (([.p (.int .i64 (K i_1))] : List AV) = [.p (.int .i64 (K i_1))]))))]) := by kernel_rfl
theorem hIf (v : T_Graph) (M : Nat) (K : Nat → Int) (i n : Nat) (f : Nat → Int) :
    pieceOb Try.prog 0 [.reg [oT], .dec true, .reg [oT, oT, oT, oT, oT], .reg [oT, oT], .dec false, .reg [oT, oT], .head] [.code (cAt (bodyOf Try.f28) [1, 1, 0, 1, 0, 0]), .inLoop (cAt (bodyOf Try.f28) [1, 1, 0, 1, 0, 0]), .inBlock 0, .code (cAt (bodyOf Try.f28) [1, 1, 1])] (SHi v M K i n f) [0, 1] 1 (SHi v M K (i + 1) n f) =
    some ([.code (cAt (bodyOf Try.f28) [1, 1, 0, 1, 0, 0]), .inLoop (cAt (bodyOf Try.f28) [1, 1, 0, 1, 0, 0]), .inBlock 0, .code (cAt (bodyOf Try.f28) [1, 1, 1])], [((decide ((↑i : Int) < (↑M : Int))) = true),
  ((0 : Int) ≤ ((↑i : Int))),
  ((((↑i : Int)) : Int) < ((↑M : Int))),
  (((i) : Nat) < (M)),
  ((decide (K ((↑i : Int).toNat + 0) ≥ 2)) = false),
  (((-9223372036854775808) : Int) ≤ ((↑i : Int) + 1)),
  ((((↑i : Int) + 1) : Int) ≤ 9223372036854775807),
  ((0 : Nat) = 0),
  (((n) : Nat) = (n)),
  ((0 : Nat) = 0),
  (((M) : Nat) = (M)),
  ((((↑M : Int)) : Int) = ((↑M : Int))),
  ((((↑i : Int) + 1) : Int) = ((↑(i + 1) : Int))),
  ((1 : Nat) = 1),
  (((n) : Nat) ≤ (n)),
  (∀ i_1 : Nat, ((((i_1) : Nat) < (n)) → (All [] ∧ (([.p (.int .i64 (f i_1))] : List AV) = [.p (.int .i64 (f i_1))])))),
  ((1 : Nat) = 1),
  (((M) : Nat) ≤ (M)),
  (∀ i_1 : Nat, ((((i_1) : Nat) < (M)) → (All [] ∧ (([.p (.int .i64 (K i_1))] : List AV) = [.p (.int .i64 (K i_1))]))))]) := by kernel_rfl
theorem hIe (v : T_Graph) (M : Nat) (K : Nat → Int) (i n : Nat) (f : Nat → Int) :
    pathOb Try.prog Try.f28 0 [.reg [oT], .dec false, .reg [oT, oT]] [.code (cAt (bodyOf Try.f28) [1, 1, 0, 1, 0, 0]), .inLoop (cAt (bodyOf Try.f28) [1, 1, 0, 1, 0, 0]), .inBlock 0, .code (cAt (bodyOf Try.f28) [1, 1, 1])] (SHi v M K i n f) [0] 1 [(0, iOb n f)] (.ar 1 0 0 n) =
    some [((decide ((↑i : Int) < (↑M : Int))) = false),
  ((0 : Nat) = 0),
  (((n) : Nat) = (n)),
  ((1 : Nat) = 1),
  (((n) : Nat) ≤ (n)),
  (∀ i_1 : Nat, ((((i_1) : Nat) < (n)) → (All [] ∧ (([.p (.int .i64 (f i_1))] : List AV) = [.p (.int .i64 (f i_1))])))),
  (∀ i_1 : Nat, ((((i_1) : Nat) < (n)) → All []))] := by kernel_rfl

def shD (K : Nat → Int) : Nat → T_IntS
  | 0 => (0, fun _ => 0)
  | p + 1 => if decide (K p ≥ 2) = true then ((shD K p).1 + 1, snocI (shD K p).1 (shD K p).2 p) else shD K p

theorem shD_le (K : Nat → Int) : ∀ p, (shD K p).1 ≤ p
  | 0 => Nat.le_refl _
  | p + 1 => by
    have := shD_le K p
    simp only [shD]
    split
    · show (shD K p).1 + 1 ≤ p + 1; omega
    · omega

noncomputable def shG (v : T_Graph) : T_IntS := shD (jkG v).2 (jkG v).1

theorem con_SharedPoints_s (v : T_Graph) (hs : smS s_Graph v) : Con Try.prog 27 0 [] [graphA v] [(0, iOb (shG v).1 (shG v).2)] (.ar 1 0 0 (shG v).1) := by
  have hcm := con_Comps_s v hs
  have hcg := con_IsGraph_s v hs
  cases hg : isGraphF v with
  | false =>
    rw [hg] at hcg
    rw [show compsG v = (0, fun _ => (0, fun _ => 0)) by simp [compsG, hg]] at hcm
    rw [show shG v = (0, fun _ => 0) by simp [shG, jkG, hg, shD]]
    refine con_start Try.func27 rfl (by kernel_rfl) rfl (fun c hc => ?_)
    refine path_ok mixed Try.func27 hc (hSy v) ?_
    simp only [All]
    repeat' (first | exact trivial | with_reducible apply And.intro)
    all_goals (first | omega | rfl | (intros; first | assumption | exact True.intro | rfl | exact absurd (show false = true by assumption) Bool.false_ne_true | ((repeat' (first | assumption | apply anda | apply notf)); done)) | (exact hcm) | (intros; exact hcg) | (simp; done) | (intro i hi; simp [All]))
  | true =>
    rw [hg] at hcg
    have hle := compsG_le v
    obtain ⟨N, nb, g, rfl⟩ := graph_cases v hg
    obtain ⟨hN, hnb, _⟩ := graph_in hg
    rw [show shG ((N : Int), (nb, g), ()) = shD (fun x : Nat => inC (compsG ((N : Int), (nb, g), ())).2 (x : Int) (compsG ((N : Int), (nb, g), ())).1) N by simp [shG, jkG, hg]]
    generalize compsG ((N : Int), (nb, g), ()) = cc at hcm hle ⊢
    obtain ⟨cn, C⟩ := cc
    simp only at hle ⊢
    obtain ⟨K, hK⟩ : ∃ K : Nat → Int, K = fun x : Nat => inC C (x : Int) cn := ⟨_, rfl⟩
    rw [← hK]
    refine con_start Try.func27 rfl (by kernel_rfl) rfl (fun c hc => ?_)
    have lp : ∀ d i, i + d = N → Run Try.prog c 27 [.code (cAt (bodyOf Try.f27) [1, 1, 1, 0, 1, 0, 0]), .inLoop (cAt (bodyOf Try.f27) [1, 1, 1, 0, 1, 0, 0]), .inBlock 0, .code (cAt (bodyOf Try.f27) [1, 1, 1, 1])] (SHs g nb N cn C i (shD K i).1 (shD K i).2) (Post c [(0, iOb (shD K N).1 (shD K N).2)] (.ar 1 0 0 (shD K N).1)) := by
      intro d
      induction d with
      | zero =>
        intro i hi
        obtain rfl : i = N := by omega
        have hd : decide ((i : Int) < (i : Int)) = false := by simp
        refine path_ok mixed Try.func27 hc (hSe g nb i cn C i (shD K i).1 (shD K i).2) ?_
        simp only [All]
        repeat' (first | exact trivial | with_reducible apply And.intro)
        all_goals (first | omega | rfl | (intros; first | assumption | exact True.intro | rfl | exact absurd (show false = true by assumption) Bool.false_ne_true | ((repeat' (first | assumption | apply anda | apply notf)); done)) | (intros; exact hcg) | (intro h; rw [hd] at h; cases h) | (rw [hd]; rfl) | (simp; done) | (intro j hj; simp [All]))
      | succ d ih =>
        intro i hi
        have hd : decide ((i : Int) < (N : Int)) = true := by simp; omega
        have hsl := shD_le K i
        have hl := con_l30In cn C i (by omega) (fun j hj => by have := hle.2 j hj; omega)
        have hKi : inC C (i : Int) cn = K i := by rw [hK]
        rw [hKi] at hl
        have hih := ih (i + 1) (by omega)
        cases ht : decide (K i ≥ 2) with
        | true =>
          have ht' : decide (K i > 1) = true := by simp at ht ⊢; omega
          rw [show shD K (i + 1) = ((shD K i).1 + 1, snocI (shD K i).1 (shD K i).2 i) by simp only [shD]; rw [if_pos ht]] at hih
          refine piece_ok mixed hc (hSt g nb N cn C i (shD K i).1 (shD K i).2 (K i)) ?_ hih
          simp only [All]
          repeat' (first | exact trivial | with_reducible apply And.intro)
          all_goals (first | omega | rfl | (intros; first | assumption | exact True.intro | rfl | exact absurd (show false = true by assumption) Bool.false_ne_true | ((repeat' (first | assumption | apply anda | apply notf)); done)) | (intros; exact hcg) | (exact hl) | (rw [hd]; rfl) | (exact ht') | (intro j hj; simp [All]; done) | (intro j hj; by_cases h : j < (shD K i).1 <;> simp [h, snocI, cvtL, cvt, tg, tru, All]))
        | false =>
          have ht' : decide (K i > 1) = false := by simp at ht ⊢; omega
          rw [show shD K (i + 1) = shD K i by simp only [shD]; rw [if_neg (by rw [ht]; simp)]] at hih
          refine piece_ok mixed hc (hSf g nb N cn C i (shD K i).1 (shD K i).2 (K i)) ?_ hih
          simp only [All]
          repeat' (first | exact trivial | with_reducible apply And.intro)
          all_goals (first | omega | rfl | (intros; first | assumption | exact True.intro | rfl | exact absurd (show false = true by assumption) Bool.false_ne_true | ((repeat' (first | assumption | apply anda | apply notf)); done)) | (intros; exact hcg) | (exact hl) | (rw [hd]; rfl) | (exact ht') | (intro j hj; simp [All]))
    refine piece_ok mixed hc (hSz g nb N cn C) ?_ (lp N 0 (by omega))
    simp only [All]
    repeat' (first | exact trivial | with_reducible apply And.intro)
    all_goals (first | omega | rfl | (intros; first | assumption | exact True.intro | rfl | exact absurd (show false = true by assumption) Bool.false_ne_true | ((repeat' (first | assumption | apply anda | apply notf)); done)) | (exact hcm) | (intro j hj; simp [All]))

theorem con_SharedPoints_i (v : T_Graph) (hs : smS s_Graph v) : Con Try.prog 28 0 [] [graphA v] [(0, iOb (shG v).1 (shG v).2)] (.ar 1 0 0 (shG v).1) := by
  have hcj := con_JointKinds_i v hs
  have hle := jkG_le v
  unfold shG
  generalize jkG v = jj at hcj hle ⊢
  obtain ⟨M, K⟩ := jj
  simp only at hle ⊢
  refine con_start Try.func28 rfl (by kernel_rfl) rfl (fun c hc => ?_)
  have lp : ∀ d i, i + d = M → Run Try.prog c 28 [.code (cAt (bodyOf Try.f28) [1, 1, 0, 1, 0, 0]), .inLoop (cAt (bodyOf Try.f28) [1, 1, 0, 1, 0, 0]), .inBlock 0, .code (cAt (bodyOf Try.f28) [1, 1, 1])] (SHi v M K i (shD K i).1 (shD K i).2) (Post c [(0, iOb (shD K M).1 (shD K M).2)] (.ar 1 0 0 (shD K M).1)) := by
    intro d
    induction d with
    | zero =>
      intro i hi
      obtain rfl : i = M := by omega
      have hd : decide ((i : Int) < (i : Int)) = false := by simp
      refine path_ok mixed Try.func28 hc (hIe v i K i (shD K i).1 (shD K i).2) ?_
      simp only [All]
      repeat' (first | exact trivial | with_reducible apply And.intro)
      all_goals (first | omega | rfl | (intros; first | assumption | exact True.intro | rfl | exact absurd (show false = true by assumption) Bool.false_ne_true | ((repeat' (first | assumption | apply anda | apply notf)); done)) | (intro j hj; simp [All]))
    | succ d ih =>
      intro i hi
      have hd : decide ((i : Int) < (M : Int)) = true := by simp; omega
      have hsl := shD_le K i
      have hih := ih (i + 1) (by omega)
      cases ht : decide (K i ≥ 2) with
      | true =>
        rw [show shD K (i + 1) = ((shD K i).1 + 1, snocI (shD K i).1 (shD K i).2 i) by simp only [shD]; rw [if_pos ht]] at hih
        refine piece_ok mixed hc (hIt v M K i (shD K i).1 (shD K i).2) ?_ hih
        simp only [All]
        repeat' (first | exact trivial | with_reducible apply And.intro)
        all_goals (first | omega | rfl | (intros; first | assumption | exact True.intro | rfl | exact absurd (show false = true by assumption) Bool.false_ne_true | ((repeat' (first | assumption | apply anda | apply notf)); done)) | (exact ht) | (intro j hj; simp [All]; done) | (intro j hj; by_cases h : j < (shD K i).1 <;> simp [h, snocI, cvtL, cvt, tg, tru, All]))
      | false =>
        rw [show shD K (i + 1) = shD K i by simp only [shD]; rw [if_neg (by rw [ht]; simp)]] at hih
        refine piece_ok mixed hc (hIf v M K i (shD K i).1 (shD K i).2) ?_ hih
        simp only [All]
        repeat' (first | exact trivial | with_reducible apply And.intro)
        all_goals (first | omega | rfl | (intros; first | assumption | exact True.intro | rfl | exact absurd (show false = true by assumption) Bool.false_ne_true | ((repeat' (first | assumption | apply anda | apply notf)); done)) | (exact ht) | (intro j hj; simp [All]))
  refine piece_ok mixed hc (hIz v M K) ?_ (lp M 0 (by omega))
  simp only [All]
  repeat' (first | exact trivial | with_reducible apply And.intro)
  all_goals (first | omega | rfl | (intros; first | assumption | exact True.intro | rfl | exact absurd (show false = true by assumption) Bool.false_ne_true | ((repeat' (first | assumption | apply anda | apply notf)); done)) | (exact hcj) | (intro j hj; simp [All]))

theorem sm_shG (v : T_Graph) : smS s_IntS (shG v) := ⟨by have := shD_le (jkG v).2 (jkG v).1; have := jkG_le v; show (shD (jkG v).2 (jkG v).1).1 ≤ 1048576; omega, fun i hi => by simp [smS]⟩

end Go.Proofs.Ythnidhkfelfkdaa.Mach
