/- How many rigid bodies meet at a point: both programs count alike. Conditions: as each theorem says. -/
import Derived.Test.YthnidhkfelfkdaaPebM
import Derived.Test.YthnidhkfelfkdaaHas
namespace Go.Proofs.Ythnidhkfelfkdaa.Mach
open Go
set_option linter.unusedVariables false
set_option linter.unusedSimpArgs false

def ssL (n : Nat) (C : Nat → T_IntS) : AV := .p (.seq true 1 n (fun i => [.seq true 1 (C i).1 (fun s => [.int .i64 ((C i).2 s)])]))
def inC (C : Nat → T_IntS) (x : Int) : Nat → Int
  | 0 => 0
  | i + 1 => inC C x i + (if hasI (C i).2 x (C i).1 = true then 1 else 0)
def SJ0 (cn : Nat) (C : Nat → T_IntS) (x : Int) (i : Nat) : St :=
  ⟨[ssL cn C, .p (.int .i64 x), .p .any, .p .any, .p .any, .p (.int .i64 (inC C x i)), .p (.int .i64 i)] ++ List.replicate 15 anyA, [], 0⟩
def SJs (g : Nat → T_Bar) (nb N cn : Nat) (C : Nat → T_IntS) (i : Nat) : St :=
  ⟨[grG g nb N, .pt 2 0 0 0, .p .any, .ar 1 2 0 i, .ar 1 1 0 cn, .p (.int .i64 i)] ++ List.replicate 20 anyA, [(0, bxG g nb N), (1, ssOb cn C), (2, iOb i (fun x => inC C x cn))], 3⟩
def SJi (g : Nat → T_Bar) (nb N cn : Nat) (C : Nat → T_IntS) (i : Nat) (K : Nat → Int) : St :=
  ⟨[grG g nb N, .pt 2 0 0 0, .p .any, .ar 1 1 0 N] ++ List.replicate 12 anyA ++ [.ar 1 2 0 cn, .p (.int .i64 cn), .p (.int .i64 i)] ++ List.replicate 18 anyA, [(0, bxG g nb N), (1, iOb N K), (2, ssOb cn C)], 3⟩
def SJk (g : Nat → T_Bar) (nb N cn : Nat) (C : Nat → T_IntS) (i k : Nat) (K : Nat → Int) : St :=
  ⟨[grG g nb N, .pt 2 0 0 0, .p .any, .ar 1 1 0 N] ++ List.replicate 12 anyA ++ [.ar 1 2 0 cn, .p (.int .i64 cn), .p (.int .i64 i), .p .any, .p .any, .p .any, .p (.seq false 1 (C i).1 (fun s => [.int .i64 ((C i).2 s)])), .p (.int .i64 (C i).1), .p (.int .i64 k)] ++ List.replicate 12 anyA, [(0, bxG g nb N), (1, iOb N K), (2, ssOb cn C)], 3⟩

theorem j0z (cn : Nat) (C : Nat → T_IntS) (x : Int) :
    pieceOb Try.prog 0 [.reg [oT], .reg [oT], .reg [oT], .head] [.code (bodyOf Try.f41)] (start Try.f41 [] 0 [ssL cn C, .p (.int .i64 x)]) [] 1 (SJ0 cn C x 0) =
    some ([.code (cAt (bodyOf Try.f41) [1, 1, 0, 1, 0, 0]), .inLoop (cAt (bodyOf Try.f41) [1, 1, 0, 1, 0, 0]), .inBlock 0, .code (cAt (bodyOf Try.f41) [1, 1, 1])], [(((cn) : Nat) = (cn)),
  (∀ i : Nat, ((((i) : Nat) < (cn)) → (([.seq true 1 ((C i).fst) (fun i_1 => [.int .i64 ((C i).snd i_1)])] : List PV) = [.seq true 1 ((C i).fst) (fun i_1 => [.int .i64 ((C i).snd i_1)])]))),
  (((x) : Int) = (x)),
  ((0 : Int) = (inC C x 0)),
  ((0 : Int) = ((↑0 : Int)))]) := by kernel_rfl
theorem j0t (cn : Nat) (C : Nat → T_IntS) (x : Int) (i : Nat) (b : Bool) :
    pieceOb Try.prog 0 [.reg [oT, oT, oT, oT], .dec true, .reg [oT, oT, oT, oT, oT, ⟨true, (some ⟨[], [], 1, [], .p (.bool b)⟩), none⟩], .dec true, .reg [oT, oT, oT], .reg [oT, oT, oT], .head] [.code (cAt (bodyOf Try.f41) [1, 1, 0, 1, 0, 0]), .inLoop (cAt (bodyOf Try.f41) [1, 1, 0, 1, 0, 0]), .inBlock 0, .code (cAt (bodyOf Try.f41) [1, 1, 1])] (SJ0 cn C x i) [] 1 (SJ0 cn C x (i + 1)) =
    some ([.code (cAt (bodyOf Try.f41) [1, 1, 0, 1, 0, 0]), .inLoop (cAt (bodyOf Try.f41) [1, 1, 0, 1, 0, 0]), .inBlock 0, .code (cAt (bodyOf Try.f41) [1, 1, 1])], [((decide ((↑i : Int) < (↑cn : Int))) = true),
  ((0 : Int) ≤ ((↑i : Int))),
  ((((↑i : Int)) : Int) < ((↑cn : Int))),
  Con (Try.prog) 63 0 [] [.p (.seq true 1 ((C i).fst) (fun i_1 => [.int .i64 ((C i).snd i_1)])), .p (.int .i64 (x))] [] (.p (.bool (b))),
  ((b) = true),
  (((-9223372036854775808) : Int) ≤ (inC C x i + 1)),
  (((inC C x i + 1) : Int) ≤ 9223372036854775807),
  (((-9223372036854775808) : Int) ≤ ((↑i : Int) + 1)),
  ((((↑i : Int) + 1) : Int) ≤ 9223372036854775807),
  (((cn) : Nat) = (cn)),
  (∀ i_1 : Nat, ((((i_1) : Nat) < (cn)) → (([.seq true 1 ((C i_1).fst) (fun i_2 => [.int .i64 ((C i_1).snd i_2)])] : List PV) = [.seq true 1 ((C i_1).fst) (fun i_2 => [.int .i64 ((C i_1).snd i_2)])]))),
  (((x) : Int) = (x)),
  (((inC C x i + 1) : Int) = (inC C x (i + 1))),
  ((((↑i : Int) + 1) : Int) = ((↑(i + 1) : Int)))]) := by kernel_rfl
theorem j0f (cn : Nat) (C : Nat → T_IntS) (x : Int) (i : Nat) (b : Bool) :
    pieceOb Try.prog 0 [.reg [oT, oT, oT, oT], .dec true, .reg [oT, oT, oT, oT, oT, ⟨true, (some ⟨[], [], 1, [], .p (.bool b)⟩), none⟩], .dec false, .reg [oT, oT, oT], .head] [.code (cAt (bodyOf Try.f41) [1, 1, 0, 1, 0, 0]), .inLoop (cAt (bodyOf Try.f41) [1, 1, 0, 1, 0, 0]), .inBlock 0, .code (cAt (bodyOf Try.f41) [1, 1, 1])] (SJ0 cn C x i) [] 1 (SJ0 cn C x (i + 1)) =
    some ([.code (cAt (bodyOf Try.f41) [1, 1, 0, 1, 0, 0]), .inLoop (cAt (bodyOf Try.f41) [1, 1, 0, 1, 0, 0]), .inBlock 0, .code (cAt (bodyOf Try.f41) [1, 1, 1])], [((decide ((↑i : Int) < (↑cn : Int))) = true),
  ((0 : Int) ≤ ((↑i : Int))),
  ((((↑i : Int)) : Int) < ((↑cn : Int))),
  Con (Try.prog) 63 0 [] [.p (.seq true 1 ((C i).fst) (fun i_1 => [.int .i64 ((C i).snd i_1)])), .p (.int .i64 (x))] [] (.p (.bool (b))),
  ((b) = false),
  (((-9223372036854775808) : Int) ≤ ((↑i : Int) + 1)),
  ((((↑i : Int) + 1) : Int) ≤ 9223372036854775807),
  (((cn) : Nat) = (cn)),
  (∀ i_1 : Nat, ((((i_1) : Nat) < (cn)) → (([.seq true 1 ((C i_1).fst) (fun i_2 => [.int .i64 ((C i_1).snd i_2)])] : List PV) = [.seq true 1 ((C i_1).fst) (fun i_2 => [.int .i64 ((C i_1).snd i_2)])]))),
  (((x) : Int) = (x)),
  (((inC C x i) : Int) = (inC C x (i + 1))),
  ((((↑i : Int) + 1) : Int) = ((↑(i + 1) : Int)))]) := by kernel_rfl
theorem j0e (cn : Nat) (C : Nat → T_IntS) (x : Int) (i : Nat) :
    pathOb Try.prog Try.f41 0 [.reg [oT, oT, oT, oT], .dec false, .reg [oT, oT]] [.code (cAt (bodyOf Try.f41) [1, 1, 0, 1, 0, 0]), .inLoop (cAt (bodyOf Try.f41) [1, 1, 0, 1, 0, 0]), .inBlock 0, .code (cAt (bodyOf Try.f41) [1, 1, 1])] (SJ0 cn C x i) [] 1 [] (.p (.int .i64 (inC C x i))) =
    some [((decide ((↑i : Int) < (↑cn : Int))) = false),
  (((inC C x i) : Int) = (inC C x i))] := by kernel_rfl
theorem jSy (v : T_Graph) :
    pathOb Try.prog Try.f16 0 [.reg [oT, oT], .reg [oT, oT], .reg [oT, ⟨true, (some ⟨[], [], 1, [(0, ssOb 0 (fun _ => (0, fun _ => 0)))], .ar 1 0 0 0⟩), none⟩, oT], .reg [oT], .loop, .reg [oT, oT, oT, oT, oT, oT, ⟨true, (some ⟨[], [], 1, [], .p (.bool false)⟩), none⟩, oT], .dec false, .reg [oT, oT]] [.code (bodyOf Try.f16)] (start Try.f16 [] 0 [graphA v]) [64] 1 [(0, iOb 0 (fun _ => 0))] (.ar 1 0 0 0) =
    some [((0 : Nat) < 1),
  Con (Try.prog) 36 0 [] [.agg [.p (.int .i64 (v.fst)), .p (.seq true 2 (v.snd.fst.fst) (fun i => [.int .i64 ((v.snd.fst.snd i).fst), .int .i64 ((v.snd.fst.snd i).snd.fst)]))]] [(0, ⟨false, 1, 0, (fun i => [.p (.seq false 1 0 (fun i_1 => [.int .i64 ((0, fun x => 0).snd i_1)]))])⟩)] (.ar 1 0 0 0),
  ((0 : Nat) < 1),
  (((decide (0 < v.fst)) = true) → ((0 : Nat) < 1)),
  (((decide (0 < v.fst)) = true) → ((decide (0 < v.fst)) = true)),
  (((decide (0 < v.fst)) = true) → Con (Try.prog) 35 0 [] [.agg [.p (.int .i64 (v.fst)), .p (.seq true 2 (v.snd.fst.fst) (fun i => [.int .i64 ((v.snd.fst.snd i).fst), .int .i64 ((v.snd.fst.snd i).snd.fst)]))]] [] (.p (.bool false))),
  (((decide (0 < v.fst)) = true) → ((decide (0 < v.fst)) = true)),
  ((bif decide (0 < v.fst) then false else false) = false),
  ((0 : Nat) = 0),
  ((0 : Nat) = 0),
  ((1 : Nat) = 1),
  ((0 : Nat) ≤ 0),
  (∀ i : Nat, ((((i) : Nat) < 0) → (All [] ∧ (([.p .any] : List AV) = [.p (.int .i64 0)])))),
  (∀ i : Nat, ((((i) : Nat) < 0) → All []))] := by kernel_rfl
theorem jSz (g : Nat → T_Bar) (nb N cn : Nat) (C : Nat → T_IntS) :
    pieceOb Try.prog 0 [.reg [oT, oT], .reg [oT, oT], .reg [oT, ⟨true, (some ⟨[], [], 1, [(0, ssOb cn C)], .ar 1 0 0 cn⟩), none⟩, oT], .reg [oT], .head] [.code (bodyOf Try.f16)] (start Try.f16 [] 0 [grG g nb N]) [0, 160, 64] 1 (SJs g nb N cn C 0) =
    some ([.code (cAt (bodyOf Try.f16) [1, 1, 1, 0, 1, 0, 0]), .inLoop (cAt (bodyOf Try.f16) [1, 1, 1, 0, 1, 0, 0]), .inBlock 0, .code (cAt (bodyOf Try.f16) [1, 1, 1, 1])], [((0 : Nat) < 1),
  Con (Try.prog) 36 0 [] [.agg [.p (.int .i64 ((↑N : Int))), .p (.seq true 2 (nb) (fun i => [.int .i64 ((g i).fst), .int .i64 ((g i).snd.fst)]))]] [(0, ⟨false, 1, (cn), (fun i => [.p (.seq false 1 ((C i).fst) (fun i_1 => [.int .i64 ((C i).snd i_1)]))])⟩)] (.ar 1 0 0 (cn)),
  ((((↑N : Int)) : Int) = ((↑N : Int))),
  (((nb) : Nat) = (nb)),
  (∀ i : Nat, ((((i) : Nat) < (nb)) → (([.int .i64 ((g i).fst), .int .i64 ((g i).snd.fst)] : List PV) = [.int .i64 ((g i).fst), .int .i64 ((g i).snd.fst)]))),
  ((0 : Nat) = 0),
  ((0 : Nat) = 0),
  ((0 : Nat) = 0),
  ((0 : Nat) = 0),
  (((cn) : Nat) = (cn)),
  ((0 : Int) = ((↑0 : Int))),
  ((([AV.p (PV.int IntKind.i64 (↑N : Int)), brL g nb].length) : Nat) = 2),
  ((1 : Nat) ≤ 1),
  ((1 : Nat) ≤ 1),
  ((((↑N : Int)) : Int) = ((↑N : Int))),
  (((nb) : Nat) = (nb)),
  (∀ i : Nat, ((((i) : Nat) < (nb)) → (([.int .i64 ((g i).fst), .int .i64 ((g i).snd.fst)] : List PV) = [.int .i64 ((g i).fst), .int .i64 ((g i).snd.fst)]))),
  ((1 : Nat) = 1),
  (((cn) : Nat) ≤ (cn)),
  (∀ i : Nat, ((((i) : Nat) < (cn)) → (All [] ∧ (([.p (.seq false 1 ((C i).fst) (fun i_1 => [.int .i64 ((C i).snd i_1)]))] : List AV) = [.p (.seq false 1 ((C i).fst) (fun i_1 => [.int .i64 ((C i).snd i_1)]))])))),
  ((1 : Nat) = 1),
  ((0 : Nat) ≤ 0),
  (∀ i : Nat, ((((i) : Nat) < 0) → (All [] ∧ (([.p .any] : List AV) = [.p (.int .i64 (inC C (↑i : Int) cn))]))))]) := by kernel_rfl
theorem jSl (g : Nat → T_Bar) (nb N cn : Nat) (C : Nat → T_IntS) (i : Nat) :
    pieceOb Try.prog 0 [.reg [oT, oT, oT, oT, oT, oT, ⟨true, (some ⟨[], [], 1, [], .p (.bool true)⟩), none⟩, oT], .dec true, .reg [oT, oT, oT, ⟨true, (some ⟨[], [], 1, [], .p (.int .i64 (inC C i cn))⟩), none⟩, oT, oT, oT], .reg [oT, oT, oT], .head] [.code (cAt (bodyOf Try.f16) [1, 1, 1, 0, 1, 0, 0]), .inLoop (cAt (bodyOf Try.f16) [1, 1, 1, 0, 1, 0, 0]), .inBlock 0, .code (cAt (bodyOf Try.f16) [1, 1, 1, 1])] (SJs g nb N cn C i) [0, 1, 419] 1 (SJs g nb N cn C (i + 1)) =
    some ([.code (cAt (bodyOf Try.f16) [1, 1, 1, 0, 1, 0, 0]), .inLoop (cAt (bodyOf Try.f16) [1, 1, 1, 0, 1, 0, 0]), .inBlock 0, .code (cAt (bodyOf Try.f16) [1, 1, 1, 1])], [((0 : Nat) < 1),
  (((decide ((↑i : Int) < (↑N : Int))) = true) → ((0 : Nat) < 1)),
  (((decide ((↑i : Int) < (↑N : Int))) = true) → ((decide ((↑i : Int) < (↑N : Int))) = true)),
  (((decide ((↑i : Int) < (↑N : Int))) = true) → Con (Try.prog) 35 0 [] [.agg [.p (.int .i64 ((↑N : Int))), .p (.seq true 2 (nb) (fun i_1 => [.int .i64 ((g i_1).fst), .int .i64 ((g i_1).snd.fst)]))]] [] (.p (.bool true))),
  (((decide ((↑i : Int) < (↑N : Int))) = true) → ((decide ((↑i : Int) < (↑N : Int))) = true)),
  ((bif decide ((↑i : Int) < (↑N : Int)) then true else false) = true),
  ((1 : Nat) = 1),
  (((cn) : Nat) ≤ (cn)),
  Con (Try.prog) 41 0 [] [.p (.seq true 1 (cn) (fun i_1 => [.seq true 1 ((C i_1).fst) (fun i_2 => [.int .i64 ((C i_1).snd i_2)])])), .p (.int .i64 ((↑i : Int)))] [] (.p (.int .i64 (inC C (↑i : Int) cn))),
  ((1 : Nat) ≤ 1),
  (((i) : Nat) ≤ (i)),
  ((((i + 1) * 8) : Nat) ≤ 140737488355328),
  (((i + 1) : Nat) ≤ 9223372036854775807),
  (((-9223372036854775808) : Int) ≤ ((↑i : Int) + 1)),
  ((((↑i : Int) + 1) : Int) ≤ 9223372036854775807),
  ((((↑N : Int)) : Int) = ((↑N : Int))),
  (((nb) : Nat) = (nb)),
  (∀ i_1 : Nat, ((((i_1) : Nat) < (nb)) → (([.int .i64 ((g i_1).fst), .int .i64 ((g i_1).snd.fst)] : List PV) = [.int .i64 ((g i_1).fst), .int .i64 ((g i_1).snd.fst)]))),
  ((0 : Nat) = 0),
  ((0 : Nat) = 0),
  (((i + 1) : Nat) = (i + 1)),
  ((0 : Nat) = 0),
  (((cn) : Nat) = (cn)),
  ((((↑i : Int) + 1) : Int) = ((↑(i + 1) : Int))),
  ((2 : Nat) = 2),
  ((1 : Nat) ≤ 1),
  ((1 : Nat) ≤ 1),
  ((((↑N : Int)) : Int) = ((↑N : Int))),
  (((nb) : Nat) = (nb)),
  (∀ i_1 : Nat, ((((i_1) : Nat) < (nb)) → (([.int .i64 ((g i_1).fst), .int .i64 ((g i_1).snd.fst)] : List PV) = [.int .i64 ((g i_1).fst), .int .i64 ((g i_1).snd.fst)]))),
  ((1 : Nat) = 1),
  (((cn) : Nat) ≤ (cn)),
  (∀ i_1 : Nat, ((((i_1) : Nat) < (cn)) → (All [] ∧ (([.p (.seq false 1 ((C i_1).fst) (fun i_2 => [.int .i64 ((C i_1).snd i_2)]))] : List AV) = [.p (.seq false 1 ((C i_1).fst) (fun i_2 => [.int .i64 ((C i_1).snd i_2)]))])))),
  ((1 : Nat) = 1),
  (((i + 1) : Nat) ≤ (i + 1)),
  (∀ i_1 : Nat, ((((i_1) : Nat) < (i + 1)) → (All (cvtL false [(419, ⟨false, 1, (i + 1), (fun i_2 => (if (i_2 < i) then [.p (.int .i64 (inC C (↑i_2 : Int) cn))] else [.p (.int .i64 (inC C (↑i : Int) cn))]))⟩), (387, ⟨false, 1, 1, (fun i_2 => [.p (.int .i64 (inC C (↑i : Int) cn))])⟩), (0, ⟨true, 2, 1, (fun i_2 => [.p (.int .i64 ((↑N : Int))), .p (.seq true 2 (nb) (fun i_3 => [.int .i64 ((g i_3).fst), .int .i64 ((g i_3).snd.fst)]))])⟩), (1, ⟨false, 1, (cn), (fun i_2 => [.p (.seq false 1 ((C i_2).fst) (fun i_3 => [.int .i64 ((C i_2).snd i_3)]))])⟩)] [0, 1, 419] 1 (if (i_1 < i) then [.p (.int .i64 (inC C (↑i_1 : Int) cn))] else [.p (.int .i64 (inC C (↑i : Int) cn))])).2 ∧ (((cvtL false [(419, ⟨false, 1, (i + 1), (fun i_2 => (if (i_2 < i) then [.p (.int .i64 (inC C (↑i_2 : Int) cn))] else [.p (.int .i64 (inC C (↑i : Int) cn))]))⟩), (387, ⟨false, 1, 1, (fun i_2 => [.p (.int .i64 (inC C (↑i : Int) cn))])⟩), (0, ⟨true, 2, 1, (fun i_2 => [.p (.int .i64 ((↑N : Int))), .p (.seq true 2 (nb) (fun i_3 => [.int .i64 ((g i_3).fst), .int .i64 ((g i_3).snd.fst)]))])⟩), (1, ⟨false, 1, (cn), (fun i_2 => [.p (.seq false 1 ((C i_2).fst) (fun i_3 => [.int .i64 ((C i_2).snd i_3)]))])⟩)] [0, 1, 419] 1 (if (i_1 < i) then [.p (.int .i64 (inC C (↑i_1 : Int) cn))] else [.p (.int .i64 (inC C (↑i : Int) cn))])).1 : List AV) = [.p (.int .i64 (inC C (↑i_1 : Int) cn))]))))]) := by kernel_rfl
theorem jSe (g : Nat → T_Bar) (nb N cn : Nat) (C : Nat → T_IntS) (i : Nat) :
    pathOb Try.prog Try.f16 0 [.reg [oT, oT, oT, oT, oT, oT, ⟨true, (some ⟨[], [], 1, [], .p (.bool true)⟩), none⟩, oT], .dec false, .reg [oT, oT]] [.code (cAt (bodyOf Try.f16) [1, 1, 1, 0, 1, 0, 0]), .inLoop (cAt (bodyOf Try.f16) [1, 1, 1, 0, 1, 0, 0]), .inBlock 0, .code (cAt (bodyOf Try.f16) [1, 1, 1, 1])] (SJs g nb N cn C i) [2] 1 [(0, iOb i (fun x => inC C x cn))] (.ar 1 0 0 i) =
    some [((0 : Nat) < 1),
  (((decide ((↑i : Int) < (↑N : Int))) = true) → ((0 : Nat) < 1)),
  (((decide ((↑i : Int) < (↑N : Int))) = true) → ((decide ((↑i : Int) < (↑N : Int))) = true)),
  (((decide ((↑i : Int) < (↑N : Int))) = true) → Con (Try.prog) 35 0 [] [.agg [.p (.int .i64 ((↑N : Int))), .p (.seq true 2 (nb) (fun i_1 => [.int .i64 ((g i_1).fst), .int .i64 ((g i_1).snd.fst)]))]] [] (.p (.bool true))),
  (((decide ((↑i : Int) < (↑N : Int))) = true) → ((decide ((↑i : Int) < (↑N : Int))) = true)),
  ((bif decide ((↑i : Int) < (↑N : Int)) then true else false) = false),
  ((0 : Nat) = 0),
  (((i) : Nat) = (i)),
  ((1 : Nat) = 1),
  (((i) : Nat) ≤ (i)),
  (∀ i_1 : Nat, ((((i_1) : Nat) < (i)) → (All [] ∧ (([.p (.int .i64 (inC C (↑i_1 : Int) cn))] : List AV) = [.p (.int .i64 (inC C (↑i_1 : Int) cn))])))),
  (∀ i_1 : Nat, ((((i_1) : Nat) < (i)) → All []))] := by kernel_rfl
theorem jIy (v : T_Graph) :
    pathOb Try.prog Try.f17 0 [.reg [oT, oT], .reg [oT, ⟨true, (some ⟨[], [], 1, [], .p (.bool false)⟩), none⟩, oT], .dec true, .reg [oT, oT]] [.code (bodyOf Try.f17)] (start Try.f17 [] 0 [graphA v]) [160] 1 [(0, iOb 0 (fun _ => 0))] (.ar 1 0 0 0) =
    some [((0 : Nat) < 1),
  Con (Try.prog) 38 0 [] [.agg [.p (.int .i64 (v.fst)), .p (.seq true 2 (v.snd.fst.fst) (fun i => [.int .i64 ((v.snd.fst.snd i).fst), .int .i64 ((v.snd.fst.snd i).snd.fst)]))]] [] (.p (.bool false)),
  ((!false) = true),
  ((0 : Nat) = 0),
  ((0 : Nat) = 0),
  ((1 : Nat) = 1),
  ((0 : Nat) ≤ 0),
  (∀ i : Nat, ((((i) : Nat) < 0) → (All [] ∧ (([.p .any] : List AV) = [.p (.int .i64 0)])))),
  (∀ i : Nat, ((((i) : Nat) < 0) → All []))] := by kernel_rfl
theorem jIz (g : Nat → T_Bar) (nb N cn : Nat) (C : Nat → T_IntS) :
    pieceOb Try.prog 0 [.reg [oT, oT], .reg [oT, ⟨true, (some ⟨[], [], 1, [], .p (.bool true)⟩), none⟩, oT], .dec false, .reg [oT, oT, oT, oT], .reg [oT, ⟨true, (some ⟨[], [], 1, [(0, ssOb cn C)], .ar 1 0 0 cn⟩), none⟩, oT, oT], .head] [.code (bodyOf Try.f17)] (start Try.f17 [] 0 [grG g nb N]) [0, 224, 320] 1 (SJi g nb N cn C 0 (fun _ => 0)) =
    some ([.code (cAt (bodyOf Try.f17) [1, 1, 1, 0, 1, 0, 0]), .inLoop (cAt (bodyOf Try.f17) [1, 1, 1, 0, 1, 0, 0]), .inBlock 0, .code (cAt (bodyOf Try.f17) [1, 1, 1, 1])], [((0 : Nat) < 1),
  Con (Try.prog) 38 0 [] [.agg [.p (.int .i64 ((↑N : Int))), .p (.seq true 2 (nb) (fun i => [.int .i64 ((g i).fst), .int .i64 ((g i).snd.fst)]))]] [] (.p (.bool true)),
  ((!true) = false),
  ((0 : Nat) < 1),
  ((0 : Int) ≤ ((↑N : Int))),
  ((((↑N : Int)) : Int) ≤ ((↑N : Int))),
  ((((↑N : Int) * (↑8 : Int)) : Int) ≤ 281474976710656),
  ((((↑N : Int)) : Int) ≤ 9223372036854775807),
  ((0 : Nat) < 1),
  Con (Try.prog) 39 0 [] [.agg [.p (.int .i64 ((↑N : Int))), .p (.seq true 2 (nb) (fun i => [.int .i64 ((g i).fst), .int .i64 ((g i).snd.fst)]))]] [(0, ⟨false, 1, (cn), (fun i => [.p (.seq false 1 ((C i).fst) (fun i_1 => [.int .i64 ((C i).snd i_1)]))])⟩)] (.ar 1 0 0 (cn)),
  ((((↑N : Int)) : Int) = ((↑N : Int))),
  (((nb) : Nat) = (nb)),
  (∀ i : Nat, ((((i) : Nat) < (nb)) → (([.int .i64 ((g i).fst), .int .i64 ((g i).snd.fst)] : List PV) = [.int .i64 ((g i).fst), .int .i64 ((g i).snd.fst)]))),
  ((0 : Nat) = 0),
  ((0 : Nat) = 0),
  (((N) : Nat) = (N)),
  ((0 : Nat) = 0),
  (((cn) : Nat) = (cn)),
  ((((↑cn : Int)) : Int) = ((↑cn : Int))),
  ((0 : Int) = ((↑0 : Int))),
  ((([AV.p (PV.int IntKind.i64 (↑N : Int)), brL g nb].length) : Nat) = 2),
  ((1 : Nat) ≤ 1),
  ((1 : Nat) ≤ 1),
  ((((↑N : Int)) : Int) = ((↑N : Int))),
  (((nb) : Nat) = (nb)),
  (∀ i : Nat, ((((i) : Nat) < (nb)) → (([.int .i64 ((g i).fst), .int .i64 ((g i).snd.fst)] : List PV) = [.int .i64 ((g i).fst), .int .i64 ((g i).snd.fst)]))),
  ((1 : Nat) = 1),
  (((N) : Nat) ≤ (N)),
  (∀ i : Nat, ((((i) : Nat) < (N)) → (All [] ∧ (([.p (.int .i64 0)] : List AV) = [.p (.int .i64 0)])))),
  ((1 : Nat) = 1),
  (((cn) : Nat) ≤ (cn)),
  (∀ i : Nat, ((((i) : Nat) < (cn)) → (All [] ∧ (([.p (.seq false 1 ((C i).fst) (fun i_1 => [.int .i64 ((C i).snd i_1)]))] : List AV) = [.p (.seq false 1 ((C i).fst) (fun i_1 => [.int .i64 ((C i).snd i_1)]))]))))]) := by kernel_rfl
theorem jIl (g : Nat → T_Bar) (nb N cn : Nat) (C : Nat → T_IntS) (i : Nat) (K : Nat → Int) :
    pieceOb Try.prog 0 [.reg [oT], .dec true, .reg [oT, oT, oT], .reg [oT, oT, oT], .head] [.code (cAt (bodyOf Try.f17) [1, 1, 1, 0, 1, 0, 0]), .inLoop (cAt (bodyOf Try.f17) [1, 1, 1, 0, 1, 0, 0]), .inBlock 0, .code (cAt (bodyOf Try.f17) [1, 1, 1, 1])] (SJi g nb N cn C i K) [0, 1, 2] 1 (SJk g nb N cn C i 0 K) =
    some ([.code (cAt (bodyOf Try.f17) [1, 1, 1, 0, 1, 0, 0, 1, 1, 0, 0, 1, 1, 0, 0]), .inLoop (cAt (bodyOf Try.f17) [1, 1, 1, 0, 1, 0, 0, 1, 1, 0, 0, 1, 1, 0, 0]), .inBlock 2, .inBlock 1, .code (cAt (bodyOf Try.f17) [1, 1, 1, 0, 1, 0, 0, 1, 1, 1]), .inLoop (cAt (bodyOf Try.f17) [1, 1, 1, 0, 1, 0, 0]), .inBlock 0, .code (cAt (bodyOf Try.f17) [1, 1, 1, 1])], [((decide ((↑i : Int) < (↑cn : Int))) = true),
  ((0 : Int) ≤ ((↑i : Int))),
  ((((↑i : Int)) : Int) < ((↑cn : Int))),
  (((i) : Nat) < (cn)),
  ((((↑N : Int)) : Int) = ((↑N : Int))),
  (((nb) : Nat) = (nb)),
  (∀ i_1 : Nat, ((((i_1) : Nat) < (nb)) → (([.int .i64 ((g i_1).fst), .int .i64 ((g i_1).snd.fst)] : List PV) = [.int .i64 ((g i_1).fst), .int .i64 ((g i_1).snd.fst)]))),
  ((0 : Nat) = 0),
  ((0 : Nat) = 0),
  (((N) : Nat) = (N)),
  ((0 : Nat) = 0),
  (((cn) : Nat) = (cn)),
  ((((↑cn : Int)) : Int) = ((↑cn : Int))),
  ((((↑i : Int)) : Int) = ((↑i : Int))),
  ((((C i).fst) : Nat) = ((C i).fst)),
  (∀ i_1 : Nat, ((((i_1) : Nat) < ((C i).fst)) → (([.int .i64 ((C i).snd i_1)] : List PV) = [.int .i64 ((C i).snd i_1)]))),
  ((((↑(C i).fst : Int)) : Int) = ((↑(C i).fst : Int))),
  ((0 : Int) = ((↑0 : Int))),
  ((2 : Nat) = 2),
  ((1 : Nat) ≤ 1),
  ((1 : Nat) ≤ 1),
  ((((↑N : Int)) : Int) = ((↑N : Int))),
  (((nb) : Nat) = (nb)),
  (∀ i_1 : Nat, ((((i_1) : Nat) < (nb)) → (([.int .i64 ((g i_1).fst), .int .i64 ((g i_1).snd.fst)] : List PV) = [.int .i64 ((g i_1).fst), .int .i64 ((g i_1).snd.fst)]))),
  ((1 : Nat) = 1),
  (((N) : Nat) ≤ (N)),
  (∀ i_1 : Nat, ((((i_1) : Nat) < (N)) → (All [] ∧ (([.p (.int .i64 (K i_1))] : List AV) = [.p (.int .i64 (K i_1))])))),
  ((1 : Nat) = 1),
  (((cn) : Nat) ≤ (cn)),
  (∀ i_1 : Nat, ((((i_1) : Nat) < (cn)) → (All [] ∧ (([.p (.seq false 1 ((C i_1).fst) (fun i_2 => [.int .i64 ((C i_1).snd i_2)]))] : List AV) = [.p (.seq false 1 ((C i_1).fst) (fun i_2 => [.int .i64 ((C i_1).snd i_2)]))]))))]) := by kernel_rfl
theorem jIe (g : Nat → T_Bar) (nb N cn : Nat) (C : Nat → T_IntS) (i : Nat) (K : Nat → Int) :
    pathOb Try.prog Try.f17 0 [.reg [oT], .dec false, .reg [oT, oT]] [.code (cAt (bodyOf Try.f17) [1, 1, 1, 0, 1, 0, 0]), .inLoop (cAt (bodyOf Try.f17) [1, 1, 1, 0, 1, 0, 0]), .inBlock 0, .code (cAt (bodyOf Try.f17) [1, 1, 1, 1])] (SJi g nb N cn C i K) [1] 1 [(0, iOb N (fun x => inC C x cn))] (.ar 1 0 0 N) =
    some [((decide ((↑i : Int) < (↑cn : Int))) = false),
  ((0 : Nat) = 0),
  (((N) : Nat) = (N)),
  ((1 : Nat) = 1),
  (((N) : Nat) ≤ (N)),
  (∀ i_1 : Nat, ((((i_1) : Nat) < (N)) → (All [] ∧ (([.p (.int .i64 (K i_1))] : List AV) = [.p (.int .i64 (inC C (↑i_1 : Int) cn))])))),
  (∀ i_1 : Nat, ((((i_1) : Nat) < (N)) → All []))] := by kernel_rfl
theorem jIk (g : Nat → T_Bar) (nb N cn : Nat) (C : Nat → T_IntS) (i k : Nat) (K : Nat → Int) :
    pieceOb Try.prog 0 [.reg [oT], .dec true, .reg [oT, oT, oT], .reg [oT, oT, oT, oT, oT, oT, oT], .reg [oT, oT], .head] [.code (cAt (bodyOf Try.f17) [1, 1, 1, 0, 1, 0, 0, 1, 1, 0, 0, 1, 1, 0, 0]), .inLoop (cAt (bodyOf Try.f17) [1, 1, 1, 0, 1, 0, 0, 1, 1, 0, 0, 1, 1, 0, 0]), .inBlock 2, .inBlock 1, .code (cAt (bodyOf Try.f17) [1, 1, 1, 0, 1, 0, 0, 1, 1, 1]), .inLoop (cAt (bodyOf Try.f17) [1, 1, 1, 0, 1, 0, 0]), .inBlock 0, .code (cAt (bodyOf Try.f17) [1, 1, 1, 1])] (SJk g nb N cn C i k K) [0, 1, 2] 1 (SJk g nb N cn C i (k + 1) (fun x => if x = ((C i).2 k).toNat then K x + 1 else K x)) =
    some ([.code (cAt (bodyOf Try.f17) [1, 1, 1, 0, 1, 0, 0, 1, 1, 0, 0, 1, 1, 0, 0]), .inLoop (cAt (bodyOf Try.f17) [1, 1, 1, 0, 1, 0, 0, 1, 1, 0, 0, 1, 1, 0, 0]), .inBlock 2, .inBlock 1, .code (cAt (bodyOf Try.f17) [1, 1, 1, 0, 1, 0, 0, 1, 1, 1]), .inLoop (cAt (bodyOf Try.f17) [1, 1, 1, 0, 1, 0, 0]), .inBlock 0, .code (cAt (bodyOf Try.f17) [1, 1, 1, 1])], [((decide ((↑k : Int) < (↑(C i).fst : Int))) = true),
  ((0 : Int) ≤ ((↑k : Int))),
  ((((↑k : Int)) : Int) < ((↑(C i).fst : Int))),
  ((0 : Int) ≤ ((C i).snd k)),
  ((((C i).snd k) : Int) < ((↑N : Int))),
  (((((C i).snd k).toNat) : Nat) < (N)),
  (((-9223372036854775808) : Int) ≤ (K ((C i).snd k).toNat + 1)),
  (((K ((C i).snd k).toNat + 1) : Int) ≤ 9223372036854775807),
  ((0 : Int) ≤ ((C i).snd k)),
  ((((C i).snd k) : Int) < ((↑N : Int))),
  (((((C i).snd k).toNat) : Nat) < (N)),
  (((false) = true) → (((N) : Nat) = 1)),
  (((-9223372036854775808) : Int) ≤ ((↑k : Int) + 1)),
  ((((↑k : Int) + 1) : Int) ≤ 9223372036854775807),
  ((((↑N : Int)) : Int) = ((↑N : Int))),
  (((nb) : Nat) = (nb)),
  (∀ i_1 : Nat, ((((i_1) : Nat) < (nb)) → (([.int .i64 ((g i_1).fst), .int .i64 ((g i_1).snd.fst)] : List PV) = [.int .i64 ((g i_1).fst), .int .i64 ((g i_1).snd.fst)]))),
  ((0 : Nat) = 0),
  ((0 : Nat) = 0),
  (((N) : Nat) = (N)),
  ((0 : Nat) = 0),
  (((cn) : Nat) = (cn)),
  ((((↑cn : Int)) : Int) = ((↑cn : Int))),
  ((((↑i : Int)) : Int) = ((↑i : Int))),
  ((((C i).fst) : Nat) = ((C i).fst)),
  (∀ i_1 : Nat, ((((i_1) : Nat) < ((C i).fst)) → (([.int .i64 ((C i).snd i_1)] : List PV) = [.int .i64 ((C i).snd i_1)]))),
  ((((↑(C i).fst : Int)) : Int) = ((↑(C i).fst : Int))),
  ((((↑k : Int) + 1) : Int) = ((↑(k + 1) : Int))),
  ((2 : Nat) = 2),
  ((1 : Nat) ≤ 1),
  ((1 : Nat) ≤ 1),
  ((((↑N : Int)) : Int) = ((↑N : Int))),
  (((nb) : Nat) = (nb)),
  (∀ i_1 : Nat, ((((i_1) : Nat) < (nb)) → (([.int .i64 ((g i_1).fst), .int .i64 ((g i_1).snd.fst)] : List PV) = [.int .i64 ((g i_1).fst), .int .i64 ((g i_1).snd.fst)]))),
  ((1 : Nat) = 1),
  (((N) : Nat) ≤ (N)),
  (∀ i_1 : Nat, ((((i_1) : Nat) < (N)) → (All (cvtL false [(1, ⟨false, 1, (N), (fun i_2 => (if (i_2 = ((C i).snd k).toNat) then [.p (.int .i64 (K ((C i).snd k).toNat + 1))] else [.p (.int .i64 (K i_2))]))⟩), (0, ⟨true, 2, 1, (fun i_2 => [.p (.int .i64 ((↑N : Int))), .p (.seq true 2 (nb) (fun i_3 => [.int .i64 ((g i_3).fst), .int .i64 ((g i_3).snd.fst)]))])⟩), (2, ⟨false, 1, (cn), (fun i_2 => [.p (.seq false 1 ((C i_2).fst) (fun i_3 => [.int .i64 ((C i_2).snd i_3)]))])⟩)] [0, 1, 2] 1 (if (i_1 = ((C i).snd k).toNat) then [.p (.int .i64 (K ((C i).snd k).toNat + 1))] else [.p (.int .i64 (K i_1))])).2 ∧ (((cvtL false [(1, ⟨false, 1, (N), (fun i_2 => (if (i_2 = ((C i).snd k).toNat) then [.p (.int .i64 (K ((C i).snd k).toNat + 1))] else [.p (.int .i64 (K i_2))]))⟩), (0, ⟨true, 2, 1, (fun i_2 => [.p (.int .i64 ((↑N : Int))), .p (.seq true 2 (nb) (fun i_3 => [.int .i64 ((g i_3).fst), .int .i64 ((g i_3).snd.fst)]))])⟩), (2, ⟨false, 1, (cn), (fun i_2 => [.p (.seq false 1 ((C i_2).fst) (fun i_3 => [.int .i64 ((C i_2).snd i_3)]))])⟩)] [0, 1, 2] 1 (if (i_1 = ((C i).snd k).toNat) then [.p (.int .i64 (K ((C i).snd k).toNat + 1))] else [.p (.int .i64 (K i_1))])).1 : List AV) = [.p (.int .i64 (if i_1 = ((C i).snd k).toNat then K i_1 + 1 else K i_1))])))),
  ((1 : Nat) = 1),
  (((cn) : Nat) ≤ (cn)),
  (∀ i_1 : Nat, ((((i_1) : Nat) < (cn)) → (All [] ∧ (([.p (.seq false 1 ((C i_1).fst) (fun i_2 => [.int .i64 ((C i_1).snd i_2)]))] : List AV) = [.p (.seq false 1 ((C i_1).fst) (fun i_2 => [.int .i64 ((C i_1).snd i_2)]))]))))]) := by kernel_rfl
theorem jIn (g : Nat → T_Bar) (nb N cn : Nat) (C : Nat → T_IntS) (i k : Nat) (K : Nat → Int) :
    pieceOb Try.prog 0 [.reg [oT], .dec false, .reg [oT, oT], .head] [.code (cAt (bodyOf Try.f17) [1, 1, 1, 0, 1, 0, 0, 1, 1, 0, 0, 1, 1, 0, 0]), .inLoop (cAt (bodyOf Try.f17) [1, 1, 1, 0, 1, 0, 0, 1, 1, 0, 0, 1, 1, 0, 0]), .inBlock 2, .inBlock 1, .code (cAt (bodyOf Try.f17) [1, 1, 1, 0, 1, 0, 0, 1, 1, 1]), .inLoop (cAt (bodyOf Try.f17) [1, 1, 1, 0, 1, 0, 0]), .inBlock 0, .code (cAt (bodyOf Try.f17) [1, 1, 1, 1])] (SJk g nb N cn C i k K) [0, 1, 2] 1 (SJi g nb N cn C (i + 1) K) =
    some ([.code (cAt (bodyOf Try.f17) [1, 1, 1, 0, 1, 0, 0]), .inLoop (cAt (bodyOf Try.f17) [1, 1, 1, 0, 1, 0, 0]), .inBlock 0, .code (cAt (bodyOf Try.f17) [1, 1, 1, 1])], [((decide ((↑k : Int) < (↑(C i).fst : Int))) = false),
  (((-9223372036854775808) : Int) ≤ ((↑i : Int) + 1)),
  ((((↑i : Int) + 1) : Int) ≤ 9223372036854775807),
  ((((↑N : Int)) : Int) = ((↑N : Int))),
  (((nb) : Nat) = (nb)),
  (∀ i_1 : Nat, ((((i_1) : Nat) < (nb)) → (([.int .i64 ((g i_1).fst), .int .i64 ((g i_1).snd.fst)] : List PV) = [.int .i64 ((g i_1).fst), .int .i64 ((g i_1).snd.fst)]))),
  ((0 : Nat) = 0),
  ((0 : Nat) = 0),
  (((N) : Nat) = (N)),
  ((0 : Nat) = 0),
  (((cn) : Nat) = (cn)),
  ((((↑cn : Int)) : Int) = ((↑cn : Int))),
  ((((↑i : Int) + 1) : Int) = ((↑(i + 1) : Int))),
  ((2 : Nat) = 2),
  ((1 : Nat) ≤ 1),
  ((1 : Nat) ≤ 1),
  ((((↑N : Int)) : Int) = ((↑N : Int))),
  (((nb) : Nat) = (nb)),
  (∀ i_1 : Nat, ((((i_1) : Nat) < (nb)) → (([.int .i64 ((g i_1).fst), .int .i64 ((g i_1).snd.fst)] : List PV) = [.int .i64 ((g i_1).fst), .int .i64 ((g i_1).snd.fst)]))),
  ((1 : Nat) = 1),
  (((N) : Nat) ≤ (N)),
  (∀ i_1 : Nat, ((((i_1) : Nat) < (N)) → (All [] ∧ (([.p (.int .i64 (K i_1))] : List AV) = [.p (.int .i64 (K i_1))])))),
  ((1 : Nat) = 1),
  (((cn) : Nat) ≤ (cn)),
  (∀ i_1 : Nat, ((((i_1) : Nat) < (cn)) → (All [] ∧ (([.p (.seq false 1 ((C i_1).fst) (fun i_2 => [.int .i64 ((C i_1).snd i_2)]))] : List AV) = [.p (.seq false 1 ((C i_1).fst) (fun i_2 => [.int .i64 ((C i_1).snd i_2)]))]))))]) := by kernel_rfl

theorem inC_le (C : Nat → T_IntS) (x : Int) : ∀ i, 0 ≤ inC C x i ∧ inC C x i ≤ i
  | 0 => by simp [inC]
  | i + 1 => by
    have := inC_le C x i
    simp only [inC]
    split <;> omega

theorem con_l30In (cn : Nat) (C : Nat → T_IntS) (x : Int) (hcn : cn ≤ 1048576) (hC : ∀ j, j < cn → (C j).1 ≤ 1048576) : Con Try.prog 41 0 [] [ssL cn C, .p (.int .i64 x)] [] (.p (.int .i64 (inC C x cn))) := by
  refine con_start Try.func41 rfl (by kernel_rfl) rfl (fun c hc => ?_)
  have lp : ∀ d i, i + d = cn → Run Try.prog c 41 [.code (cAt (bodyOf Try.f41) [1, 1, 0, 1, 0, 0]), .inLoop (cAt (bodyOf Try.f41) [1, 1, 0, 1, 0, 0]), .inBlock 0, .code (cAt (bodyOf Try.f41) [1, 1, 1])] (SJ0 cn C x i) (Post c [] (.p (.int .i64 (inC C x cn)))) := by
    intro d
    induction d with
    | zero =>
      intro i hi
      have hi' : i = cn := by omega
      have hd : decide ((i : Int) < (cn : Int)) = false := by simp; omega
      rw [show inC C x cn = inC C x i by rw [hi']]
      refine path_ok mixed Try.func41 hc (j0e cn C x i) ?_
      simp only [All]
      repeat' (first | exact trivial | with_reducible apply And.intro)
      all_goals (first | omega | rfl | (intros; first | assumption | exact True.intro | rfl | exact absurd (show false = true by assumption) Bool.false_ne_true | ((repeat' (first | assumption | apply anda | apply notf)); done)) | (exact hd) | (simp; done))
    | succ d ih =>
      intro i hi
      have hd : decide ((i : Int) < (cn : Int)) = true := by simp; omega
      have hle := inC_le C x i
      have hh := con_l2Has (C i) x (hC i (by omega))
      cases ht : hasI (C i).2 x (C i).1 with
      | true =>
        rw [ht] at hh
        refine piece_ok mixed hc (j0t cn C x i true) ?_ (ih (i + 1) (by omega))
        simp only [All]
        repeat' (first | exact trivial | with_reducible apply And.intro)
        all_goals (first | omega | rfl | (intros; first | assumption | exact True.intro | rfl | exact absurd (show false = true by assumption) Bool.false_ne_true | ((repeat' (first | assumption | apply anda | apply notf)); done)) | (exact hd) | (exact hh) | (simp only [inC, ht, if_true]; done) | (simp only [inC, ht, if_true]; omega) | (intro j hj; rfl))
      | false =>
        rw [ht] at hh
        refine piece_ok mixed hc (j0f cn C x i false) ?_ (ih (i + 1) (by omega))
        simp only [All]
        repeat' (first | exact trivial | with_reducible apply And.intro)
        all_goals (first | omega | rfl | (intros; first | assumption | exact True.intro | rfl | exact absurd (show false = true by assumption) Bool.false_ne_true | ((repeat' (first | assumption | apply anda | apply notf)); done)) | (exact hd) | (exact hh) | (simp [inC, ht]; done) | (intro j hj; rfl))
  refine piece_ok mixed hc (j0z cn C x) ?_ (lp cn 0 (by omega))
  simp only [All]
  repeat' (first | exact trivial | with_reducible apply And.intro)
  all_goals (first | omega | rfl | (intros; first | assumption | exact True.intro | rfl | exact absurd (show false = true by assumption) Bool.false_ne_true | ((repeat' (first | assumption | apply anda | apply notf)); done)) | (intro j hj; rfl))

noncomputable def jkG (v : T_Graph) : T_IntS := if isGraphF v = true then (v.1.toNat, fun x => inC (compsG v).2 x (compsG v).1) else (0, fun _ => 0)

theorem con_JointKinds_s (v : T_Graph) (hs : smS s_Graph v) : Con Try.prog 16 0 [] [graphA v] [(0, iOb (jkG v).1 (jkG v).2)] (.ar 1 0 0 (jkG v).1) := by
  have hcm := con_Comps_s v hs
  have hcg := con_IsGraph_s v hs
  cases hg : isGraphF v with
  | false =>
    rw [hg] at hcg
    rw [show compsG v = (0, fun _ => (0, fun _ => 0)) by simp [compsG, hg]] at hcm
    rw [show jkG v = (0, fun _ => 0) by simp [jkG, hg]]
    refine con_start Try.func16 rfl (by kernel_rfl) rfl (fun c hc => ?_)
    refine path_ok mixed Try.func16 hc (jSy v) ?_
    simp only [All]
    repeat' (first | exact trivial | with_reducible apply And.intro)
    all_goals (first | omega | rfl | (intros; first | assumption | exact True.intro | rfl | exact absurd (show false = true by assumption) Bool.false_ne_true | ((repeat' (first | assumption | apply anda | apply notf)); done)) | (exact hcm) | (intros; exact hcg) | (simp; done) | (intro i hi; simp [All]))
  | true =>
    rw [hg] at hcg
    have hle := compsG_le v
    obtain ⟨N, nb, g, rfl⟩ := graph_cases v hg
    obtain ⟨hN, hnb, _⟩ := graph_in hg
    rw [show jkG ((N : Int), (nb, g), ()) = (N, fun x : Nat => inC (compsG ((N : Int), (nb, g), ())).2 (x : Int) (compsG ((N : Int), (nb, g), ())).1) by simp [jkG, hg]]
    generalize compsG ((N : Int), (nb, g), ()) = cc at hcm hle ⊢
    obtain ⟨cn, C⟩ := cc
    refine con_start Try.func16 rfl (by kernel_rfl) rfl (fun c hc => ?_)
    have lp : ∀ d i, i + d = N → Run Try.prog c 16 [.code (cAt (bodyOf Try.f16) [1, 1, 1, 0, 1, 0, 0]), .inLoop (cAt (bodyOf Try.f16) [1, 1, 1, 0, 1, 0, 0]), .inBlock 0, .code (cAt (bodyOf Try.f16) [1, 1, 1, 1])] (SJs g nb N cn C i) (Post c [(0, iOb N (fun x => inC C x cn))] (.ar 1 0 0 N)) := by
      intro d
      induction d with
      | zero =>
        intro i hi
        obtain rfl : i = N := by omega
        have hd : decide ((i : Int) < (i : Int)) = false := by simp
        refine path_ok mixed Try.func16 hc (jSe g nb i cn C i) ?_
        simp only [All]
        repeat' (first | exact trivial | with_reducible apply And.intro)
        all_goals (first | omega | rfl | (intros; first | assumption | exact True.intro | rfl | exact absurd (show false = true by assumption) Bool.false_ne_true | ((repeat' (first | assumption | apply anda | apply notf)); done)) | (intros; exact hcg) | (intro h; rw [hd] at h; cases h) | (rw [hd]; rfl) | (simp; done) | (intro j hj; simp [All]))
      | succ d ih =>
        intro i hi
        have hd : decide ((i : Int) < (N : Int)) = true := by simp; omega
        have hl := con_l30In cn C i (by have := hle.1; simp only at this; omega) (fun j hj => by have := hle.2 j hj; simp only at this; omega)
        refine piece_ok mixed hc (jSl g nb N cn C i) ?_ (ih (i + 1) (by omega))
        simp only [All]
        repeat' (first | exact trivial | with_reducible apply And.intro)
        all_goals (first | omega | rfl | (intros; first | assumption | exact True.intro | rfl | exact absurd (show false = true by assumption) Bool.false_ne_true | ((repeat' (first | assumption | apply anda | apply notf)); done)) | (intros; exact hcg) | (exact hl) | (rw [hd]; rfl) | (intro j hj; simp [All]; done) | (intro j hj; rcases (show j < i ∨ j = i by omega) with h | h <;> simp [h, cvtL, cvt, tg, tru, All]))
    refine piece_ok mixed hc (jSz g nb N cn C) ?_ (lp N 0 (by omega))
    simp only [All]
    repeat' (first | exact trivial | with_reducible apply And.intro)
    all_goals (first | omega | rfl | (intros; first | assumption | exact True.intro | rfl | exact absurd (show false = true by assumption) Bool.false_ne_true | ((repeat' (first | assumption | apply anda | apply notf)); done)) | (exact hcm) | (intro j hj; simp [All]))

def occ (f : Nat → Int) (x : Int) : Nat → Int
  | 0 => 0
  | k + 1 => occ f x k + (if f k = x then 1 else 0)

/-- Different points below N, in order. -/
def Dist (N : Nat) (c : T_IntS) : Prop := (∀ s, s < c.1 → 0 ≤ c.2 s ∧ c.2 s < N) ∧ ∀ s s', s < s' → s' < c.1 → c.2 s < c.2 s'

theorem occ_has (f : Nat → Int) (x : Int) : ∀ n, (∀ s s', s < s' → s' < n → f s < f s') → occ f x n = if hasI f x n = true then 1 else 0
  | 0, _ => rfl
  | n + 1, h => by
    have ih := occ_has f x n (fun s s' h1 h2 => h s s' h1 (by omega))
    have hno : hasI f x n = true → f n ≠ x := by
      intro hh e
      have : ∀ m, m ≤ n → hasI f x m = true → ∃ s, s < m ∧ f s = x := by
        intro m
        induction m with
        | zero => intro _ h; cases h
        | succ m ih =>
          intro hm h
          simp only [hasI, Bool.or_eq_true] at h
          rcases h with h | h
          · obtain ⟨s, h1, h2⟩ := ih (by omega) h
            exact ⟨s, by omega, h2⟩
          · exact ⟨m, by omega, by simpa using h⟩
      obtain ⟨s, h1, h2⟩ := this n (Nat.le_refl _) hh
      have := h s n h1 (by omega)
      omega
    simp only [occ, hasI]
    rw [ih]
    by_cases hh : hasI f x n = true
    · have := hno hh
      simp [hh, this]
    · by_cases e : f n = x
      · simp [hh, e]
      · simp [hh, e]

theorem compD_dist (N nb : Nat) (g : Nat → T_Bar) (e : Nat) : ∀ p, (∀ s, s < (compD N nb g e p).1 → 0 ≤ (compD N nb g e p).2 s ∧ (compD N nb g e p).2 s < p) ∧ ∀ s s', s < s' → s' < (compD N nb g e p).1 → (compD N nb g e p).2 s < (compD N nb g e p).2 s'
  | 0 => ⟨fun s hs => absurd hs (Nat.not_lt_zero _), fun s s' _ h => absurd h (Nat.not_lt_zero _)⟩
  | p + 1 => by
    obtain ⟨h1, h2⟩ := compD_dist N nb g e p
    simp only [compD]
    split
    · refine ⟨fun s hs => ?_, fun s s' hss hs => ?_⟩
      · show 0 ≤ (if s < (compD N nb g e p).1 then (compD N nb g e p).2 s else (p : Int)) ∧ (if s < (compD N nb g e p).1 then (compD N nb g e p).2 s else (p : Int)) < ((p + 1 : Nat) : Int)
        by_cases h : s < (compD N nb g e p).1
        · rw [if_pos h]; have := h1 s h; omega
        · rw [if_neg h]; omega
      · have hs : s' < (compD N nb g e p).1 + 1 := hs
        show (if s < (compD N nb g e p).1 then (compD N nb g e p).2 s else (p : Int)) < (if s' < (compD N nb g e p).1 then (compD N nb g e p).2 s' else (p : Int))
        rw [if_pos (by omega)]
        by_cases h : s' < (compD N nb g e p).1
        · rw [if_pos h]; exact h2 s s' hss h
        · rw [if_neg h]; have := h1 s (by omega); omega
    · exact ⟨fun s hs => by have := h1 s hs; omega, h2⟩

theorem compsD_dist (N nb : Nat) (g : Nat → T_Bar) : ∀ e j, j < (compsD N nb g e).1 → Dist N ((compsD N nb g e).2 j)
  | 0, j, hj => absurd hj (Nat.not_lt_zero _)
  | e + 1, j, hj => by
    have ih := compsD_dist N nb g e
    simp only [compsD] at hj ⊢
    split at hj
    · rename_i hk; rw [if_pos hk]; exact ih j hj
    · rename_i hk
      rw [if_neg hk]
      have hj : j < (compsD N nb g e).1 + 1 := hj
      by_cases h : j < (compsD N nb g e).1
      · have : (snocC (compsD N nb g e).1 (compsD N nb g e).2 (compD N nb g e N)) j = (compsD N nb g e).2 j := by simp only [snocC, h, if_true]
        show Dist N ((snocC (compsD N nb g e).1 (compsD N nb g e).2 (compD N nb g e N)) j)
        rw [this]; exact ih j h
      · have : (snocC (compsD N nb g e).1 (compsD N nb g e).2 (compD N nb g e N)) j = compD N nb g e N := by simp only [snocC, h, if_false]
        show Dist N ((snocC (compsD N nb g e).1 (compsD N nb g e).2 (compD N nb g e N)) j)
        rw [this]; exact compD_dist N nb g e N

theorem con_JointKinds_i (v : T_Graph) (hs : smS s_Graph v) : Con Try.prog 17 0 [] [graphA v] [(0, iOb (jkG v).1 (jkG v).2)] (.ar 1 0 0 (jkG v).1) := by
  have hcm := con_Comps_i v hs
  have hcg := con_IsGraph_i v hs
  cases hg : isGraphF v with
  | false =>
    rw [hg] at hcg
    rw [show jkG v = (0, fun _ => 0) by simp [jkG, hg]]
    refine con_start Try.func17 rfl (by kernel_rfl) rfl (fun c hc => ?_)
    refine path_ok mixed Try.func17 hc (jIy v) ?_
    simp only [All]
    repeat' (first | exact trivial | with_reducible apply And.intro)
    all_goals (first | omega | rfl | (intros; first | assumption | exact True.intro | rfl | exact absurd (show false = true by assumption) Bool.false_ne_true | ((repeat' (first | assumption | apply anda | apply notf)); done)) | (exact hcg) | (simp; done) | (intro i hi; simp [All]))
  | true =>
    rw [hg] at hcg
    have hle := compsG_le v
    obtain ⟨N, nb, g, rfl⟩ := graph_cases v hg
    obtain ⟨hN, hnb, _⟩ := graph_in hg
    have hdist : ∀ j, j < (compsG ((N : Int), (nb, g), ())).1 → Dist N ((compsG ((N : Int), (nb, g), ())).2 j) := by
      rw [show compsG ((N : Int), (nb, g), ()) = compsD N nb g nb by simp [compsG, hg]]
      exact compsD_dist N nb g nb
    rw [show jkG ((N : Int), (nb, g), ()) = (N, fun x : Nat => inC (compsG ((N : Int), (nb, g), ())).2 (x : Int) (compsG ((N : Int), (nb, g), ())).1) by simp [jkG, hg]]
    generalize compsG ((N : Int), (nb, g), ()) = cc at hcm hle hdist ⊢
    obtain ⟨cn, C⟩ := cc
    simp only at hle hdist
    refine con_start Try.func17 rfl (by kernel_rfl) rfl (fun c hc => ?_)
    have lp : ∀ d i K, i + d = cn → (∀ x : Nat, x < N → K x = inC C x i) → Run Try.prog c 17 [.code (cAt (bodyOf Try.f17) [1, 1, 1, 0, 1, 0, 0]), .inLoop (cAt (bodyOf Try.f17) [1, 1, 1, 0, 1, 0, 0]), .inBlock 0, .code (cAt (bodyOf Try.f17) [1, 1, 1, 1])] (SJi g nb N cn C i K) (Post c [(0, iOb N (fun x => inC C x cn))] (.ar 1 0 0 N)) := by
      intro d
      induction d with
      | zero =>
        intro i K hi hK
        have hi' : i = cn := by omega
        have hd : decide ((i : Int) < (cn : Int)) = false := by simp; omega
        refine path_ok mixed Try.func17 hc (jIe g nb N cn C i K) ?_
        simp only [All]
        repeat' (first | exact trivial | with_reducible apply And.intro)
        all_goals (first | omega | rfl | (intros; first | assumption | exact True.intro | rfl | exact absurd (show false = true by assumption) Bool.false_ne_true | ((repeat' (first | assumption | apply anda | apply notf)); done)) | (exact hd) | (simp; done) | (intro j hj; simp [All]; done) | (intro j hj; rw [hK j hj, hi']; simp [All]))
      | succ d ih =>
        intro i K hi hK
        have hd : decide ((i : Int) < (cn : Int)) = true := by simp; omega
        obtain ⟨hr, hinc⟩ := hdist i (by omega)
        have hl := hle.2 i (by omega)
        have inn : ∀ d' k K', k + d' = (C i).1 → (∀ x : Nat, x < N → K' x = inC C x i + occ (C i).2 x k) → Run Try.prog c 17 [.code (cAt (bodyOf Try.f17) [1, 1, 1, 0, 1, 0, 0, 1, 1, 0, 0, 1, 1, 0, 0]), .inLoop (cAt (bodyOf Try.f17) [1, 1, 1, 0, 1, 0, 0, 1, 1, 0, 0, 1, 1, 0, 0]), .inBlock 2, .inBlock 1, .code (cAt (bodyOf Try.f17) [1, 1, 1, 0, 1, 0, 0, 1, 1, 1]), .inLoop (cAt (bodyOf Try.f17) [1, 1, 1, 0, 1, 0, 0]), .inBlock 0, .code (cAt (bodyOf Try.f17) [1, 1, 1, 1])] (SJk g nb N cn C i k K') (Post c [(0, iOb N (fun x => inC C x cn))] (.ar 1 0 0 N)) := by
          intro d'
          induction d' with
          | zero =>
            intro k K' hk hK'
            have hk' : k = (C i).1 := by omega
            have hd2 : decide ((k : Int) < ((C i).1 : Int)) = false := by simp; omega
            refine piece_ok mixed hc (jIn g nb N cn C i k K') ?_ (ih (i + 1) K' (by omega) (fun x hx => by
              rw [hK' x hx, hk', occ_has (C i).2 x (C i).1 hinc]
              rfl))
            simp only [All]
            repeat' (first | exact trivial | with_reducible apply And.intro)
            all_goals (first | omega | rfl | (intros; first | assumption | exact True.intro | rfl | exact absurd (show false = true by assumption) Bool.false_ne_true | ((repeat' (first | assumption | apply anda | apply notf)); done)) | (exact hd2) | (intro j hj; simp [All]))
          | succ d' ihd =>
            intro k K' hk hK'
            have hd2 : decide ((k : Int) < ((C i).1 : Int)) = true := by simp; omega
            have hrk := hr k (by omega)
            have hKk := hK' ((C i).2 k).toNat (by omega)
            have hin := inC_le C (((C i).2 k).toNat : Nat) i
            have hoc : ∀ n x, 0 ≤ occ (C i).2 x n ∧ occ (C i).2 x n ≤ n := by
              intro n x
              induction n with
              | zero => simp [occ]
              | succ n ihn => simp only [occ]; split <;> omega
            have hock := hoc k (((C i).2 k).toNat : Nat)
            refine piece_ok mixed hc (jIk g nb N cn C i k K') ?_ (ihd (k + 1) _ (by omega) (fun x hx => by
              show (if x = ((C i).2 k).toNat then K' x + 1 else K' x) = inC C x i + (occ (C i).2 x k + (if (C i).2 k = (x : Int) then 1 else 0))
              rw [hK' x hx]
              by_cases e : x = ((C i).2 k).toNat
              · rw [if_pos e, if_pos (by omega)]; omega
              · rw [if_neg e, if_neg (by omega)]; omega))
            simp only [All]
            repeat' (first | exact trivial | with_reducible apply And.intro)
            all_goals (first | omega | rfl | (intros; first | assumption | exact True.intro | rfl | exact absurd (show false = true by assumption) Bool.false_ne_true | ((repeat' (first | assumption | apply anda | apply notf)); done)) | (exact hd2) | (rw [hKk]; omega) | (intro j hj; simp [All]; done) | (intro j hj; by_cases h : j = ((C i).2 k).toNat <;> simp [h, cvtL, cvt, tg, tru, All]))
        refine piece_ok mixed hc (jIl g nb N cn C i K) ?_ (inn (C i).1 0 K (by omega) (fun x hx => by rw [hK x hx]; simp [occ]))
        simp only [All]
        repeat' (first | exact trivial | with_reducible apply And.intro)
        all_goals (first | omega | rfl | (intros; first | assumption | exact True.intro | rfl | exact absurd (show false = true by assumption) Bool.false_ne_true | ((repeat' (first | assumption | apply anda | apply notf)); done)) | (exact hd) | (intro j hj; simp [All]))
    refine piece_ok mixed hc (jIz g nb N cn C) ?_ (lp cn 0 _ (by omega) (fun x _ => rfl))
    simp only [All]
    repeat' (first | exact trivial | with_reducible apply And.intro)
    all_goals (first | omega | rfl | (intros; first | assumption | exact True.intro | rfl | exact absurd (show false = true by assumption) Bool.false_ne_true | ((repeat' (first | assumption | apply anda | apply notf)); done)) | (exact hcg) | (exact hcm) | (intro j hj; simp [All]))

theorem jkG_le (v : T_Graph) : (jkG v).1 ≤ 8 := by
  unfold jkG
  split
  · rename_i hg
    obtain ⟨N, nb, g, rfl⟩ := graph_cases v hg
    have := (graph_in hg).1
    simp only [Int.toNat_natCast]; omega
  · show 0 ≤ 8; omega

theorem sm_jkG (v : T_Graph) : smS s_IntS (jkG v) := ⟨by have := jkG_le v; omega, fun i hi => by simp [smS]⟩

end Go.Proofs.Ythnidhkfelfkdaa.Mach
