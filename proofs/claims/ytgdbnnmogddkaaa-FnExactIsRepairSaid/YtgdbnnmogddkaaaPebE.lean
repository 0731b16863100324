/- The pebble game of the program, played through. Conditions: as each theorem says. -/
import Derived.Test.YtgdbnnmogddkaaaPebD
namespace Go.Proofs.Ytgdbnnmogddkaaa.Mach
open Go
set_option linter.unusedVariables false
set_option linter.unusedSimpArgs false

def inD (n : Nat) (F : Nat → Int) : AV := .p (.seq true 1 n (fun i => [.int .i64 (F i)]))
def pebO (N m : Nat) (j : Nat) : AV := .agg [.ar 1 j 0 N, .ar 1 (j + 1) 0 m, .ar 1 (j + 2) 0 m]
def pebR (N m : Nat) (F T Q : Nat → Int) : Hp := [(0, iOb N F), (1, iOb m T), (2, iOb m Q)]
def SY0 (g : Nat → T_Bar) (nb N k l i : Nat) : St :=
  ⟨[.p (.int .i64 N), brL g nb, .p (.int .i64 k), .p (.int .i64 l), .p .any, .p .any, .p .any, .p .any, .pt 3 0 0 0, .pt 3 1 0 0, .p .any, .p .any, .p .any, .p (.int .i64 N), .p (.int .i64 i)] ++ List.replicate 22 anyA,
   [(0, ⟨true, 3, 1, fun _ => [.p .nil, .p .nil, .p .nil]⟩), (1, ⟨true, 3, 1, fun _ => [.ar 1 2 0 i, .ar 1 3 0 0, .ar 1 4 0 0]⟩), (2, iOb i (fun _ => k)), (3, iOb 0 (fun _ => 0)), (4, iOb 0 (fun _ => 0))], 5⟩
def SY1 (g : Nat → T_Bar) (nb N m k l e : Nat) (F T Q : Nat → Int) : St :=
  ⟨[.p (.int .i64 N), brL g nb, .p (.int .i64 k), .p (.int .i64 l), .p .any, .p .any, .p .any, .p .any, .pt 3 0 0 0, .pt 3 1 0 0] ++ List.replicate 14 anyA ++ [.p (.int .i64 nb), .p (.int .i64 e)] ++ List.replicate 11 anyA,
   [(0, ⟨true, 3, 1, fun _ => [.p .nil, .p .nil, .p .nil]⟩), (1, ⟨true, 3, 1, fun _ => [.ar 1 2 0 N, .ar 1 3 0 m, .ar 1 4 0 m]⟩), (2, iOb N F), (3, iOb m T), (4, iOb m Q)], 5⟩

theorem pCi (n : Nat) (F : Nat → Int) :
    pathOb Try.prog Try.f84 0 [.reg [oT], .reg [oT, oT, oT, oT]] [.code (bodyOf Try.f84)] (start Try.f84 [] 0 [inD n F]) [96] 1 [(0, iOb n F)] (.ar 1 0 0 n) =
    some [((0 : Nat) ≤ 0),
  ((((0 + n) * 8) : Nat) ≤ 140737488355328),
  (((0 + n) : Nat) ≤ 9223372036854775807),
  ((0 : Nat) = 0),
  (((0 + n) : Nat) = (n)),
  ((1 : Nat) = 1),
  (((n) : Nat) ≤ (0 + n)),
  (∀ i : Nat, ((((i) : Nat) < (n)) → (All [] ∧ (([.p (.int .i64 (F i))] : List AV) = [.p (.int .i64 (F i))])))),
  (∀ i : Nat, ((((i) : Nat) < (n)) → All []))] := by kernel_rfl
theorem pCp (N m m' : Nat) (F T Q : Nat → Int) :
    pathOb Try.prog Try.f158 0 [.reg [oT, oT], .reg [oT, oT, ⟨true, (some ⟨[], [], 1, [(0, iOb N F)], .ar 1 0 0 N⟩), none⟩, oT, oT, ⟨true, (some ⟨[], [], 1, [(0, iOb m T)], .ar 1 0 0 m⟩), none⟩, oT, oT, ⟨true, (some ⟨[], [], 1, [(0, iOb m Q)], .ar 1 0 0 m⟩), none⟩, oT, oT]] [.code (bodyOf Try.f158)] (start Try.f158 [] 0 [.agg [inD N F, inD m T, inD m Q]]) [128, 224, 320] 1 (pebR N m F T Q) (pebO N m 0) =
    some [((0 : Nat) < 1),
  Con (Try.prog) 84 0 [] [.p (.seq true 1 (N) (fun i => [.int .i64 (F i)]))] [(0, ⟨false, 1, (N), (fun i => [.p (.int .i64 (F i))])⟩)] (.ar 1 0 0 (N)),
  ((0 : Nat) < 1),
  Con (Try.prog) 84 0 [] [.p (.seq true 1 (m) (fun i => [.int .i64 (T i)]))] [(0, ⟨false, 1, (m), (fun i => [.p (.int .i64 (T i))])⟩)] (.ar 1 0 0 (m)),
  ((0 : Nat) < 1),
  Con (Try.prog) 84 0 [] [.p (.seq true 1 (m) (fun i => [.int .i64 (Q i)]))] [(0, ⟨false, 1, (m), (fun i => [.p (.int .i64 (Q i))])⟩)] (.ar 1 0 0 (m)),
  ((0 : Nat) < 1),
  (((true) = true) → ((1 : Nat) = 1)),
  ((0 : Nat) < 1),
  ((0 : Nat) = 0),
  (((N) : Nat) = (N)),
  ((0 : Nat) = 0),
  (((m) : Nat) = (m)),
  ((0 : Nat) = 0),
  (((m) : Nat) = (m)),
  ((1 : Nat) = 1),
  (((N) : Nat) ≤ (N)),
  (∀ i : Nat, ((((i) : Nat) < (N)) → (All [] ∧ (([.p (.int .i64 (F i))] : List AV) = [.p (.int .i64 (F i))])))),
  ((1 : Nat) = 1),
  (((m) : Nat) ≤ (m)),
  (∀ i : Nat, ((((i) : Nat) < (m)) → (All [] ∧ (([.p (.int .i64 (T i))] : List AV) = [.p (.int .i64 (T i))])))),
  ((1 : Nat) = 1),
  (((m) : Nat) ≤ (m)),
  (∀ i : Nat, ((((i) : Nat) < (m)) → (All [] ∧ (([.p (.int .i64 (Q i))] : List AV) = [.p (.int .i64 (Q i))])))),
  (∀ i : Nat, ((((i) : Nat) < (N)) → All [])),
  (∀ i : Nat, ((((i) : Nat) < (m)) → All [])),
  (∀ i : Nat, ((((i) : Nat) < (m)) → All []))] := by kernel_rfl
theorem pYz (g : Nat → T_Bar) (nb N k l : Nat) :
    pieceOb Try.prog 0 [.reg [oT], .reg [oT, oT, oT], .reg [oT, oT], .head] [.code (bodyOf Try.f140)] (start Try.f140 [] 0 [.p (.int .i64 N), brL g nb, .p (.int .i64 k), .p (.int .i64 l)]) [0, 64] 1 (SY0 g nb N k l 0) =
    some ([.code (cAt (bodyOf Try.f140) [1, 1, 0, 1, 0, 0]), .inLoop (cAt (bodyOf Try.f140) [1, 1, 0, 1, 0, 0]), .inBlock 0, .code (cAt (bodyOf Try.f140) [1, 1, 1])], [((0 : Nat) < 1),
  (((true) = true) → ((1 : Nat) = 1)),
  ((((↑N : Int)) : Int) = ((↑N : Int))),
  (((nb) : Nat) = (nb)),
  (∀ i : Nat, ((((i) : Nat) < (nb)) → (([.int .i64 ((g i).fst), .int .i64 ((g i).snd.fst)] : List PV) = [.int .i64 ((g i).fst), .int .i64 ((g i).snd.fst)]))),
  ((((↑k : Int)) : Int) = ((↑k : Int))),
  ((((↑l : Int)) : Int) = ((↑l : Int))),
  ((0 : Nat) = 0),
  ((0 : Nat) = 0),
  ((((↑N : Int)) : Int) = ((↑N : Int))),
  ((0 : Int) = ((↑0 : Int))),
  ((((List.map (fun v => AV.p (absV v)) [Value.slice none 0 0, Value.slice none 0 0, Value.slice none 0 0]).length) : Nat) = 3),
  ((1 : Nat) ≤ 1),
  ((1 : Nat) ≤ 1),
  ((((List.map (fun v => AV.p (absV v)) [Value.slice none 0 0, Value.slice none 0 0, Value.slice none 0 0]).length) : Nat) = 3),
  ((1 : Nat) ≤ 1),
  ((1 : Nat) ≤ 1),
  ((0 : Nat) = 0),
  ((0 : Nat) = 0),
  ((0 : Nat) = 0),
  ((0 : Nat) = 0),
  ((0 : Nat) = 0),
  ((0 : Nat) = 0)]) := by kernel_rfl
theorem pY0 (g : Nat → T_Bar) (nb N k l i : Nat) :
    pieceOb Try.prog 0 [.reg [oT], .dec true, .reg [oT, oT, oT, oT, oT, oT, oT], .reg [oT, oT], .head] [.code (cAt (bodyOf Try.f140) [1, 1, 0, 1, 0, 0]), .inLoop (cAt (bodyOf Try.f140) [1, 1, 0, 1, 0, 0]), .inBlock 0, .code (cAt (bodyOf Try.f140) [1, 1, 1])] (SY0 g nb N k l i) [0, 1, 165, 3, 4] 1 (SY0 g nb N k l (i + 1)) =
    some ([.code (cAt (bodyOf Try.f140) [1, 1, 0, 1, 0, 0]), .inLoop (cAt (bodyOf Try.f140) [1, 1, 0, 1, 0, 0]), .inBlock 0, .code (cAt (bodyOf Try.f140) [1, 1, 1])], [((decide ((↑i : Int) < (↑N : Int))) = true),
  ((0 : Nat) < 1),
  ((1 : Nat) ≤ 1),
  (((i) : Nat) ≤ (i)),
  ((((i + 1) * 8) : Nat) ≤ 140737488355328),
  (((i + 1) : Nat) ≤ 9223372036854775807),
  ((0 : Nat) < 1),
  (((true) = true) → ((1 : Nat) = 1)),
  (((-9223372036854775808) : Int) ≤ ((↑i : Int) + 1)),
  ((((↑i : Int) + 1) : Int) ≤ 9223372036854775807),
  ((((↑N : Int)) : Int) = ((↑N : Int))),
  (((nb) : Nat) = (nb)),
  (∀ i_1 : Nat, ((((i_1) : Nat) < (nb)) → (([.int .i64 ((g i_1).fst), .int .i64 ((g i_1).snd.fst)] : List PV) = [.int .i64 ((g i_1).fst), .int .i64 ((g i_1).snd.fst)]))),
  ((((↑k : Int)) : Int) = ((↑k : Int))),
  ((((↑l : Int)) : Int) = ((↑l : Int))),
  ((0 : Nat) = 0),
  ((0 : Nat) = 0),
  ((((↑N : Int)) : Int) = ((↑N : Int))),
  ((((↑i : Int) + 1) : Int) = ((↑(i + 1) : Int))),
  ((3 : Nat) = 3),
  ((1 : Nat) ≤ 1),
  ((1 : Nat) ≤ 1),
  ((3 : Nat) = 3),
  ((1 : Nat) ≤ 1),
  ((1 : Nat) ≤ 1),
  ((0 : Nat) = 0),
  (((i + 1) : Nat) = (i + 1)),
  ((0 : Nat) = 0),
  ((0 : Nat) = 0),
  ((0 : Nat) = 0),
  ((0 : Nat) = 0),
  ((1 : Nat) = 1),
  (((i + 1) : Nat) ≤ (i + 1)),
  (∀ i_1 : Nat, ((((i_1) : Nat) < (i + 1)) → (All (cvtL false [(1, ⟨true, 3, 1, (fun i_2 => [.ar 1 165 0 (i + 1), .ar 1 3 0 0, .ar 1 4 0 0])⟩), (165, ⟨false, 1, (i + 1), (fun i_2 => (if (i_2 < i) then [.p (.int .i64 ((↑k : Int)))] else [.p (.int .i64 ((↑k : Int)))]))⟩), (133, ⟨false, 1, 1, (fun i_2 => [.p (.int .i64 ((↑k : Int)))])⟩), (0, ⟨true, 3, 1, (fun i_2 => [.p (.nil), .p (.nil), .p (.nil)])⟩), (3, ⟨false, 1, 0, (fun i_2 => [.p (.int .i64 0)])⟩), (4, ⟨false, 1, 0, (fun i_2 => [.p (.int .i64 0)])⟩)] [0, 1, 165, 3, 4] 1 (if (i_1 < i) then [.p (.int .i64 ((↑k : Int)))] else [.p (.int .i64 ((↑k : Int)))])).2 ∧ (((cvtL false [(1, ⟨true, 3, 1, (fun i_2 => [.ar 1 165 0 (i + 1), .ar 1 3 0 0, .ar 1 4 0 0])⟩), (165, ⟨false, 1, (i + 1), (fun i_2 => (if (i_2 < i) then [.p (.int .i64 ((↑k : Int)))] else [.p (.int .i64 ((↑k : Int)))]))⟩), (133, ⟨false, 1, 1, (fun i_2 => [.p (.int .i64 ((↑k : Int)))])⟩), (0, ⟨true, 3, 1, (fun i_2 => [.p (.nil), .p (.nil), .p (.nil)])⟩), (3, ⟨false, 1, 0, (fun i_2 => [.p (.int .i64 0)])⟩), (4, ⟨false, 1, 0, (fun i_2 => [.p (.int .i64 0)])⟩)] [0, 1, 165, 3, 4] 1 (if (i_1 < i) then [.p (.int .i64 ((↑k : Int)))] else [.p (.int .i64 ((↑k : Int)))])).1 : List AV) = [.p (.int .i64 ((↑k : Int)))])))),
  ((1 : Nat) = 1),
  ((0 : Nat) ≤ 0),
  (∀ i_1 : Nat, ((((i_1) : Nat) < 0) → (All [] ∧ (([.p (.int .i64 0)] : List AV) = [.p (.int .i64 0)])))),
  ((1 : Nat) = 1),
  ((0 : Nat) ≤ 0),
  (∀ i_1 : Nat, ((((i_1) : Nat) < 0) → (All [] ∧ (([.p (.int .i64 0)] : List AV) = [.p (.int .i64 0)]))))]) := by kernel_rfl
theorem pY01 (g : Nat → T_Bar) (nb N k l i : Nat) :
    pieceOb Try.prog 0 [.reg [oT], .dec false, .reg [oT, oT, oT], .head] [.code (cAt (bodyOf Try.f140) [1, 1, 0, 1, 0, 0]), .inLoop (cAt (bodyOf Try.f140) [1, 1, 0, 1, 0, 0]), .inBlock 0, .code (cAt (bodyOf Try.f140) [1, 1, 1])] (SY0 g nb N k l i) [0, 1, 2, 3, 4] 1 (SY1 g nb N 0 k l 0 (fun _ => k) (fun _ => 0) (fun _ => 0)) =
    some ([.code (cAt (bodyOf Try.f140) [1, 1, 1, 0, 1, 0, 0]), .inLoop (cAt (bodyOf Try.f140) [1, 1, 1, 0, 1, 0, 0]), .inBlock 2, .code (cAt (bodyOf Try.f140) [1, 1, 1, 1])], [((decide ((↑i : Int) < (↑N : Int))) = false),
  ((((↑N : Int)) : Int) = ((↑N : Int))),
  (((nb) : Nat) = (nb)),
  (∀ i_1 : Nat, ((((i_1) : Nat) < (nb)) → (([.int .i64 ((g i_1).fst), .int .i64 ((g i_1).snd.fst)] : List PV) = [.int .i64 ((g i_1).fst), .int .i64 ((g i_1).snd.fst)]))),
  ((((↑k : Int)) : Int) = ((↑k : Int))),
  ((((↑l : Int)) : Int) = ((↑l : Int))),
  ((0 : Nat) = 0),
  ((0 : Nat) = 0),
  ((((↑nb : Int)) : Int) = ((↑nb : Int))),
  ((0 : Int) = ((↑0 : Int))),
  ((3 : Nat) = 3),
  ((1 : Nat) ≤ 1),
  ((1 : Nat) ≤ 1),
  ((3 : Nat) = 3),
  ((1 : Nat) ≤ 1),
  ((1 : Nat) ≤ 1),
  ((0 : Nat) = 0),
  (((i) : Nat) = (N)),
  ((0 : Nat) = 0),
  ((0 : Nat) = 0),
  ((0 : Nat) = 0),
  ((0 : Nat) = 0),
  ((1 : Nat) = 1),
  (((N) : Nat) ≤ (i)),
  (∀ i_1 : Nat, ((((i_1) : Nat) < (N)) → (All [] ∧ (([.p (.int .i64 ((↑k : Int)))] : List AV) = [.p (.int .i64 ((↑k : Int)))])))),
  ((1 : Nat) = 1),
  ((0 : Nat) ≤ 0),
  (∀ i_1 : Nat, ((((i_1) : Nat) < 0) → (All [] ∧ (([.p (.int .i64 0)] : List AV) = [.p (.int .i64 0)])))),
  ((1 : Nat) = 1),
  ((0 : Nat) ≤ 0),
  (∀ i_1 : Nat, ((((i_1) : Nat) < 0) → (All [] ∧ (([.p (.int .i64 0)] : List AV) = [.p (.int .i64 0)]))))]) := by kernel_rfl
theorem pY1t (g : Nat → T_Bar) (nb N m k l e : Nat) (F T Q F1 T1 : Nat → Int) :
    pieceOb Try.prog 0 [.reg [oT], .dec true, .reg [oT, oT], .reg [oT, ⟨true, (some ⟨[], [], 1, pebR N m F T Q, pebO N m 0⟩), none⟩, oT, oT], .reg [oT, oT, oT, ⟨true, (some ⟨[165, 133, 134, 135], [], 1, pebH2 N (m + 1) F1 T1 (fun s => if s < m then Q s else e), .p (.bool true)⟩), none⟩], .dec true, .reg [oT, oT], .reg [oT, oT], .head] [.code (cAt (bodyOf Try.f140) [1, 1, 1, 0, 1, 0, 0]), .inLoop (cAt (bodyOf Try.f140) [1, 1, 1, 0, 1, 0, 0]), .inBlock 2, .code (cAt (bodyOf Try.f140) [1, 1, 1, 1])] (SY1 g nb N m k l e F T Q) [0, 1, 133, 325, 326] 1 (SY1 g nb N (m + 1) k l (e + 1) F1 T1 (fun s => if s < m then Q s else e)) =
    some ([.code (cAt (bodyOf Try.f140) [1, 1, 1, 0, 1, 0, 0]), .inLoop (cAt (bodyOf Try.f140) [1, 1, 1, 0, 1, 0, 0]), .inBlock 2, .code (cAt (bodyOf Try.f140) [1, 1, 1, 1])], [((decide ((↑e : Int) < (↑nb : Int))) = true),
  ((0 : Nat) < 1),
  ((1 : Nat) = 1),
  (((N) : Nat) ≤ (N)),
  ((1 : Nat) = 1),
  (((m) : Nat) ≤ (m)),
  ((1 : Nat) = 1),
  (((m) : Nat) ≤ (m)),
  Con (Try.prog) 158 0 [] [.agg [.p (.seq true 1 (N) (fun i => [.int .i64 (F i)])), .p (.seq true 1 (m) (fun i => [.int .i64 (T i)])), .p (.seq true 1 (m) (fun i => [.int .i64 (Q i)]))]] [(0, ⟨false, 1, (N), (fun i => [.p (.int .i64 (F i))])⟩), (1, ⟨false, 1, (m), (fun i => [.p (.int .i64 (T i))])⟩), (2, ⟨false, 1, (m), (fun i => [.p (.int .i64 (Q i))])⟩)] (.agg [.ar 1 0 0 (N), .ar 1 1 0 (m), .ar 1 2 0 (m)]),
  ((0 : Nat) < 1),
  (((true) = true) → ((1 : Nat) = 1)),
  (∀ i : Nat, ((((i) : Nat) < 1) → All [])),
  (∀ i : Nat, ((((i) : Nat) < (N)) → All [])),
  (∀ i : Nat, ((((i) : Nat) < (m)) → All [])),
  (∀ i : Nat, ((((i) : Nat) < (m)) → All [])),
  Con (Try.prog) 159 4 [(0, ⟨true, 3, 1, (fun i => [.ar 1 1 0 (N), .ar 1 2 0 (m), .ar 1 3 0 (m)])⟩), (1, ⟨false, 1, (N), (fun i => [.p (.int .i64 (F i))])⟩), (2, ⟨false, 1, (m), (fun i => [.p (.int .i64 (T i))])⟩), (3, ⟨false, 1, (m), (fun i => [.p (.int .i64 (Q i))])⟩)] [.p (.seq true 2 (nb) (fun i => [.int .i64 ((g i).fst), .int .i64 ((g i).snd.fst)])), .p (.int .i64 ((↑l : Int))), .pt 3 0 0 0, .p (.int .i64 ((↑e : Int)))] [(0, ⟨true, 3, 1, (fun i => [.ar 1 1 0 (N), .ar 1 4 0 (m + 1), .ar 1 5 0 (m + 1)])⟩), (1, ⟨false, 1, (N), (fun i => [.p (.int .i64 (F1 i))])⟩), (4, ⟨false, 1, (m + 1), (fun i => [.p (.int .i64 (T1 i))])⟩), (5, ⟨false, 1, (m + 1), (fun i => [.p (.int .i64 (if i < m then Q i else (↑e : Int)))])⟩)] (.p (.bool true)),
  (true = true),
  ((0 : Nat) < 1),
  ((0 : Nat) < 1),
  (((true) = true) → ((1 : Nat) = 1)),
  (((-9223372036854775808) : Int) ≤ ((↑e : Int) + 1)),
  ((((↑e : Int) + 1) : Int) ≤ 9223372036854775807),
  ((((↑N : Int)) : Int) = ((↑N : Int))),
  (((nb) : Nat) = (nb)),
  (∀ i : Nat, ((((i) : Nat) < (nb)) → (([.int .i64 ((g i).fst), .int .i64 ((g i).snd.fst)] : List PV) = [.int .i64 ((g i).fst), .int .i64 ((g i).snd.fst)]))),
  ((((↑k : Int)) : Int) = ((↑k : Int))),
  ((((↑l : Int)) : Int) = ((↑l : Int))),
  ((0 : Nat) = 0),
  ((0 : Nat) = 0),
  ((((↑nb : Int)) : Int) = ((↑nb : Int))),
  ((((↑e : Int) + 1) : Int) = ((↑(e + 1) : Int))),
  ((3 : Nat) = 3),
  ((1 : Nat) ≤ 1),
  ((1 : Nat) ≤ 1),
  ((3 : Nat) = 3),
  ((1 : Nat) ≤ 1),
  ((1 : Nat) ≤ 1),
  ((0 : Nat) = 0),
  (((N) : Nat) = (N)),
  ((0 : Nat) = 0),
  (((m + 1) : Nat) = (m + 1)),
  ((0 : Nat) = 0),
  (((m + 1) : Nat) = (m + 1)),
  ((1 : Nat) = 1),
  (((N) : Nat) ≤ (N)),
  (∀ i : Nat, ((((i) : Nat) < (N)) → (All [] ∧ (([.p (.int .i64 (F1 i))] : List AV) = [.p (.int .i64 (F1 i))])))),
  ((1 : Nat) = 1),
  (((m + 1) : Nat) ≤ (m + 1)),
  (∀ i : Nat, ((((i) : Nat) < (m + 1)) → (All [] ∧ (([.p (.int .i64 (T1 i))] : List AV) = [.p (.int .i64 (T1 i))])))),
  ((1 : Nat) = 1),
  (((m + 1) : Nat) ≤ (m + 1)),
  (∀ i : Nat, ((((i) : Nat) < (m + 1)) → (All [] ∧ (([.p (.int .i64 (if i < m then Q i else (↑e : Int)))] : List AV) = [.p (.int .i64 (if i < m then Q i else (↑e : Int)))]))))]) := by kernel_rfl
theorem pY1f (g : Nat → T_Bar) (nb N m k l e : Nat) (F T Q F1 T1 : Nat → Int) :
    pieceOb Try.prog 0 [.reg [oT], .dec true, .reg [oT, oT], .reg [oT, ⟨true, (some ⟨[], [], 1, pebR N m F T Q, pebO N m 0⟩), none⟩, oT, oT], .reg [oT, oT, oT, ⟨true, (some ⟨[165, 133, 134, 135], [], 1, pebH N m F1 T1 Q, .p (.bool false)⟩), none⟩], .dec false, .reg [oT, oT], .head] [.code (cAt (bodyOf Try.f140) [1, 1, 1, 0, 1, 0, 0]), .inLoop (cAt (bodyOf Try.f140) [1, 1, 1, 0, 1, 0, 0]), .inBlock 2, .code (cAt (bodyOf Try.f140) [1, 1, 1, 1])] (SY1 g nb N m k l e F T Q) [0, 1, 2, 3, 4] 1 (SY1 g nb N m k l (e + 1) F T Q) =
    some ([.code (cAt (bodyOf Try.f140) [1, 1, 1, 0, 1, 0, 0]), .inLoop (cAt (bodyOf Try.f140) [1, 1, 1, 0, 1, 0, 0]), .inBlock 2, .code (cAt (bodyOf Try.f140) [1, 1, 1, 1])], [((decide ((↑e : Int) < (↑nb : Int))) = true),
  ((0 : Nat) < 1),
  ((1 : Nat) = 1),
  (((N) : Nat) ≤ (N)),
  ((1 : Nat) = 1),
  (((m) : Nat) ≤ (m)),
  ((1 : Nat) = 1),
  (((m) : Nat) ≤ (m)),
  Con (Try.prog) 158 0 [] [.agg [.p (.seq true 1 (N) (fun i => [.int .i64 (F i)])), .p (.seq true 1 (m) (fun i => [.int .i64 (T i)])), .p (.seq true 1 (m) (fun i => [.int .i64 (Q i)]))]] [(0, ⟨false, 1, (N), (fun i => [.p (.int .i64 (F i))])⟩), (1, ⟨false, 1, (m), (fun i => [.p (.int .i64 (T i))])⟩), (2, ⟨false, 1, (m), (fun i => [.p (.int .i64 (Q i))])⟩)] (.agg [.ar 1 0 0 (N), .ar 1 1 0 (m), .ar 1 2 0 (m)]),
  ((0 : Nat) < 1),
  (((true) = true) → ((1 : Nat) = 1)),
  (∀ i : Nat, ((((i) : Nat) < 1) → All [])),
  (∀ i : Nat, ((((i) : Nat) < (N)) → All [])),
  (∀ i : Nat, ((((i) : Nat) < (m)) → All [])),
  (∀ i : Nat, ((((i) : Nat) < (m)) → All [])),
  Con (Try.prog) 159 4 [(0, ⟨true, 3, 1, (fun i => [.ar 1 1 0 (N), .ar 1 2 0 (m), .ar 1 3 0 (m)])⟩), (1, ⟨false, 1, (N), (fun i => [.p (.int .i64 (F i))])⟩), (2, ⟨false, 1, (m), (fun i => [.p (.int .i64 (T i))])⟩), (3, ⟨false, 1, (m), (fun i => [.p (.int .i64 (Q i))])⟩)] [.p (.seq true 2 (nb) (fun i => [.int .i64 ((g i).fst), .int .i64 ((g i).snd.fst)])), .p (.int .i64 ((↑l : Int))), .pt 3 0 0 0, .p (.int .i64 ((↑e : Int)))] [(0, ⟨true, 3, 1, (fun i => [.ar 1 1 0 (N), .ar 1 2 0 (m), .ar 1 3 0 (m)])⟩), (1, ⟨false, 1, (N), (fun i => [.p (.int .i64 (F1 i))])⟩), (2, ⟨false, 1, (m), (fun i => [.p (.int .i64 (T1 i))])⟩), (3, ⟨false, 1, (m), (fun i => [.p (.int .i64 (Q i))])⟩)] (.p (.bool false)),
  (false = false),
  (((-9223372036854775808) : Int) ≤ ((↑e : Int) + 1)),
  ((((↑e : Int) + 1) : Int) ≤ 9223372036854775807),
  ((((↑N : Int)) : Int) = ((↑N : Int))),
  (((nb) : Nat) = (nb)),
  (∀ i : Nat, ((((i) : Nat) < (nb)) → (([.int .i64 ((g i).fst), .int .i64 ((g i).snd.fst)] : List PV) = [.int .i64 ((g i).fst), .int .i64 ((g i).snd.fst)]))),
  ((((↑k : Int)) : Int) = ((↑k : Int))),
  ((((↑l : Int)) : Int) = ((↑l : Int))),
  ((0 : Nat) = 0),
  ((0 : Nat) = 0),
  ((((↑nb : Int)) : Int) = ((↑nb : Int))),
  ((((↑e : Int) + 1) : Int) = ((↑(e + 1) : Int))),
  ((3 : Nat) = 3),
  ((1 : Nat) ≤ 1),
  ((1 : Nat) ≤ 1),
  ((3 : Nat) = 3),
  ((1 : Nat) ≤ 1),
  ((1 : Nat) ≤ 1),
  ((0 : Nat) = 0),
  (((N) : Nat) = (N)),
  ((0 : Nat) = 0),
  (((m) : Nat) = (m)),
  ((0 : Nat) = 0),
  (((m) : Nat) = (m)),
  ((1 : Nat) = 1),
  (((N) : Nat) ≤ (N)),
  (∀ i : Nat, ((((i) : Nat) < (N)) → (All [] ∧ (([.p (.int .i64 (F i))] : List AV) = [.p (.int .i64 (F i))])))),
  ((1 : Nat) = 1),
  (((m) : Nat) ≤ (m)),
  (∀ i : Nat, ((((i) : Nat) < (m)) → (All [] ∧ (([.p (.int .i64 (T i))] : List AV) = [.p (.int .i64 (T i))])))),
  ((1 : Nat) = 1),
  (((m) : Nat) ≤ (m)),
  (∀ i : Nat, ((((i) : Nat) < (m)) → (All [] ∧ (([.p (.int .i64 (Q i))] : List AV) = [.p (.int .i64 (Q i))]))))]) := by kernel_rfl
theorem pY2 (g : Nat → T_Bar) (nb N m k l e : Nat) (F T Q : Nat → Int) :
    pathOb Try.prog Try.f140 0 [.reg [oT], .dec false, .reg [oT, oT]] [.code (cAt (bodyOf Try.f140) [1, 1, 1, 0, 1, 0, 0]), .inLoop (cAt (bodyOf Try.f140) [1, 1, 1, 0, 1, 0, 0]), .inBlock 2, .code (cAt (bodyOf Try.f140) [1, 1, 1, 1])] (SY1 g nb N m k l e F T Q) [2, 3, 4] 1 (pebR N m F T Q) (pebO N m 0) =
    some [((decide ((↑e : Int) < (↑nb : Int))) = false),
  ((0 : Nat) < 1),
  ((0 : Nat) < 1),
  (((true) = true) → ((1 : Nat) = 1)),
  ((0 : Nat) < 1),
  ((0 : Nat) = 0),
  (((N) : Nat) = (N)),
  ((0 : Nat) = 0),
  (((m) : Nat) = (m)),
  ((0 : Nat) = 0),
  (((m) : Nat) = (m)),
  ((1 : Nat) = 1),
  (((N) : Nat) ≤ (N)),
  (∀ i : Nat, ((((i) : Nat) < (N)) → (All [] ∧ (([.p (.int .i64 (F i))] : List AV) = [.p (.int .i64 (F i))])))),
  ((1 : Nat) = 1),
  (((m) : Nat) ≤ (m)),
  (∀ i : Nat, ((((i) : Nat) < (m)) → (All [] ∧ (([.p (.int .i64 (T i))] : List AV) = [.p (.int .i64 (T i))])))),
  ((1 : Nat) = 1),
  (((m) : Nat) ≤ (m)),
  (∀ i : Nat, ((((i) : Nat) < (m)) → (All [] ∧ (([.p (.int .i64 (Q i))] : List AV) = [.p (.int .i64 (Q i))])))),
  (∀ i : Nat, ((((i) : Nat) < (N)) → All [])),
  (∀ i : Nat, ((((i) : Nat) < (m)) → All [])),
  (∀ i : Nat, ((((i) : Nat) < (m)) → All []))] := by kernel_rfl

theorem con_copyInts (n : Nat) (F : Nat → Int) (hn : n ≤ 1048576) : Con Try.prog 84 0 [] [inD n F] [(0, iOb n F)] (.ar 1 0 0 n) := by
  refine con_start Try.func84 rfl (by kernel_rfl) rfl (fun c hc => ?_)
  refine path_ok mixed Try.func84 hc (pCi n F) ?_
  simp only [All]
  repeat' (first | exact trivial | with_reducible apply And.intro)
  all_goals (first | omega | rfl | (intros; first | assumption | exact True.intro | rfl | exact absurd (show false = true by assumption) Bool.false_ne_true | ((repeat' (first | assumption | apply anda | apply notf)); done)) | (intro i hi; simp [All]))

theorem con_copyPebbles (N m : Nat) (F T Q : Nat → Int) (hN : N ≤ 1048576) (hm : m ≤ 1048576) : Con Try.prog 158 0 [] [.agg [inD N F, inD m T, inD m Q]] (pebR N m F T Q) (pebO N m 0) := by
  refine con_start Try.func158 rfl (by kernel_rfl) rfl (fun c hc => ?_)
  refine path_ok mixed Try.func158 hc (pCp N m m F T Q) ?_
  simp only [All]
  repeat' (first | exact trivial | with_reducible apply And.intro)
  all_goals (first | omega | rfl | (intros; first | assumption | exact True.intro | rfl | exact absurd (show false = true by assumption) Bool.false_ne_true | ((repeat' (first | assumption | apply anda | apply notf)); done)) | (exact con_copyInts N F hN) | (exact con_copyInts m T hm) | (exact con_copyInts m Q hm) | (intro i hi; simp [All]))

open Classical in
/-- The bars that are accepted, of the first so many. -/
noncomputable def accI (N k l : Nat) (g : Nat → T_Bar) : Nat → List Nat
  | 0 => []
  | e + 1 => if Mat.Sparse N k l ((accI N k l g e).map (fun i => brN (g i)) ++ [brN (g e)]) then accI N k l g e ++ [e] else accI N k l g e

theorem accI_sparse (N k l : Nat) (g : Nat → T_Bar) : ∀ e, Mat.Sparse N k l ((accI N k l g e).map (fun i => brN (g i)))
  | 0 => Mat.sparse_nil N k l
  | e + 1 => by
    simp only [accI]
    split
    · rename_i h; rw [List.map_append]; exact h
    · exact accI_sparse N k l g e

def qL (Q : Nat → Int) : Nat → List Nat
  | 0 => []
  | m + 1 => qL Q m ++ [(Q m).toNat]

theorem qL_length (Q : Nat → Int) : ∀ m, (qL Q m).length = m
  | 0 => rfl
  | m + 1 => by simp [qL, qL_length Q m]

theorem qL_congr {Q Q' : Nat → Int} : ∀ m, (∀ j, j < m → Q j = Q' j) → qL Q m = qL Q' m
  | 0, _ => rfl
  | m + 1, h => by simp only [qL]; rw [qL_congr m (fun j hj => h j (by omega)), h m (by omega)]

theorem plL_qL (g : Nat → T_Bar) (Q : Nat → Int) : ∀ m, plL g Q m = (qL Q m).map (fun i => brN (g i))
  | 0 => rfl
  | m + 1 => by simp only [plL, qL, plL_qL g Q m, List.map_append, List.map_cons, List.map_nil]

theorem accI_len (N k l : Nat) (g : Nat → T_Bar) : ∀ e, (accI N k l g e).length ≤ e
  | 0 => Nat.le_refl _
  | e + 1 => by
    have := accI_len N k l g e
    simp only [accI]
    split
    · simp; omega
    · omega

theorem PInv.start {N k nb : Nat} {g : Nat → T_Bar} (hb : ∀ e, e < nb → 0 ≤ (g e).1 ∧ (g e).1 < (g e).2.1 ∧ (g e).2.1 < N) : PInv N k nb 0 g (fun _ => (k : Int)) (fun _ => 0) (fun _ => 0) :=
  ⟨hb, fun j hj => absurd hj (Nat.not_lt_zero _), fun j hj => absurd hj (Nat.not_lt_zero _), fun v _ => by show (0 : Int) ≤ k; omega, fun v _ => by show (k : Int) + 0 = k; omega⟩

/-- The game played through: the accepted bars are those that keep the placed ones sparse. -/
theorem con_play {N k l nb : Nat} {g : Nat → T_Bar} (hb : ∀ e, e < nb → 0 ≤ (g e).1 ∧ (g e).1 < (g e).2.1 ∧ (g e).2.1 < N) (hk : k ≤ 1048576) (hl : l ≤ 1048576) (hN : N ≤ 1048576) (hnb : nb ≤ 1048576) :
    ∃ m F T Q, Con Try.prog 140 0 [] [.p (.int .i64 N), brL g nb, .p (.int .i64 k), .p (.int .i64 l)] (pebR N m F T Q) (pebO N m 0) ∧ PInv N k nb m g F T Q ∧ qL Q m = accI N k l g nb := by
  have lp1 : ∀ d e m F T Q, e + d = nb → PInv N k nb m g F T Q → qL Q m = accI N k l g e →
      ∃ m' F' T' Q', (∀ c, c.n = 0 → Run Try.prog c 140 [.code (cAt (bodyOf Try.f140) [1, 1, 1, 0, 1, 0, 0]), .inLoop (cAt (bodyOf Try.f140) [1, 1, 1, 0, 1, 0, 0]), .inBlock 2, .code (cAt (bodyOf Try.f140) [1, 1, 1, 1])] (SY1 g nb N m k l e F T Q) (Post c (pebR N m' F' T' Q') (pebO N m' 0))) ∧ PInv N k nb m' g F' T' Q' ∧ qL Q' m' = accI N k l g nb := by
    intro d
    induction d with
    | zero =>
      intro e m F T Q he hp hq
      obtain rfl : e = nb := by omega
      refine ⟨m, F, T, Q, fun c hc => ?_, hp, hq⟩
      have hd : decide ((e : Int) < (e : Int)) = false := by simp
      refine path_ok mixed Try.func140 hc (pY2 g e N m k l e F T Q) ?_
      simp only [All]
      repeat' (first | exact trivial | with_reducible apply And.intro)
      all_goals (first | omega | rfl | (intros; first | assumption | exact True.intro | rfl | exact absurd (show false = true by assumption) Bool.false_ne_true | ((repeat' (first | assumption | apply anda | apply notf)); done)) | (intro i hi; simp [All]))
    | succ d ih =>
      intro e m F T Q he hp hq
      have hd : decide ((e : Int) < (nb : Int)) = true := by simp; omega
      have hm : m ≤ 1048576 := by
        have := accI_len N k l g e
        rw [← hq, qL_length] at this
        omega
      have hsp : Mat.Sparse N k l (plL g Q m) := by rw [plL_qL, hq]; exact accI_sparse N k l g e
      have hcc := con_copyPebbles N m F T Q hN hm
      rcases con_place hp hk hl hN hm hnb e (by omega) hsp with ⟨F1, T1, hc1, hp1, hs1⟩ | ⟨F1, T1, hc1, hs1⟩
      · obtain ⟨m', F', T', Q', hrun, h1, h2⟩ := ih (e + 1) (m + 1) F1 T1 _ (by omega) hp1 (by
          simp only [accI]
          rw [← hq, ← plL_qL, if_pos hs1]
          simp only [qL, Nat.lt_irrefl, if_false, Int.toNat_natCast]
          rw [qL_congr (Q' := Q) m (fun j hj => by simp only [hj, if_true])])
        refine ⟨m', F', T', Q', fun c hc => ?_, h1, h2⟩
        refine piece_ok mixed hc (pY1t g nb N m k l e F T Q F1 T1) ?_ (hrun c hc)
        simp only [All]
        repeat' (first | exact trivial | with_reducible apply And.intro)
        all_goals (first | omega | rfl | (intros; first | assumption | exact True.intro | rfl | exact absurd (show false = true by assumption) Bool.false_ne_true | ((repeat' (first | assumption | apply anda | apply notf)); done)) | (exact hcc) | (exact hc1) | (intro i hi; simp [All]))
      · obtain ⟨m', F', T', Q', hrun, h1, h2⟩ := ih (e + 1) m F T Q (by omega) hp (by
          simp only [accI]
          rw [← hq, ← plL_qL, if_neg hs1])
        refine ⟨m', F', T', Q', fun c hc => ?_, h1, h2⟩
        refine piece_ok mixed hc (pY1f g nb N m k l e F T Q F1 T1) ?_ (hrun c hc)
        simp only [All]
        repeat' (first | exact trivial | with_reducible apply And.intro)
        all_goals (first | omega | rfl | (intros; first | assumption | exact True.intro | rfl | exact absurd (show false = true by assumption) Bool.false_ne_true | ((repeat' (first | assumption | apply anda | apply notf)); done)) | (exact hcc) | (exact hc1) | (intro i hi; simp [All]))
  obtain ⟨m', F', T', Q', hrun, h1, h2⟩ := lp1 nb 0 0 _ _ _ (by omega) (PInv.start hb) rfl
  refine ⟨m', F', T', Q', ?_, h1, h2⟩
  refine con_start Try.func140 rfl (by kernel_rfl) rfl (fun c hc => ?_)
  have lp0 : ∀ d i, i + d = N → Run Try.prog c 140 [.code (cAt (bodyOf Try.f140) [1, 1, 0, 1, 0, 0]), .inLoop (cAt (bodyOf Try.f140) [1, 1, 0, 1, 0, 0]), .inBlock 0, .code (cAt (bodyOf Try.f140) [1, 1, 1])] (SY0 g nb N k l i) (Post c (pebR N m' F' T' Q') (pebO N m' 0)) := by
    intro d
    induction d with
    | zero =>
      intro i hi
      obtain rfl : i = N := by omega
      have hd : decide ((i : Int) < (i : Int)) = false := by simp
      refine piece_ok mixed hc (pY01 g nb i k l i) ?_ (hrun c hc)
      simp only [All]
      repeat' (first | exact trivial | with_reducible apply And.intro)
      all_goals (first | omega | rfl | (intros; first | assumption | exact True.intro | rfl | exact absurd (show false = true by assumption) Bool.false_ne_true | ((repeat' (first | assumption | apply anda | apply notf)); done)) | (intro i hi; simp [All]))
    | succ d ih =>
      intro i hi
      have hd : decide ((i : Int) < (N : Int)) = true := by simp; omega
      refine piece_ok mixed hc (pY0 g nb N k l i) ?_ (ih (i + 1) (by omega))
      simp only [All]
      repeat' (first | exact trivial | with_reducible apply And.intro)
      all_goals (first | omega | rfl | (intros; first | assumption | exact True.intro | rfl | exact absurd (show false = true by assumption) Bool.false_ne_true | ((repeat' (first | assumption | apply anda | apply notf)); done)) | (intro j hj; simp [All]; done) | (intro j hj; by_cases h : j < i <;> simp [h, cvtL, cvt, tg, tru, All]))
  refine piece_ok mixed hc (pYz g nb N k l) ?_ (lp0 N 0 (by omega))
  simp only [All]
  repeat' (first | exact trivial | with_reducible apply And.intro)
  all_goals (first | omega | rfl | (intros; first | assumption | exact True.intro | rfl | exact absurd (show false = true by assumption) Bool.false_ne_true | ((repeat' (first | assumption | apply anda | apply notf)); done)) | (intro i hi; simp [All]))

end Go.Proofs.Ytgdbnnmogddkaaa.Mach
