/- What the law Rbx needs, part 4 of 6: the abstract machine and the contracts of the functions. Conditions: as each theorem says. -/
import Derived.Shelf.SlLaysF0
import Derived.Shelf.SlGeneric
import Derived.Shelf.SlSortCmp.InsertionK
import Derived.Ground.SlsfProg
import Derived.Shelf.SlSortCmp.NoneTotal
import Derived.Test.YtgdbnnmogddkaaaRbxP3
namespace Go.Proofs.Ytgdbnnmogddkaaa.Mach
open Go
set_option linter.unusedVariables false
set_option linter.unusedSimpArgs false
def SH (g : Nat → T_Bar) (nb N m : Nat) (F0 T0 F T Q : Nat → Int) (a b want : Int) : St :=
  ⟨[grG g nb N, pebD N m F0 T0 Q, .p (.int .i64 a), .p (.int .i64 b), .p (.int .i64 want), .pt 2 0 0 0, .pt 3 1 0 0, .p .any, .p .any, .p .any, .pt 3 2 0 0, .p .any, .pt 3 3 0 0] ++ List.replicate 40 anyA,
   [(0, bxG g nb N), (1, bxD N m F0 T0 Q), (2, bx0), (3, bxP N m 4), (4, iOb N F), (5, iOb m T), (6, iOb m Q)], 7⟩
def SNc (g : Nat → T_Bar) (nb N k : Nat) : St :=
  ⟨[.p .any, .p (.int .i64 k), .pt 2 0 0 0, .p .any, .pt 3 1 0 0, .p .any, .pt 3 2 0 0] ++ List.replicate 27 anyA,
   [(0, bxG g nb N), (1, bx0), (2, ⟨true, 3, 1, fun _ => [.ar 1 3 0 0, .ar 1 4 0 0, .ar 1 5 0 0]⟩), (3, iOb 0 (fun _ => k)), (4, iOb 0 (fun _ => 0)), (5, iOb 0 (fun _ => 0))], 6⟩
def SN0 (g : Nat → T_Bar) (nb N k i : Nat) : St :=
  ⟨[.p .any, .p (.int .i64 k), .pt 2 0 0 0, .p .any, .pt 3 1 0 0, .p .any, .pt 3 2 0 0, .p (.int .i64 i)] ++ List.replicate 26 anyA,
   [(0, bxG g nb N), (1, bx0), (2, ⟨true, 3, 1, fun _ => [.ar 1 3 0 i, .ar 1 4 0 0, .ar 1 5 0 0]⟩), (3, iOb i (fun _ => k)), (4, iOb 0 (fun _ => 0)), (5, iOb 0 (fun _ => 0))], 6⟩
def SR (g : Nat → T_Bar) (nb N m i : Nat) (F T Q : Nat → Int) : St :=
  ⟨[grG g nb N, .pt 2 0 0 0, .p .any, .pt 3 1 0 0, .p .any, .p (.int .i64 m), .p (.int .i64 i)] ++ List.replicate 77 anyA,
   [(0, bxG g nb N), (1, bxP N m 2), (2, iOb N F), (3, iOb m T), (4, iOb m Q)], 5⟩
theorem qHz (g : Nat → T_Bar) (nb N m : Nat) (F T Q : Nat → Int) (a b want : Int) :
    pieceOb Try.prog 0 [.reg [oT, oT, oT, oT], .reg [oT, ⟨true, (some ⟨[], [], 1, pebR N m F T Q, pebO N m 0⟩), none⟩, oT, oT], .head] [.code (bodyOf Try.f138)] (start Try.f138 [] 0 [grG g nb N, pebD N m F T Q, .p (.int .i64 a), .p (.int .i64 b), .p (.int .i64 want)]) [0, 32, 64, 192, 160, 161, 162] 1 (SH g nb N m F T F T Q a b want) =
    some ([.code (cAt (bodyOf Try.f138) [1, 1, 0, 0, 0]), .inLoop (cAt (bodyOf Try.f138) [1, 1, 0, 0, 0]), .inBlock 0, .code (cAt (bodyOf Try.f138) [1, 1, 1])], [((0 : Nat) < 1),
  Con Try.prog 156 0 [] [.agg [.p (.seq true 1 N (fun i => [.int .i64 (F i)])), .p (.seq true 1 m (fun i => [.int .i64 (T i)])), .p (.seq true 1 m (fun i => [.int .i64 (Q i)]))]] [(0, ⟨false, 1, N, (fun i => [.p (.int .i64 (F i))])⟩), (1, ⟨false, 1, m, (fun i => [.p (.int .i64 (T i))])⟩), (2, ⟨false, 1, m, (fun i => [.p (.int .i64 (Q i))])⟩)] (.agg [.ar 1 0 0 N, .ar 1 1 0 m, .ar 1 2 0 m]),
  ((0 : Nat) < 1),
  ((true = true) → ((1 : Nat) = 1)),
  (((↑N : Int) : Int) = (↑N : Int)),
  ((nb : Nat) = nb),
  (∀ i : Nat, (((i : Nat) < nb) → (([.int .i64 ((g i).1), .int .i64 ((g i).2.1)] : List PV) = [.int .i64 ((g i).1), .int .i64 ((g i).2.1)]))),
  ((N : Nat) = N),
  (∀ i : Nat, (((i : Nat) < N) → (([.int .i64 (F i)] : List PV) = [.int .i64 (F i)]))),
  ((m : Nat) = m),
  (∀ i : Nat, (((i : Nat) < m) → (([.int .i64 (T i)] : List PV) = [.int .i64 (T i)]))),
  ((m : Nat) = m),
  (∀ i : Nat, (((i : Nat) < m) → (([.int .i64 (Q i)] : List PV) = [.int .i64 (Q i)]))),
  ((a : Int) = a),
  ((b : Int) = b),
  ((want : Int) = want),
  ((0 : Nat) = 0),
  ((0 : Nat) = 0),
  ((0 : Nat) = 0),
  ((0 : Nat) = 0),
  ((([AV.p (PV.int IntKind.i64 (↑N : Int)), brL g nb].length) : Nat) = 2),
  ((1 : Nat) ≤ 1),
  ((1 : Nat) ≤ 1),
  (((↑N : Int) : Int) = (↑N : Int)),
  ((nb : Nat) = nb),
  (∀ i : Nat, (((i : Nat) < nb) → (([.int .i64 ((g i).1), .int .i64 ((g i).2.1)] : List PV) = [.int .i64 ((g i).1), .int .i64 ((g i).2.1)]))),
  ((([inD N F, inD m T, inD m Q].length) : Nat) = 3),
  ((1 : Nat) ≤ 1),
  ((1 : Nat) ≤ 1),
  ((N : Nat) = N),
  (∀ i : Nat, (((i : Nat) < N) → (([.int .i64 (F i)] : List PV) = [.int .i64 (F i)]))),
  ((m : Nat) = m),
  (∀ i : Nat, (((i : Nat) < m) → (([.int .i64 (T i)] : List PV) = [.int .i64 (T i)]))),
  ((m : Nat) = m),
  (∀ i : Nat, (((i : Nat) < m) → (([.int .i64 (Q i)] : List PV) = [.int .i64 (Q i)]))),
  ((((List.map (fun v => AV.p (absV v)) [Value.slice none 0 0, Value.slice none 0 0, Value.slice none 0 0]).length) : Nat) = 3),
  ((1 : Nat) ≤ 1),
  ((1 : Nat) ≤ 1),
  ((((List.map (fun v => AV.p (absV v)) [Value.slice none 0 0, Value.slice none 0 0, Value.slice none 0 0]).length) : Nat) = 3),
  ((1 : Nat) ≤ 1),
  ((1 : Nat) ≤ 1),
  ((0 : Nat) = 0),
  ((N : Nat) = N),
  ((0 : Nat) = 0),
  ((m : Nat) = m),
  ((0 : Nat) = 0),
  ((m : Nat) = m),
  ((1 : Nat) = 1),
  ((N : Nat) ≤ N),
  (∀ i : Nat, (((i : Nat) < N) → (All [] ∧ (([.p (.int .i64 (F i))] : List AV) = [.p (.int .i64 (F i))])))),
  ((1 : Nat) = 1),
  ((m : Nat) ≤ m),
  (∀ i : Nat, (((i : Nat) < m) → (All [] ∧ (([.p (.int .i64 (T i))] : List AV) = [.p (.int .i64 (T i))])))),
  ((1 : Nat) = 1),
  ((m : Nat) ≤ m),
  (∀ i : Nat, (((i : Nat) < m) → (All [] ∧ (([.p (.int .i64 (Q i))] : List AV) = [.p (.int .i64 (Q i))]))))]) := by kernel_rfl
theorem qHa (g : Nat → T_Bar) (nb N m : Nat) (F0 T0 F T Q F1 T1 : Nat → Int) (a b want : Int) :
    pieceOb Try.prog 0 [.reg [oT, oT, oT, oT, oT, oT, oT, oT, oT, oT, oT, oT, oT], .dec true, .reg [oT, oT, oT, oT, ⟨true, (some ⟨[4, 5, 6], [], 1, pebR3 N m F T Q F1 T1 Q, .tup [pebO N m 3, .p (.bool true)]⟩), none⟩, oT, oT, oT, oT, oT, oT], .reg [oT, oT], .dec false, .reg [oT, oT], .dec false, .reg [oT, oT], .head] [.code (cAt (bodyOf Try.f138) [1, 1, 0, 0, 0]), .inLoop (cAt (bodyOf Try.f138) [1, 1, 0, 0, 0]), .inBlock 0, .code (cAt (bodyOf Try.f138) [1, 1, 1])] (SH g nb N m F0 T0 F T Q a b want) [0, 1, 2, 3, 551, 552, 553] 1 (SH g nb N m F0 T0 F1 T1 Q a b want) =
    some ([.code (cAt (bodyOf Try.f138) [1, 1, 0, 0, 0]), .inLoop (cAt (bodyOf Try.f138) [1, 1, 0, 0, 0]), .inBlock 0, .code (cAt (bodyOf Try.f138) [1, 1, 1])], [((0 : Nat) < 1),
  ((0 : Int) ≤ a),
  ((a : Int) < (↑N : Int)),
  ((a.toNat : Nat) < N),
  ((0 : Nat) < 1),
  ((0 : Int) ≤ b),
  ((b : Int) < (↑N : Int)),
  ((b.toNat : Nat) < N),
  (((-9223372036854775808) : Int) ≤ (F a.toNat + F b.toNat)),
  (((F a.toNat + F b.toNat) : Int) ≤ 9223372036854775807),
  ((decide (F (a.toNat + 0) + F (b.toNat + 0) < want)) = true),
  ((0 : Nat) < 1),
  ((0 : Nat) < 1),
  (∀ i : Nat, (((i : Nat) < N) → All [])),
  (∀ i : Nat, (((i : Nat) < m) → All [])),
  (∀ i : Nat, (((i : Nat) < m) → All [])),
  Con Try.prog 157 3 [(0, ⟨false, 1, N, (fun i => [.p (.int .i64 (F i))])⟩), (1, ⟨false, 1, m, (fun i => [.p (.int .i64 (T i))])⟩), (2, ⟨false, 1, m, (fun i => [.p (.int .i64 (Q i))])⟩)] [.agg [.p (.int .i64 (↑N : Int)), .p (.seq true 2 nb (fun i => [.int .i64 ((g i).1), .int .i64 ((g i).2.1)]))], .agg [.ar 1 0 0 N, .ar 1 1 0 m, .ar 1 2 0 m], .p (.int .i64 a), .p (.int .i64 b)] [(0, ⟨false, 1, N, (fun i => [.p (.int .i64 (F i))])⟩), (1, ⟨false, 1, m, (fun i => [.p (.int .i64 (T i))])⟩), (2, ⟨false, 1, m, (fun i => [.p (.int .i64 (Q i))])⟩), (3, ⟨false, 1, N, (fun i => [.p (.int .i64 (F1 i))])⟩), (4, ⟨false, 1, m, (fun i => [.p (.int .i64 (T1 i))])⟩), (5, ⟨false, 1, m, (fun i => [.p (.int .i64 (Q i))])⟩)] (.tup [.agg [.ar 1 3 0 N, .ar 1 4 0 m, .ar 1 5 0 m], .p (.bool true)]),
  ((0 : Nat) < 1),
  ((true = true) → ((1 : Nat) = 1)),
  ((!true) = false),
  ((!true) = false),
  ((0 : Nat) < 1),
  ((0 : Nat) < 1),
  ((true = true) → ((1 : Nat) = 1)),
  (((↑N : Int) : Int) = (↑N : Int)),
  ((nb : Nat) = nb),
  (∀ i : Nat, (((i : Nat) < nb) → (([.int .i64 ((g i).1), .int .i64 ((g i).2.1)] : List PV) = [.int .i64 ((g i).1), .int .i64 ((g i).2.1)]))),
  ((N : Nat) = N),
  (∀ i : Nat, (((i : Nat) < N) → (([.int .i64 (F0 i)] : List PV) = [.int .i64 (F0 i)]))),
  ((m : Nat) = m),
  (∀ i : Nat, (((i : Nat) < m) → (([.int .i64 (T0 i)] : List PV) = [.int .i64 (T0 i)]))),
  ((m : Nat) = m),
  (∀ i : Nat, (((i : Nat) < m) → (([.int .i64 (Q i)] : List PV) = [.int .i64 (Q i)]))),
  ((a : Int) = a),
  ((b : Int) = b),
  ((want : Int) = want),
  ((0 : Nat) = 0),
  ((0 : Nat) = 0),
  ((0 : Nat) = 0),
  ((0 : Nat) = 0),
  ((2 : Nat) = 2),
  ((1 : Nat) ≤ 1),
  ((1 : Nat) ≤ 1),
  (((↑N : Int) : Int) = (↑N : Int)),
  ((nb : Nat) = nb),
  (∀ i : Nat, (((i : Nat) < nb) → (([.int .i64 ((g i).1), .int .i64 ((g i).2.1)] : List PV) = [.int .i64 ((g i).1), .int .i64 ((g i).2.1)]))),
  ((3 : Nat) = 3),
  ((1 : Nat) ≤ 1),
  ((1 : Nat) ≤ 1),
  ((N : Nat) = N),
  (∀ i : Nat, (((i : Nat) < N) → (([.int .i64 (F0 i)] : List PV) = [.int .i64 (F0 i)]))),
  ((m : Nat) = m),
  (∀ i : Nat, (((i : Nat) < m) → (([.int .i64 (T0 i)] : List PV) = [.int .i64 (T0 i)]))),
  ((m : Nat) = m),
  (∀ i : Nat, (((i : Nat) < m) → (([.int .i64 (Q i)] : List PV) = [.int .i64 (Q i)]))),
  ((3 : Nat) = 3),
  ((1 : Nat) ≤ 1),
  ((1 : Nat) ≤ 1),
  ((3 : Nat) = 3),
  ((1 : Nat) ≤ 1),
  ((1 : Nat) ≤ 1),
  ((0 : Nat) = 0),
  ((N : Nat) = N),
  ((0 : Nat) = 0),
  ((m : Nat) = m),
  ((0 : Nat) = 0),
  ((m : Nat) = m),
  ((1 : Nat) = 1),
  ((N : Nat) ≤ N),
  (∀ i : Nat, (((i : Nat) < N) → (All [] ∧ (([.p (.int .i64 (F1 i))] : List AV) = [.p (.int .i64 (F1 i))])))),
  ((1 : Nat) = 1),
  ((m : Nat) ≤ m),
  (∀ i : Nat, (((i : Nat) < m) → (All [] ∧ (([.p (.int .i64 (T1 i))] : List AV) = [.p (.int .i64 (T1 i))])))),
  ((1 : Nat) = 1),
  ((m : Nat) ≤ m),
  (∀ i : Nat, (((i : Nat) < m) → (All [] ∧ (([.p (.int .i64 (Q i))] : List AV) = [.p (.int .i64 (Q i))]))))]) := by kernel_rfl
theorem qHb (g : Nat → T_Bar) (nb N m : Nat) (F0 T0 F T Q F1 T1 : Nat → Int) (a b want : Int) :
    pieceOb Try.prog 0 [.reg [oT, oT, oT, oT, oT, oT, oT, oT, oT, oT, oT, oT, oT], .dec true, .reg [oT, oT, oT, oT, ⟨true, (some ⟨[4, 5, 6], [], 1, pebR N m F T Q, .tup [pebO N m 0, .p (.bool false)]⟩), none⟩, oT, oT, oT, oT, oT, oT], .reg [oT, oT], .dec true, .reg [oT, oT, oT, oT, ⟨true, (some ⟨[4, 5, 6], [], 1, pebR3 N m F T Q F1 T1 Q, .tup [pebO N m 3, .p (.bool true)]⟩), none⟩, oT, oT, oT, oT, oT], .reg [oT, oT], .dec false, .reg [oT, oT], .head] [.code (cAt (bodyOf Try.f138) [1, 1, 0, 0, 0]), .inLoop (cAt (bodyOf Try.f138) [1, 1, 0, 0, 0]), .inBlock 0, .code (cAt (bodyOf Try.f138) [1, 1, 1])] (SH g nb N m F0 T0 F T Q a b want) [0, 1, 2, 3, 967, 968, 969] 1 (SH g nb N m F0 T0 F1 T1 Q a b want) =
    some ([.code (cAt (bodyOf Try.f138) [1, 1, 0, 0, 0]), .inLoop (cAt (bodyOf Try.f138) [1, 1, 0, 0, 0]), .inBlock 0, .code (cAt (bodyOf Try.f138) [1, 1, 1])], [((0 : Nat) < 1),
  ((0 : Int) ≤ a),
  ((a : Int) < (↑N : Int)),
  ((a.toNat : Nat) < N),
  ((0 : Nat) < 1),
  ((0 : Int) ≤ b),
  ((b : Int) < (↑N : Int)),
  ((b.toNat : Nat) < N),
  (((-9223372036854775808) : Int) ≤ (F a.toNat + F b.toNat)),
  (((F a.toNat + F b.toNat) : Int) ≤ 9223372036854775807),
  ((decide (F (a.toNat + 0) + F (b.toNat + 0) < want)) = true),
  ((0 : Nat) < 1),
  ((0 : Nat) < 1),
  (∀ i : Nat, (((i : Nat) < N) → All [])),
  (∀ i : Nat, (((i : Nat) < m) → All [])),
  (∀ i : Nat, (((i : Nat) < m) → All [])),
  Con Try.prog 157 3 [(0, ⟨false, 1, N, (fun i => [.p (.int .i64 (F i))])⟩), (1, ⟨false, 1, m, (fun i => [.p (.int .i64 (T i))])⟩), (2, ⟨false, 1, m, (fun i => [.p (.int .i64 (Q i))])⟩)] [.agg [.p (.int .i64 (↑N : Int)), .p (.seq true 2 nb (fun i => [.int .i64 ((g i).1), .int .i64 ((g i).2.1)]))], .agg [.ar 1 0 0 N, .ar 1 1 0 m, .ar 1 2 0 m], .p (.int .i64 a), .p (.int .i64 b)] [(0, ⟨false, 1, N, (fun i => [.p (.int .i64 (F i))])⟩), (1, ⟨false, 1, m, (fun i => [.p (.int .i64 (T i))])⟩), (2, ⟨false, 1, m, (fun i => [.p (.int .i64 (Q i))])⟩)] (.tup [.agg [.ar 1 0 0 N, .ar 1 1 0 m, .ar 1 2 0 m], .p (.bool false)]),
  ((0 : Nat) < 1),
  ((true = true) → ((1 : Nat) = 1)),
  ((!false) = true),
  ((0 : Nat) < 1),
  ((0 : Nat) < 1),
  (∀ i : Nat, (((i : Nat) < N) → All [])),
  (∀ i : Nat, (((i : Nat) < m) → All [])),
  (∀ i : Nat, (((i : Nat) < m) → All [])),
  Con Try.prog 157 3 [(0, ⟨false, 1, N, (fun i => [.p (.int .i64 (F i))])⟩), (1, ⟨false, 1, m, (fun i => [.p (.int .i64 (T i))])⟩), (2, ⟨false, 1, m, (fun i => [.p (.int .i64 (Q i))])⟩)] [.agg [.p (.int .i64 (↑N : Int)), .p (.seq true 2 nb (fun i => [.int .i64 ((g i).1), .int .i64 ((g i).2.1)]))], .agg [.ar 1 0 0 N, .ar 1 1 0 m, .ar 1 2 0 m], .p (.int .i64 b), .p (.int .i64 a)] [(0, ⟨false, 1, N, (fun i => [.p (.int .i64 (F i))])⟩), (1, ⟨false, 1, m, (fun i => [.p (.int .i64 (T i))])⟩), (2, ⟨false, 1, m, (fun i => [.p (.int .i64 (Q i))])⟩), (3, ⟨false, 1, N, (fun i => [.p (.int .i64 (F1 i))])⟩), (4, ⟨false, 1, m, (fun i => [.p (.int .i64 (T1 i))])⟩), (5, ⟨false, 1, m, (fun i => [.p (.int .i64 (Q i))])⟩)] (.tup [.agg [.ar 1 3 0 N, .ar 1 4 0 m, .ar 1 5 0 m], .p (.bool true)]),
  ((0 : Nat) < 1),
  ((true = true) → ((1 : Nat) = 1)),
  ((!true) = false),
  ((0 : Nat) < 1),
  ((0 : Nat) < 1),
  ((true = true) → ((1 : Nat) = 1)),
  (((↑N : Int) : Int) = (↑N : Int)),
  ((nb : Nat) = nb),
  (∀ i : Nat, (((i : Nat) < nb) → (([.int .i64 ((g i).1), .int .i64 ((g i).2.1)] : List PV) = [.int .i64 ((g i).1), .int .i64 ((g i).2.1)]))),
  ((N : Nat) = N),
  (∀ i : Nat, (((i : Nat) < N) → (([.int .i64 (F0 i)] : List PV) = [.int .i64 (F0 i)]))),
  ((m : Nat) = m),
  (∀ i : Nat, (((i : Nat) < m) → (([.int .i64 (T0 i)] : List PV) = [.int .i64 (T0 i)]))),
  ((m : Nat) = m),
  (∀ i : Nat, (((i : Nat) < m) → (([.int .i64 (Q i)] : List PV) = [.int .i64 (Q i)]))),
  ((a : Int) = a),
  ((b : Int) = b),
  ((want : Int) = want),
  ((0 : Nat) = 0),
  ((0 : Nat) = 0),
  ((0 : Nat) = 0),
  ((0 : Nat) = 0),
  ((2 : Nat) = 2),
  ((1 : Nat) ≤ 1),
  ((1 : Nat) ≤ 1),
  (((↑N : Int) : Int) = (↑N : Int)),
  ((nb : Nat) = nb),
  (∀ i : Nat, (((i : Nat) < nb) → (([.int .i64 ((g i).1), .int .i64 ((g i).2.1)] : List PV) = [.int .i64 ((g i).1), .int .i64 ((g i).2.1)]))),
  ((3 : Nat) = 3),
  ((1 : Nat) ≤ 1),
  ((1 : Nat) ≤ 1),
  ((N : Nat) = N),
  (∀ i : Nat, (((i : Nat) < N) → (([.int .i64 (F0 i)] : List PV) = [.int .i64 (F0 i)]))),
  ((m : Nat) = m),
  (∀ i : Nat, (((i : Nat) < m) → (([.int .i64 (T0 i)] : List PV) = [.int .i64 (T0 i)]))),
  ((m : Nat) = m),
  (∀ i : Nat, (((i : Nat) < m) → (([.int .i64 (Q i)] : List PV) = [.int .i64 (Q i)]))),
  ((3 : Nat) = 3),
  ((1 : Nat) ≤ 1),
  ((1 : Nat) ≤ 1),
  ((3 : Nat) = 3),
  ((1 : Nat) ≤ 1),
  ((1 : Nat) ≤ 1),
  ((0 : Nat) = 0),
  ((N : Nat) = N),
  ((0 : Nat) = 0),
  ((m : Nat) = m),
  ((0 : Nat) = 0),
  ((m : Nat) = m),
  ((1 : Nat) = 1),
  ((N : Nat) ≤ N),
  (∀ i : Nat, (((i : Nat) < N) → (All [] ∧ (([.p (.int .i64 (F1 i))] : List AV) = [.p (.int .i64 (F1 i))])))),
  ((1 : Nat) = 1),
  ((m : Nat) ≤ m),
  (∀ i : Nat, (((i : Nat) < m) → (All [] ∧ (([.p (.int .i64 (T1 i))] : List AV) = [.p (.int .i64 (T1 i))])))),
  ((1 : Nat) = 1),
  ((m : Nat) ≤ m),
  (∀ i : Nat, (((i : Nat) < m) → (All [] ∧ (([.p (.int .i64 (Q i))] : List AV) = [.p (.int .i64 (Q i))]))))]) := by kernel_rfl
theorem qHc (g : Nat → T_Bar) (nb N m : Nat) (F0 T0 F T Q : Nat → Int) (a b want : Int) :
    pathOb Try.prog Try.f138 0 [.reg [oT, oT, oT, oT, oT, oT, oT, oT, oT, oT, oT, oT, oT], .dec true, .reg [oT, oT, oT, oT, ⟨true, (some ⟨[4, 5, 6], [], 1, pebR N m F T Q, .tup [pebO N m 0, .p (.bool false)]⟩), none⟩, oT, oT, oT, oT, oT, oT], .reg [oT, oT], .dec true, .reg [oT, oT, oT, oT, ⟨true, (some ⟨[4, 5, 6], [], 1, pebR N m F T Q, .tup [pebO N m 0, .p (.bool false)]⟩), none⟩, oT, oT, oT, oT, oT], .reg [oT, oT], .dec true, .reg [oT, oT, oT]] [.code (cAt (bodyOf Try.f138) [1, 1, 0, 0, 0]), .inLoop (cAt (bodyOf Try.f138) [1, 1, 0, 0, 0]), .inBlock 0, .code (cAt (bodyOf Try.f138) [1, 1, 1])] (SH g nb N m F0 T0 F T Q a b want) [4, 5, 6] 1 (pebR N m F T Q) (.tup [pebO N m 0, .p (.bool false)]) =
    some [((0 : Nat) < 1),
  ((0 : Int) ≤ a),
  ((a : Int) < (↑N : Int)),
  ((a.toNat : Nat) < N),
  ((0 : Nat) < 1),
  ((0 : Int) ≤ b),
  ((b : Int) < (↑N : Int)),
  ((b.toNat : Nat) < N),
  (((-9223372036854775808) : Int) ≤ (F a.toNat + F b.toNat)),
  (((F a.toNat + F b.toNat) : Int) ≤ 9223372036854775807),
  ((decide (F (a.toNat + 0) + F (b.toNat + 0) < want)) = true),
  ((0 : Nat) < 1),
  ((0 : Nat) < 1),
  (∀ i : Nat, (((i : Nat) < N) → All [])),
  (∀ i : Nat, (((i : Nat) < m) → All [])),
  (∀ i : Nat, (((i : Nat) < m) → All [])),
  Con Try.prog 157 3 [(0, ⟨false, 1, N, (fun i => [.p (.int .i64 (F i))])⟩), (1, ⟨false, 1, m, (fun i => [.p (.int .i64 (T i))])⟩), (2, ⟨false, 1, m, (fun i => [.p (.int .i64 (Q i))])⟩)] [.agg [.p (.int .i64 (↑N : Int)), .p (.seq true 2 nb (fun i => [.int .i64 ((g i).1), .int .i64 ((g i).2.1)]))], .agg [.ar 1 0 0 N, .ar 1 1 0 m, .ar 1 2 0 m], .p (.int .i64 a), .p (.int .i64 b)] [(0, ⟨false, 1, N, (fun i => [.p (.int .i64 (F i))])⟩), (1, ⟨false, 1, m, (fun i => [.p (.int .i64 (T i))])⟩), (2, ⟨false, 1, m, (fun i => [.p (.int .i64 (Q i))])⟩)] (.tup [.agg [.ar 1 0 0 N, .ar 1 1 0 m, .ar 1 2 0 m], .p (.bool false)]),
  ((0 : Nat) < 1),
  ((true = true) → ((1 : Nat) = 1)),
  ((!false) = true),
  ((0 : Nat) < 1),
  ((0 : Nat) < 1),
  (∀ i : Nat, (((i : Nat) < N) → All [])),
  (∀ i : Nat, (((i : Nat) < m) → All [])),
  (∀ i : Nat, (((i : Nat) < m) → All [])),
  Con Try.prog 157 3 [(0, ⟨false, 1, N, (fun i => [.p (.int .i64 (F i))])⟩), (1, ⟨false, 1, m, (fun i => [.p (.int .i64 (T i))])⟩), (2, ⟨false, 1, m, (fun i => [.p (.int .i64 (Q i))])⟩)] [.agg [.p (.int .i64 (↑N : Int)), .p (.seq true 2 nb (fun i => [.int .i64 ((g i).1), .int .i64 ((g i).2.1)]))], .agg [.ar 1 0 0 N, .ar 1 1 0 m, .ar 1 2 0 m], .p (.int .i64 b), .p (.int .i64 a)] [(0, ⟨false, 1, N, (fun i => [.p (.int .i64 (F i))])⟩), (1, ⟨false, 1, m, (fun i => [.p (.int .i64 (T i))])⟩), (2, ⟨false, 1, m, (fun i => [.p (.int .i64 (Q i))])⟩)] (.tup [.agg [.ar 1 0 0 N, .ar 1 1 0 m, .ar 1 2 0 m], .p (.bool false)]),
  ((0 : Nat) < 1),
  ((true = true) → ((1 : Nat) = 1)),
  ((!false) = true),
  ((0 : Nat) < 1),
  ((0 : Nat) < 1),
  ((true = true) → ((1 : Nat) = 1)),
  ((0 : Nat) < 1),
  ((0 : Nat) = 0),
  ((N : Nat) = N),
  ((0 : Nat) = 0),
  ((m : Nat) = m),
  ((0 : Nat) = 0),
  ((m : Nat) = m),
  (false = false),
  ((1 : Nat) = 1),
  ((N : Nat) ≤ N),
  (∀ i : Nat, (((i : Nat) < N) → (All [] ∧ (([.p (.int .i64 (F i))] : List AV) = [.p (.int .i64 (F i))])))),
  ((1 : Nat) = 1),
  ((m : Nat) ≤ m),
  (∀ i : Nat, (((i : Nat) < m) → (All [] ∧ (([.p (.int .i64 (T i))] : List AV) = [.p (.int .i64 (T i))])))),
  ((1 : Nat) = 1),
  ((m : Nat) ≤ m),
  (∀ i : Nat, (((i : Nat) < m) → (All [] ∧ (([.p (.int .i64 (Q i))] : List AV) = [.p (.int .i64 (Q i))])))),
  (∀ i : Nat, (((i : Nat) < N) → All [])),
  (∀ i : Nat, (((i : Nat) < m) → All [])),
  (∀ i : Nat, (((i : Nat) < m) → All []))] := by kernel_rfl
theorem qHd (g : Nat → T_Bar) (nb N m : Nat) (F0 T0 F T Q : Nat → Int) (a b want : Int) :
    pathOb Try.prog Try.f138 0 [.reg [oT, oT, oT, oT, oT, oT, oT, oT, oT, oT, oT, oT, oT], .dec false, .reg [oT, oT, oT]] [.code (cAt (bodyOf Try.f138) [1, 1, 0, 0, 0]), .inLoop (cAt (bodyOf Try.f138) [1, 1, 0, 0, 0]), .inBlock 0, .code (cAt (bodyOf Try.f138) [1, 1, 1])] (SH g nb N m F0 T0 F T Q a b want) [4, 5, 6] 1 (pebR N m F T Q) (.tup [pebO N m 0, .p (.bool true)]) =
    some [((0 : Nat) < 1),
  ((0 : Int) ≤ a),
  ((a : Int) < (↑N : Int)),
  ((a.toNat : Nat) < N),
  ((0 : Nat) < 1),
  ((0 : Int) ≤ b),
  ((b : Int) < (↑N : Int)),
  ((b.toNat : Nat) < N),
  (((-9223372036854775808) : Int) ≤ (F a.toNat + F b.toNat)),
  (((F a.toNat + F b.toNat) : Int) ≤ 9223372036854775807),
  ((decide (F (a.toNat + 0) + F (b.toNat + 0) < want)) = false),
  ((0 : Nat) < 1),
  ((0 : Nat) < 1),
  ((true = true) → ((1 : Nat) = 1)),
  ((0 : Nat) < 1),
  ((0 : Nat) = 0),
  ((N : Nat) = N),
  ((0 : Nat) = 0),
  ((m : Nat) = m),
  ((0 : Nat) = 0),
  ((m : Nat) = m),
  (true = true),
  ((1 : Nat) = 1),
  ((N : Nat) ≤ N),
  (∀ i : Nat, (((i : Nat) < N) → (All [] ∧ (([.p (.int .i64 (F i))] : List AV) = [.p (.int .i64 (F i))])))),
  ((1 : Nat) = 1),
  ((m : Nat) ≤ m),
  (∀ i : Nat, (((i : Nat) < m) → (All [] ∧ (([.p (.int .i64 (T i))] : List AV) = [.p (.int .i64 (T i))])))),
  ((1 : Nat) = 1),
  ((m : Nat) ≤ m),
  (∀ i : Nat, (((i : Nat) < m) → (All [] ∧ (([.p (.int .i64 (Q i))] : List AV) = [.p (.int .i64 (Q i))])))),
  (∀ i : Nat, (((i : Nat) < N) → All [])),
  (∀ i : Nat, (((i : Nat) < m) → All [])),
  (∀ i : Nat, (((i : Nat) < m) → All []))] := by kernel_rfl
theorem qNz (g : Nat → T_Bar) (N k : Nat) :
    pieceOb Try.prog 0 [.reg [oT, oT, oT], .reg [oT, oT, oT, oT, oT, oT], .head] [.code (bodyOf Try.f137)] (start Try.f137 [] 0 [.agg [.p (.int .i64 N), .p .nil], .p (.int .i64 k)]) [0, 32, 224, 96, 128, 160] 1 (SNc g 0 N k) =
    some ([.code (cAt (bodyOf Try.f137) [1, 1, 0, 0]), .code (cAt (bodyOf Try.f137) [1, 1, 0, 1]), .code (cAt (bodyOf Try.f137) [1, 1, 1])], [((0 : Nat) < 1),
  ((true = true) → ((1 : Nat) = 1)),
  (((↑k : Int) : Int) = (↑k : Int)),
  ((0 : Nat) = 0),
  ((0 : Nat) = 0),
  ((0 : Nat) = 0),
  ((([AV.p (PV.int IntKind.i64 (↑N : Int)), AV.p PV.nil].length) : Nat) = 2),
  ((1 : Nat) ≤ 1),
  ((1 : Nat) ≤ 1),
  (((↑N : Int) : Int) = (↑N : Int)),
  ((0 : Nat) = 0),
  ((((List.map (fun v => AV.p (absV v)) [Value.slice none 0 0, Value.slice none 0 0, Value.slice none 0 0]).length) : Nat) = 3),
  ((1 : Nat) ≤ 1),
  ((1 : Nat) ≤ 1),
  ((((List.map (fun v => AV.p (absV v)) [Value.slice none 0 0, Value.slice none 0 0, Value.slice none 0 0]).length) : Nat) = 3),
  ((1 : Nat) ≤ 1),
  ((1 : Nat) ≤ 1),
  ((0 : Nat) = 0),
  ((0 : Nat) = 0),
  ((0 : Nat) = 0),
  ((0 : Nat) = 0),
  ((0 : Nat) = 0),
  ((0 : Nat) = 0),
  ((1 : Nat) = 1),
  ((0 : Nat) ≤ 0),
  (∀ i : Nat, (((i : Nat) < 0) → (All [] ∧ (([.p .any] : List AV) = [.p (.int .i64 (↑k : Int))])))),
  ((1 : Nat) = 1),
  ((0 : Nat) ≤ 0),
  (∀ i : Nat, (((i : Nat) < 0) → (All [] ∧ (([.p .any] : List AV) = [.p (.int .i64 0)])))),
  ((1 : Nat) = 1),
  ((0 : Nat) ≤ 0),
  (∀ i : Nat, (((i : Nat) < 0) → (All [] ∧ (([.p .any] : List AV) = [.p (.int .i64 0)]))))]) := by kernel_rfl
theorem qNa (g : Nat → T_Bar) (nb N k : Nat) :
    pieceOb Try.prog 0 [.reg [oT, ⟨true, (some ⟨[], [], 1, [], .p (.bool true)⟩), none⟩, oT, oT, oT, ⟨true, (some ⟨[], [], 1, [], .p (.bool true)⟩), none⟩, oT, oT], .dec false, .reg [oT], .head] [.code (cAt (bodyOf Try.f137) [1, 1, 0, 0]), .code (cAt (bodyOf Try.f137) [1, 1, 0, 1]), .code (cAt (bodyOf Try.f137) [1, 1, 1])] (SNc g nb N k) [0, 1, 2, 3, 4, 5] 1 (SN0 g nb N k 0) =
    some ([.code (cAt (bodyOf Try.f137) [1, 1, 1, 0, 1, 0, 0]), .inLoop (cAt (bodyOf Try.f137) [1, 1, 1, 0, 1, 0, 0]), .inBlock 0, .code (cAt (bodyOf Try.f137) [1, 1, 1, 1])], [((0 : Nat) < 1),
  Con Try.prog 73 0 [] [.agg [.p (.int .i64 (↑N : Int)), .p (.seq true 2 nb (fun i => [.int .i64 ((g i).1), .int .i64 ((g i).2.1)]))]] [] (.p (.bool true)),
  (((!!true) = true) → ((!!true) = true)),
  (((!!true) = true) → Con Try.prog 112 0 [] [.p (.int .i64 (↑k : Int)), .p (.int .i64 1), .p (.int .i64 3)] [] (.p (.bool true))),
  (((!!true) = true) → ((!!true) = true)),
  (((!true) = false) → ((!!true) = true)),
  ((bif !true then true else !true) = false),
  (((↑k : Int) : Int) = (↑k : Int)),
  ((0 : Nat) = 0),
  ((0 : Nat) = 0),
  ((0 : Nat) = 0),
  ((0 : Int) = (↑0 : Int)),
  ((2 : Nat) = 2),
  ((1 : Nat) ≤ 1),
  ((1 : Nat) ≤ 1),
  (((↑N : Int) : Int) = (↑N : Int)),
  ((nb : Nat) = nb),
  (∀ i : Nat, (((i : Nat) < nb) → (([.int .i64 ((g i).1), .int .i64 ((g i).2.1)] : List PV) = [.int .i64 ((g i).1), .int .i64 ((g i).2.1)]))),
  ((3 : Nat) = 3),
  ((1 : Nat) ≤ 1),
  ((1 : Nat) ≤ 1),
  ((3 : Nat) = 3),
  ((1 : Nat) ≤ 1),
  ((1 : Nat) ≤ 1),
  ((0 : Nat) = 0),
  ((0 : Nat) = 0),
  ((0 : Nat) = 0),
  ((0 : Nat) = 0),
  ((0 : Nat) = 0),
  ((0 : Nat) = 0),
  ((1 : Nat) = 1),
  ((0 : Nat) ≤ 0),
  (∀ i : Nat, (((i : Nat) < 0) → (All [] ∧ (([.p (.int .i64 (↑k : Int))] : List AV) = [.p (.int .i64 (↑k : Int))])))),
  ((1 : Nat) = 1),
  ((0 : Nat) ≤ 0),
  (∀ i : Nat, (((i : Nat) < 0) → (All [] ∧ (([.p (.int .i64 0)] : List AV) = [.p (.int .i64 0)])))),
  ((1 : Nat) = 1),
  ((0 : Nat) ≤ 0),
  (∀ i : Nat, (((i : Nat) < 0) → (All [] ∧ (([.p (.int .i64 0)] : List AV) = [.p (.int .i64 0)]))))]) := by kernel_rfl
theorem qNl (g : Nat → T_Bar) (nb N k i : Nat) :
    pieceOb Try.prog 0 [.reg [oT, oT, oT, oT], .dec true, .reg [oT, oT, oT, oT, oT, oT, oT], .reg [oT, oT, oT], .head] [.code (cAt (bodyOf Try.f137) [1, 1, 1, 0, 1, 0, 0]), .inLoop (cAt (bodyOf Try.f137) [1, 1, 1, 0, 1, 0, 0]), .inBlock 0, .code (cAt (bodyOf Try.f137) [1, 1, 1, 1])] (SN0 g nb N k i) [0, 1, 2, 262, 4, 5] 1 (SN0 g nb N k (i + 1)) =
    some ([.code (cAt (bodyOf Try.f137) [1, 1, 1, 0, 1, 0, 0]), .inLoop (cAt (bodyOf Try.f137) [1, 1, 1, 0, 1, 0, 0]), .inBlock 0, .code (cAt (bodyOf Try.f137) [1, 1, 1, 1])], [((0 : Nat) < 1),
  ((decide ((↑i : Int) < (↑N : Int))) = true),
  ((0 : Nat) < 1),
  ((1 : Nat) ≤ 1),
  ((i : Nat) ≤ i),
  ((((i + 1) * 8) : Nat) ≤ 140737488355328),
  (((i + 1) : Nat) ≤ 9223372036854775807),
  ((0 : Nat) < 1),
  ((true = true) → ((1 : Nat) = 1)),
  (((-9223372036854775808) : Int) ≤ ((↑i : Int) + 1)),
  ((((↑i : Int) + 1) : Int) ≤ 9223372036854775807),
  (((↑k : Int) : Int) = (↑k : Int)),
  ((0 : Nat) = 0),
  ((0 : Nat) = 0),
  ((0 : Nat) = 0),
  ((((↑i : Int) + 1) : Int) = (↑(i + 1) : Int)),
  ((2 : Nat) = 2),
  ((1 : Nat) ≤ 1),
  ((1 : Nat) ≤ 1),
  (((↑N : Int) : Int) = (↑N : Int)),
  ((nb : Nat) = nb),
  (∀ i_1 : Nat, (((i_1 : Nat) < nb) → (([.int .i64 ((g i_1).1), .int .i64 ((g i_1).2.1)] : List PV) = [.int .i64 ((g i_1).1), .int .i64 ((g i_1).2.1)]))),
  ((3 : Nat) = 3),
  ((1 : Nat) ≤ 1),
  ((1 : Nat) ≤ 1),
  ((3 : Nat) = 3),
  ((1 : Nat) ≤ 1),
  ((1 : Nat) ≤ 1),
  ((0 : Nat) = 0),
  (((i + 1) : Nat) = (i + 1)),
  ((0 : Nat) = 0),
  ((0 : Nat) = 0),
  ((0 : Nat) = 0),
  ((0 : Nat) = 0),
  ((1 : Nat) = 1),
  (((i + 1) : Nat) ≤ (i + 1)),
  (∀ i_1 : Nat, (((i_1 : Nat) < (i + 1)) → (All (cvtL false [(2, ⟨true, 3, 1, (fun i_2 => [.ar 1 262 0 (i + 1), .ar 1 4 0 0, .ar 1 5 0 0])⟩), (262, ⟨false, 1, (i + 1), (fun i_2 => (if (i_2 < i) then [.p (.int .i64 (↑k : Int))] else [.p (.int .i64 (↑k : Int))]))⟩), (230, ⟨false, 1, 1, (fun i_2 => [.p (.int .i64 (↑k : Int))])⟩), (0, ⟨true, 2, 1, (fun i_2 => [.p (.int .i64 (↑N : Int)), .p (.seq true 2 nb (fun i_3 => [.int .i64 ((g i_3).1), .int .i64 ((g i_3).2.1)]))])⟩), (1, ⟨true, 3, 1, (fun i_2 => [.p (.nil), .p (.nil), .p (.nil)])⟩), (4, ⟨false, 1, 0, (fun i_2 => [.p (.int .i64 0)])⟩), (5, ⟨false, 1, 0, (fun i_2 => [.p (.int .i64 0)])⟩)] [0, 1, 2, 262, 4, 5] 1 (if (i_1 < i) then [.p (.int .i64 (↑k : Int))] else [.p (.int .i64 (↑k : Int))])).2 ∧ (((cvtL false [(2, ⟨true, 3, 1, (fun i_2 => [.ar 1 262 0 (i + 1), .ar 1 4 0 0, .ar 1 5 0 0])⟩), (262, ⟨false, 1, (i + 1), (fun i_2 => (if (i_2 < i) then [.p (.int .i64 (↑k : Int))] else [.p (.int .i64 (↑k : Int))]))⟩), (230, ⟨false, 1, 1, (fun i_2 => [.p (.int .i64 (↑k : Int))])⟩), (0, ⟨true, 2, 1, (fun i_2 => [.p (.int .i64 (↑N : Int)), .p (.seq true 2 nb (fun i_3 => [.int .i64 ((g i_3).1), .int .i64 ((g i_3).2.1)]))])⟩), (1, ⟨true, 3, 1, (fun i_2 => [.p (.nil), .p (.nil), .p (.nil)])⟩), (4, ⟨false, 1, 0, (fun i_2 => [.p (.int .i64 0)])⟩), (5, ⟨false, 1, 0, (fun i_2 => [.p (.int .i64 0)])⟩)] [0, 1, 2, 262, 4, 5] 1 (if (i_1 < i) then [.p (.int .i64 (↑k : Int))] else [.p (.int .i64 (↑k : Int))])).1 : List AV) = [.p (.int .i64 (↑k : Int))])))),
  ((1 : Nat) = 1),
  ((0 : Nat) ≤ 0),
  (∀ i_1 : Nat, (((i_1 : Nat) < 0) → (All [] ∧ (([.p (.int .i64 0)] : List AV) = [.p (.int .i64 0)])))),
  ((1 : Nat) = 1),
  ((0 : Nat) ≤ 0),
  (∀ i_1 : Nat, (((i_1 : Nat) < 0) → (All [] ∧ (([.p (.int .i64 0)] : List AV) = [.p (.int .i64 0)]))))]) := by kernel_rfl
theorem qNe (g : Nat → T_Bar) (nb N k i : Nat) :
    pathOb Try.prog Try.f137 0 [.reg [oT, oT, oT, oT], .dec false, .reg [oT, oT, oT]] [.code (cAt (bodyOf Try.f137) [1, 1, 1, 0, 1, 0, 0]), .inLoop (cAt (bodyOf Try.f137) [1, 1, 1, 0, 1, 0, 0]), .inBlock 0, .code (cAt (bodyOf Try.f137) [1, 1, 1, 1])] (SN0 g nb N k i) [3, 4, 5] 1 (pebR i 0 (fun _ => k) (fun _ => 0) (fun _ => 0)) (.tup [pebO i 0 0, .p (.bool true)]) =
    some [((0 : Nat) < 1),
  ((decide ((↑i : Int) < (↑N : Int))) = false),
  ((0 : Nat) < 1),
  ((0 : Nat) < 1),
  ((true = true) → ((1 : Nat) = 1)),
  ((0 : Nat) < 1),
  ((0 : Nat) = 0),
  ((i : Nat) = i),
  ((0 : Nat) = 0),
  ((0 : Nat) = 0),
  ((0 : Nat) = 0),
  ((0 : Nat) = 0),
  (true = true),
  ((1 : Nat) = 1),
  ((i : Nat) ≤ i),
  (∀ i_1 : Nat, (((i_1 : Nat) < i) → (All [] ∧ (([.p (.int .i64 (↑k : Int))] : List AV) = [.p (.int .i64 (↑k : Int))])))),
  ((1 : Nat) = 1),
  ((0 : Nat) ≤ 0),
  (∀ i_1 : Nat, (((i_1 : Nat) < 0) → (All [] ∧ (([.p (.int .i64 0)] : List AV) = [.p (.int .i64 0)])))),
  ((1 : Nat) = 1),
  ((0 : Nat) ≤ 0),
  (∀ i_1 : Nat, (((i_1 : Nat) < 0) → (All [] ∧ (([.p (.int .i64 0)] : List AV) = [.p (.int .i64 0)])))),
  (∀ i_1 : Nat, (((i_1 : Nat) < i) → All [])),
  (∀ i_1 : Nat, (((i_1 : Nat) < 0) → All [])),
  (∀ i_1 : Nat, (((i_1 : Nat) < 0) → All []))] := by kernel_rfl
theorem qRz (g : Nat → T_Bar) (nb N : Nat) :
    pieceOb Try.prog 0 [.reg [oT, oT], .reg [oT, oT, oT, ⟨true, (some ⟨[], [], 1, pebR N 0 (fun _ => ((2 : Nat) : Int)) (fun _ => 0) (fun _ => 0), .tup [pebO N 0 0, .p (.bool true)]⟩), none⟩, oT, oT, oT, oT, oT, oT], .reg [oT], .reg [oT], .head] [.code (bodyOf Try.f127)] (start Try.f127 [] 0 [grG g nb N]) [0, 288, 160, 161, 162] 1 (SR g nb N 0 0 (fun _ => ((2 : Nat) : Int)) (fun _ => 0) (fun _ => 0)) =
    some ([.code (cAt (bodyOf Try.f127) [1, 1, 1, 0, 1, 0, 0]), .inLoop (cAt (bodyOf Try.f127) [1, 1, 1, 0, 1, 0, 0]), .inBlock 0, .code (cAt (bodyOf Try.f127) [1, 1, 1, 1])], [((0 : Nat) < 1),
  Con Try.prog 137 0 [] [.agg [.p (.int .i64 (↑N : Int)), .p (.nil)], .p (.int .i64 2)] [(0, ⟨false, 1, N, (fun i => [.p (.int .i64 2)])⟩), (1, ⟨false, 1, 0, (fun i => [.p (.int .i64 0)])⟩), (2, ⟨false, 1, 0, (fun i => [.p (.int .i64 0)])⟩)] (.tup [.agg [.ar 1 0 0 N, .ar 1 1 0 0, .ar 1 2 0 0], .p (.bool true)]),
  ((0 : Nat) < 1),
  ((true = true) → ((1 : Nat) = 1)),
  (((↑N : Int) : Int) = (↑N : Int)),
  ((nb : Nat) = nb),
  (∀ i : Nat, (((i : Nat) < nb) → (([.int .i64 ((g i).1), .int .i64 ((g i).2.1)] : List PV) = [.int .i64 ((g i).1), .int .i64 ((g i).2.1)]))),
  ((0 : Nat) = 0),
  ((0 : Nat) = 0),
  ((0 : Int) = (↑0 : Int)),
  ((0 : Int) = (↑0 : Int)),
  ((([AV.p (PV.int IntKind.i64 (↑N : Int)), brL g nb].length) : Nat) = 2),
  ((1 : Nat) ≤ 1),
  ((1 : Nat) ≤ 1),
  (((↑N : Int) : Int) = (↑N : Int)),
  ((nb : Nat) = nb),
  (∀ i : Nat, (((i : Nat) < nb) → (([.int .i64 ((g i).1), .int .i64 ((g i).2.1)] : List PV) = [.int .i64 ((g i).1), .int .i64 ((g i).2.1)]))),
  ((((List.map (fun v => AV.p (absV v)) [Value.slice none 0 0, Value.slice none 0 0, Value.slice none 0 0]).length) : Nat) = 3),
  ((1 : Nat) ≤ 1),
  ((1 : Nat) ≤ 1),
  ((0 : Nat) = 0),
  ((N : Nat) = N),
  ((0 : Nat) = 0),
  ((0 : Nat) = 0),
  ((0 : Nat) = 0),
  ((0 : Nat) = 0),
  ((1 : Nat) = 1),
  ((N : Nat) ≤ N),
  (∀ i : Nat, (((i : Nat) < N) → (All [] ∧ (([.p (.int .i64 2)] : List AV) = [.p (.int .i64 2)])))),
  ((1 : Nat) = 1),
  ((0 : Nat) ≤ 0),
  (∀ i : Nat, (((i : Nat) < 0) → (All [] ∧ (([.p (.int .i64 0)] : List AV) = [.p (.int .i64 0)])))),
  ((1 : Nat) = 1),
  ((0 : Nat) ≤ 0),
  (∀ i : Nat, (((i : Nat) < 0) → (All [] ∧ (([.p (.int .i64 0)] : List AV) = [.p (.int .i64 0)]))))]) := by kernel_rfl
theorem qRa (g : Nat → T_Bar) (nb N m i : Nat) (F T Q F1 T1 : Nat → Int) :
    pieceOb Try.prog 0 [.reg [oT, oT, oT, oT, oT], .dec true, .reg [oT, oT, oT, oT, oT, oT, oT, oT, oT, oT, oT, oT, oT, oT, ⟨true, (some ⟨[], [], 1, pebR N m F1 T1 Q, .tup [pebO N m 0, .p (.bool true)]⟩), none⟩, oT, oT, oT, oT, oT, oT], .reg [oT, oT], .dec false, .reg [oT, oT, oT, oT, oT, oT, oT, oT, oT, oT, oT, oT, oT, oT, oT, oT, oT, oT, oT, oT, oT], .reg [oT, oT, oT, oT, oT, oT, oT, oT, oT, oT, oT, oT], .reg [oT, oT, oT, oT, oT, oT, oT], .reg [oT, oT], .reg [oT, oT, oT], .reg [oT, oT, oT], .head] [.code (cAt (bodyOf Try.f127) [1, 1, 1, 0, 1, 0, 0]), .inLoop (cAt (bodyOf Try.f127) [1, 1, 1, 0, 1, 0, 0]), .inBlock 0, .code (cAt (bodyOf Try.f127) [1, 1, 1, 1])] (SR g nb N m i F T Q) [0, 1, 613, 1861, 2085] 1 (SR g nb N (m + 1) (i + 1) (fun s => if s = (g i).1.toNat then F1 s - 1 else F1 s) (fun s => if s < m then T1 s else (g i).1) (fun s => if s < m then Q s else i)) =
    some ([.code (cAt (bodyOf Try.f127) [1, 1, 1, 0, 1, 0, 0]), .inLoop (cAt (bodyOf Try.f127) [1, 1, 1, 0, 1, 0, 0]), .inBlock 0, .code (cAt (bodyOf Try.f127) [1, 1, 1, 1])], [((0 : Nat) < 1),
  ((decide ((↑i : Int) < (↑nb : Int))) = true),
  ((0 : Nat) < 1),
  ((0 : Nat) < 1),
  ((0 : Nat) < 1),
  ((0 : Int) ≤ (↑i : Int)),
  (((↑i : Int) : Int) < (↑nb : Int)),
  ((0 : Nat) < 1),
  ((0 : Int) ≤ (↑i : Int)),
  (((↑i : Int) : Int) < (↑nb : Int)),
  ((1 : Nat) = 1),
  ((N : Nat) ≤ N),
  ((1 : Nat) = 1),
  ((m : Nat) ≤ m),
  ((1 : Nat) = 1),
  ((m : Nat) ≤ m),
  Con Try.prog 138 0 [] [.agg [.p (.int .i64 (↑N : Int)), .p (.seq true 2 nb (fun i_1 => [.int .i64 ((g i_1).1), .int .i64 ((g i_1).2.1)]))], .agg [.p (.seq true 1 N (fun i_1 => [.int .i64 (F i_1)])), .p (.seq true 1 m (fun i_1 => [.int .i64 (T i_1)])), .p (.seq true 1 m (fun i_1 => [.int .i64 (Q i_1)]))], .p (.int .i64 ((g i).1)), .p (.int .i64 ((g i).2.1)), .p (.int .i64 4)] [(0, ⟨false, 1, N, (fun i_1 => [.p (.int .i64 (F1 i_1))])⟩), (1, ⟨false, 1, m, (fun i_1 => [.p (.int .i64 (T1 i_1))])⟩), (2, ⟨false, 1, m, (fun i_1 => [.p (.int .i64 (Q i_1))])⟩)] (.tup [.agg [.ar 1 0 0 N, .ar 1 1 0 m, .ar 1 2 0 m], .p (.bool true)]),
  ((0 : Nat) < 1),
  ((true = true) → ((1 : Nat) = 1)),
  ((!true) = false),
  ((0 : Nat) < 1),
  ((0 : Nat) < 1),
  ((0 : Int) ≤ (↑i : Int)),
  (((↑i : Int) : Int) < (↑nb : Int)),
  ((0 : Nat) < 1),
  ((0 : Nat) < 1),
  ((0 : Int) ≤ (↑i : Int)),
  (((↑i : Int) : Int) < (↑nb : Int)),
  ((0 : Int) ≤ ((g i).1)),
  ((((g i).1) : Int) < (↑N : Int)),
  ((((g i).1.toNat) : Nat) < N),
  (((-9223372036854775808) : Int) ≤ (F1 (g i).1.toNat - 1)),
  (((F1 (g i).1.toNat - 1) : Int) ≤ 9223372036854775807),
  ((0 : Int) ≤ ((g i).1)),
  ((((g i).1) : Int) < (↑N : Int)),
  ((((g i).1.toNat) : Nat) < N),
  ((false = true) → ((N : Nat) = 1)),
  ((0 : Nat) < 1),
  ((0 : Nat) < 1),
  ((0 : Int) ≤ (↑i : Int)),
  (((↑i : Int) : Int) < (↑nb : Int)),
  ((1 : Nat) ≤ 1),
  ((m : Nat) ≤ m),
  ((((m + 1) * 8) : Nat) ≤ 140737488355328),
  (((m + 1) : Nat) ≤ 9223372036854775807),
  ((0 : Nat) < 1),
  ((true = true) → ((1 : Nat) = 1)),
  ((0 : Nat) < 1),
  ((1 : Nat) ≤ 1),
  ((m : Nat) ≤ m),
  ((((m + 1) * 8) : Nat) ≤ 140737488355328),
  (((m + 1) : Nat) ≤ 9223372036854775807),
  ((0 : Nat) < 1),
  ((true = true) → ((1 : Nat) = 1)),
  ((0 : Nat) < 1),
  ((0 : Nat) < 1),
  ((true = true) → ((1 : Nat) = 1)),
  (((-9223372036854775808) : Int) ≤ ((↑m : Int) + 1)),
  ((((↑m : Int) + 1) : Int) ≤ 9223372036854775807),
  (((-9223372036854775808) : Int) ≤ ((↑i : Int) + 1)),
  ((((↑i : Int) + 1) : Int) ≤ 9223372036854775807),
  (((↑N : Int) : Int) = (↑N : Int)),
  ((nb : Nat) = nb),
  (∀ i_1 : Nat, (((i_1 : Nat) < nb) → (([.int .i64 ((g i_1).1), .int .i64 ((g i_1).2.1)] : List PV) = [.int .i64 ((g i_1).1), .int .i64 ((g i_1).2.1)]))),
  ((0 : Nat) = 0),
  ((0 : Nat) = 0),
  ((((↑m : Int) + 1) : Int) = (↑(m + 1) : Int)),
  ((((↑i : Int) + 1) : Int) = (↑(i + 1) : Int)),
  ((2 : Nat) = 2),
  ((1 : Nat) ≤ 1),
  ((1 : Nat) ≤ 1),
  (((↑N : Int) : Int) = (↑N : Int)),
  ((nb : Nat) = nb),
  (∀ i_1 : Nat, (((i_1 : Nat) < nb) → (([.int .i64 ((g i_1).1), .int .i64 ((g i_1).2.1)] : List PV) = [.int .i64 ((g i_1).1), .int .i64 ((g i_1).2.1)]))),
  ((3 : Nat) = 3),
  ((1 : Nat) ≤ 1),
  ((1 : Nat) ≤ 1),
  ((0 : Nat) = 0),
  ((N : Nat) = N),
  ((0 : Nat) = 0),
  (((m + 1) : Nat) = (m + 1)),
  ((0 : Nat) = 0),
  (((m + 1) : Nat) = (m + 1)),
  ((1 : Nat) = 1),
  ((N : Nat) ≤ N),
  (∀ i_1 : Nat, (((i_1 : Nat) < N) → (All (cvtL false [(1, ⟨true, 3, 1, (fun i_2 => [.ar 1 613 0 N, .ar 1 1861 0 (m + 1), .ar 1 2085 0 (m + 1)])⟩), (741, ⟨true, 3, 1, (fun i_2 => [.ar 1 613 0 N, .ar 1 1861 0 (m + 1), .ar 1 2085 0 (m + 1)])⟩), (2085, ⟨false, 1, (m + 1), (fun i_2 => (if (i_2 < m) then [.p (.int .i64 (Q i_2))] else [.p (.int .i64 (↑i : Int))]))⟩), (2053, ⟨false, 1, 1, (fun i_2 => [.p (.int .i64 (↑i : Int))])⟩), (1861, ⟨false, 1, (m + 1), (fun i_2 => (if (i_2 < m) then [.p (.int .i64 (T1 i_2))] else [.p (.int .i64 ((g i).1))]))⟩), (1829, ⟨false, 1, 1, (fun i_2 => [.p (.int .i64 ((g i).1))])⟩), (613, ⟨false, 1, N, (fun i_2 => (if (i_2 = (g i).1.toNat) then [.p (.int .i64 (F1 (g i).1.toNat - 1))] else [.p (.int .i64 (F1 i_2))]))⟩), (0, ⟨true, 2, 1, (fun i_2 => [.p (.int .i64 (↑N : Int)), .p (.seq true 2 nb (fun i_3 => [.int .i64 ((g i_3).1), .int .i64 ((g i_3).2.1)]))])⟩), (2, ⟨false, 1, N, (fun i_2 => [.p (.int .i64 (F i_2))])⟩), (3, ⟨false, 1, m, (fun i_2 => [.p (.int .i64 (T i_2))])⟩), (4, ⟨false, 1, m, (fun i_2 => [.p (.int .i64 (Q i_2))])⟩)] [0, 1, 613, 1861, 2085] 1 (if (i_1 = (g i).1.toNat) then [.p (.int .i64 (F1 (g i).1.toNat - 1))] else [.p (.int .i64 (F1 i_1))])).2 ∧ (((cvtL false [(1, ⟨true, 3, 1, (fun i_2 => [.ar 1 613 0 N, .ar 1 1861 0 (m + 1), .ar 1 2085 0 (m + 1)])⟩), (741, ⟨true, 3, 1, (fun i_2 => [.ar 1 613 0 N, .ar 1 1861 0 (m + 1), .ar 1 2085 0 (m + 1)])⟩), (2085, ⟨false, 1, (m + 1), (fun i_2 => (if (i_2 < m) then [.p (.int .i64 (Q i_2))] else [.p (.int .i64 (↑i : Int))]))⟩), (2053, ⟨false, 1, 1, (fun i_2 => [.p (.int .i64 (↑i : Int))])⟩), (1861, ⟨false, 1, (m + 1), (fun i_2 => (if (i_2 < m) then [.p (.int .i64 (T1 i_2))] else [.p (.int .i64 ((g i).1))]))⟩), (1829, ⟨false, 1, 1, (fun i_2 => [.p (.int .i64 ((g i).1))])⟩), (613, ⟨false, 1, N, (fun i_2 => (if (i_2 = (g i).1.toNat) then [.p (.int .i64 (F1 (g i).1.toNat - 1))] else [.p (.int .i64 (F1 i_2))]))⟩), (0, ⟨true, 2, 1, (fun i_2 => [.p (.int .i64 (↑N : Int)), .p (.seq true 2 nb (fun i_3 => [.int .i64 ((g i_3).1), .int .i64 ((g i_3).2.1)]))])⟩), (2, ⟨false, 1, N, (fun i_2 => [.p (.int .i64 (F i_2))])⟩), (3, ⟨false, 1, m, (fun i_2 => [.p (.int .i64 (T i_2))])⟩), (4, ⟨false, 1, m, (fun i_2 => [.p (.int .i64 (Q i_2))])⟩)] [0, 1, 613, 1861, 2085] 1 (if (i_1 = (g i).1.toNat) then [.p (.int .i64 (F1 (g i).1.toNat - 1))] else [.p (.int .i64 (F1 i_1))])).1 : List AV) = [.p (.int .i64 (if i_1 = (g i).1.toNat then F1 i_1 - 1 else F1 i_1))])))),
  ((1 : Nat) = 1),
  (((m + 1) : Nat) ≤ (m + 1)),
  (∀ i_1 : Nat, (((i_1 : Nat) < (m + 1)) → (All (cvtL false [(1, ⟨true, 3, 1, (fun i_2 => [.ar 1 613 0 N, .ar 1 1861 0 (m + 1), .ar 1 2085 0 (m + 1)])⟩), (741, ⟨true, 3, 1, (fun i_2 => [.ar 1 613 0 N, .ar 1 1861 0 (m + 1), .ar 1 2085 0 (m + 1)])⟩), (2085, ⟨false, 1, (m + 1), (fun i_2 => (if (i_2 < m) then [.p (.int .i64 (Q i_2))] else [.p (.int .i64 (↑i : Int))]))⟩), (2053, ⟨false, 1, 1, (fun i_2 => [.p (.int .i64 (↑i : Int))])⟩), (1861, ⟨false, 1, (m + 1), (fun i_2 => (if (i_2 < m) then [.p (.int .i64 (T1 i_2))] else [.p (.int .i64 ((g i).1))]))⟩), (1829, ⟨false, 1, 1, (fun i_2 => [.p (.int .i64 ((g i).1))])⟩), (613, ⟨false, 1, N, (fun i_2 => (if (i_2 = (g i).1.toNat) then [.p (.int .i64 (F1 (g i).1.toNat - 1))] else [.p (.int .i64 (F1 i_2))]))⟩), (0, ⟨true, 2, 1, (fun i_2 => [.p (.int .i64 (↑N : Int)), .p (.seq true 2 nb (fun i_3 => [.int .i64 ((g i_3).1), .int .i64 ((g i_3).2.1)]))])⟩), (2, ⟨false, 1, N, (fun i_2 => [.p (.int .i64 (F i_2))])⟩), (3, ⟨false, 1, m, (fun i_2 => [.p (.int .i64 (T i_2))])⟩), (4, ⟨false, 1, m, (fun i_2 => [.p (.int .i64 (Q i_2))])⟩)] [0, 1, 613, 1861, 2085] 1 (if (i_1 < m) then [.p (.int .i64 (T1 i_1))] else [.p (.int .i64 ((g i).1))])).2 ∧ (((cvtL false [(1, ⟨true, 3, 1, (fun i_2 => [.ar 1 613 0 N, .ar 1 1861 0 (m + 1), .ar 1 2085 0 (m + 1)])⟩), (741, ⟨true, 3, 1, (fun i_2 => [.ar 1 613 0 N, .ar 1 1861 0 (m + 1), .ar 1 2085 0 (m + 1)])⟩), (2085, ⟨false, 1, (m + 1), (fun i_2 => (if (i_2 < m) then [.p (.int .i64 (Q i_2))] else [.p (.int .i64 (↑i : Int))]))⟩), (2053, ⟨false, 1, 1, (fun i_2 => [.p (.int .i64 (↑i : Int))])⟩), (1861, ⟨false, 1, (m + 1), (fun i_2 => (if (i_2 < m) then [.p (.int .i64 (T1 i_2))] else [.p (.int .i64 ((g i).1))]))⟩), (1829, ⟨false, 1, 1, (fun i_2 => [.p (.int .i64 ((g i).1))])⟩), (613, ⟨false, 1, N, (fun i_2 => (if (i_2 = (g i).1.toNat) then [.p (.int .i64 (F1 (g i).1.toNat - 1))] else [.p (.int .i64 (F1 i_2))]))⟩), (0, ⟨true, 2, 1, (fun i_2 => [.p (.int .i64 (↑N : Int)), .p (.seq true 2 nb (fun i_3 => [.int .i64 ((g i_3).1), .int .i64 ((g i_3).2.1)]))])⟩), (2, ⟨false, 1, N, (fun i_2 => [.p (.int .i64 (F i_2))])⟩), (3, ⟨false, 1, m, (fun i_2 => [.p (.int .i64 (T i_2))])⟩), (4, ⟨false, 1, m, (fun i_2 => [.p (.int .i64 (Q i_2))])⟩)] [0, 1, 613, 1861, 2085] 1 (if (i_1 < m) then [.p (.int .i64 (T1 i_1))] else [.p (.int .i64 ((g i).1))])).1 : List AV) = [.p (.int .i64 (if i_1 < m then T1 i_1 else (g i).1))])))),
  ((1 : Nat) = 1),
  (((m + 1) : Nat) ≤ (m + 1)),
  (∀ i_1 : Nat, (((i_1 : Nat) < (m + 1)) → (All (cvtL false [(1, ⟨true, 3, 1, (fun i_2 => [.ar 1 613 0 N, .ar 1 1861 0 (m + 1), .ar 1 2085 0 (m + 1)])⟩), (741, ⟨true, 3, 1, (fun i_2 => [.ar 1 613 0 N, .ar 1 1861 0 (m + 1), .ar 1 2085 0 (m + 1)])⟩), (2085, ⟨false, 1, (m + 1), (fun i_2 => (if (i_2 < m) then [.p (.int .i64 (Q i_2))] else [.p (.int .i64 (↑i : Int))]))⟩), (2053, ⟨false, 1, 1, (fun i_2 => [.p (.int .i64 (↑i : Int))])⟩), (1861, ⟨false, 1, (m + 1), (fun i_2 => (if (i_2 < m) then [.p (.int .i64 (T1 i_2))] else [.p (.int .i64 ((g i).1))]))⟩), (1829, ⟨false, 1, 1, (fun i_2 => [.p (.int .i64 ((g i).1))])⟩), (613, ⟨false, 1, N, (fun i_2 => (if (i_2 = (g i).1.toNat) then [.p (.int .i64 (F1 (g i).1.toNat - 1))] else [.p (.int .i64 (F1 i_2))]))⟩), (0, ⟨true, 2, 1, (fun i_2 => [.p (.int .i64 (↑N : Int)), .p (.seq true 2 nb (fun i_3 => [.int .i64 ((g i_3).1), .int .i64 ((g i_3).2.1)]))])⟩), (2, ⟨false, 1, N, (fun i_2 => [.p (.int .i64 (F i_2))])⟩), (3, ⟨false, 1, m, (fun i_2 => [.p (.int .i64 (T i_2))])⟩), (4, ⟨false, 1, m, (fun i_2 => [.p (.int .i64 (Q i_2))])⟩)] [0, 1, 613, 1861, 2085] 1 (if (i_1 < m) then [.p (.int .i64 (Q i_1))] else [.p (.int .i64 (↑i : Int))])).2 ∧ (((cvtL false [(1, ⟨true, 3, 1, (fun i_2 => [.ar 1 613 0 N, .ar 1 1861 0 (m + 1), .ar 1 2085 0 (m + 1)])⟩), (741, ⟨true, 3, 1, (fun i_2 => [.ar 1 613 0 N, .ar 1 1861 0 (m + 1), .ar 1 2085 0 (m + 1)])⟩), (2085, ⟨false, 1, (m + 1), (fun i_2 => (if (i_2 < m) then [.p (.int .i64 (Q i_2))] else [.p (.int .i64 (↑i : Int))]))⟩), (2053, ⟨false, 1, 1, (fun i_2 => [.p (.int .i64 (↑i : Int))])⟩), (1861, ⟨false, 1, (m + 1), (fun i_2 => (if (i_2 < m) then [.p (.int .i64 (T1 i_2))] else [.p (.int .i64 ((g i).1))]))⟩), (1829, ⟨false, 1, 1, (fun i_2 => [.p (.int .i64 ((g i).1))])⟩), (613, ⟨false, 1, N, (fun i_2 => (if (i_2 = (g i).1.toNat) then [.p (.int .i64 (F1 (g i).1.toNat - 1))] else [.p (.int .i64 (F1 i_2))]))⟩), (0, ⟨true, 2, 1, (fun i_2 => [.p (.int .i64 (↑N : Int)), .p (.seq true 2 nb (fun i_3 => [.int .i64 ((g i_3).1), .int .i64 ((g i_3).2.1)]))])⟩), (2, ⟨false, 1, N, (fun i_2 => [.p (.int .i64 (F i_2))])⟩), (3, ⟨false, 1, m, (fun i_2 => [.p (.int .i64 (T i_2))])⟩), (4, ⟨false, 1, m, (fun i_2 => [.p (.int .i64 (Q i_2))])⟩)] [0, 1, 613, 1861, 2085] 1 (if (i_1 < m) then [.p (.int .i64 (Q i_1))] else [.p (.int .i64 (↑i : Int))])).1 : List AV) = [.p (.int .i64 (if i_1 < m then Q i_1 else (↑i : Int)))]))))]) := by kernel_rfl
theorem qRb (g : Nat → T_Bar) (nb N m i : Nat) (F T Q F1 T1 : Nat → Int) :
    pieceOb Try.prog 0 [.reg [oT, oT, oT, oT, oT], .dec true, .reg [oT, oT, oT, oT, oT, oT, oT, oT, oT, oT, oT, oT, oT, oT, ⟨true, (some ⟨[], [], 1, pebR N m F1 T1 Q, .tup [pebO N m 0, .p (.bool false)]⟩), none⟩, oT, oT, oT, oT, oT, oT], .reg [oT, oT], .dec true, .reg [oT, oT, oT], .head] [.code (cAt (bodyOf Try.f127) [1, 1, 1, 0, 1, 0, 0]), .inLoop (cAt (bodyOf Try.f127) [1, 1, 1, 0, 1, 0, 0]), .inBlock 0, .code (cAt (bodyOf Try.f127) [1, 1, 1, 1])] (SR g nb N m i F T Q) [0, 1, 2, 3, 4] 1 (SR g nb N m (i + 1) F T Q) =
    some ([.code (cAt (bodyOf Try.f127) [1, 1, 1, 0, 1, 0, 0]), .inLoop (cAt (bodyOf Try.f127) [1, 1, 1, 0, 1, 0, 0]), .inBlock 0, .code (cAt (bodyOf Try.f127) [1, 1, 1, 1])], [((0 : Nat) < 1),
  ((decide ((↑i : Int) < (↑nb : Int))) = true),
  ((0 : Nat) < 1),
  ((0 : Nat) < 1),
  ((0 : Nat) < 1),
  ((0 : Int) ≤ (↑i : Int)),
  (((↑i : Int) : Int) < (↑nb : Int)),
  ((0 : Nat) < 1),
  ((0 : Int) ≤ (↑i : Int)),
  (((↑i : Int) : Int) < (↑nb : Int)),
  ((1 : Nat) = 1),
  ((N : Nat) ≤ N),
  ((1 : Nat) = 1),
  ((m : Nat) ≤ m),
  ((1 : Nat) = 1),
  ((m : Nat) ≤ m),
  Con Try.prog 138 0 [] [.agg [.p (.int .i64 (↑N : Int)), .p (.seq true 2 nb (fun i_1 => [.int .i64 ((g i_1).1), .int .i64 ((g i_1).2.1)]))], .agg [.p (.seq true 1 N (fun i_1 => [.int .i64 (F i_1)])), .p (.seq true 1 m (fun i_1 => [.int .i64 (T i_1)])), .p (.seq true 1 m (fun i_1 => [.int .i64 (Q i_1)]))], .p (.int .i64 ((g i).1)), .p (.int .i64 ((g i).2.1)), .p (.int .i64 4)] [(0, ⟨false, 1, N, (fun i_1 => [.p (.int .i64 (F1 i_1))])⟩), (1, ⟨false, 1, m, (fun i_1 => [.p (.int .i64 (T1 i_1))])⟩), (2, ⟨false, 1, m, (fun i_1 => [.p (.int .i64 (Q i_1))])⟩)] (.tup [.agg [.ar 1 0 0 N, .ar 1 1 0 m, .ar 1 2 0 m], .p (.bool false)]),
  ((0 : Nat) < 1),
  ((true = true) → ((1 : Nat) = 1)),
  ((!false) = true),
  (((-9223372036854775808) : Int) ≤ ((↑i : Int) + 1)),
  ((((↑i : Int) + 1) : Int) ≤ 9223372036854775807),
  (((↑N : Int) : Int) = (↑N : Int)),
  ((nb : Nat) = nb),
  (∀ i_1 : Nat, (((i_1 : Nat) < nb) → (([.int .i64 ((g i_1).1), .int .i64 ((g i_1).2.1)] : List PV) = [.int .i64 ((g i_1).1), .int .i64 ((g i_1).2.1)]))),
  ((0 : Nat) = 0),
  ((0 : Nat) = 0),
  (((↑m : Int) : Int) = (↑m : Int)),
  ((((↑i : Int) + 1) : Int) = (↑(i + 1) : Int)),
  ((2 : Nat) = 2),
  ((1 : Nat) ≤ 1),
  ((1 : Nat) ≤ 1),
  (((↑N : Int) : Int) = (↑N : Int)),
  ((nb : Nat) = nb),
  (∀ i_1 : Nat, (((i_1 : Nat) < nb) → (([.int .i64 ((g i_1).1), .int .i64 ((g i_1).2.1)] : List PV) = [.int .i64 ((g i_1).1), .int .i64 ((g i_1).2.1)]))),
  ((3 : Nat) = 3),
  ((1 : Nat) ≤ 1),
  ((1 : Nat) ≤ 1),
  ((0 : Nat) = 0),
  ((N : Nat) = N),
  ((0 : Nat) = 0),
  ((m : Nat) = m),
  ((0 : Nat) = 0),
  ((m : Nat) = m),
  ((1 : Nat) = 1),
  ((N : Nat) ≤ N),
  (∀ i_1 : Nat, (((i_1 : Nat) < N) → (All [] ∧ (([.p (.int .i64 (F i_1))] : List AV) = [.p (.int .i64 (F i_1))])))),
  ((1 : Nat) = 1),
  ((m : Nat) ≤ m),
  (∀ i_1 : Nat, (((i_1 : Nat) < m) → (All [] ∧ (([.p (.int .i64 (T i_1))] : List AV) = [.p (.int .i64 (T i_1))])))),
  ((1 : Nat) = 1),
  ((m : Nat) ≤ m),
  (∀ i_1 : Nat, (((i_1 : Nat) < m) → (All [] ∧ (([.p (.int .i64 (Q i_1))] : List AV) = [.p (.int .i64 (Q i_1))]))))]) := by kernel_rfl
theorem qRe (g : Nat → T_Bar) (nb N m i : Nat) (F T Q : Nat → Int) :
    pathOb Try.prog Try.f127 0 [.reg [oT, oT, oT, oT, oT], .dec false, .reg [oT, oT]] [.code (cAt (bodyOf Try.f127) [1, 1, 1, 0, 1, 0, 0]), .inLoop (cAt (bodyOf Try.f127) [1, 1, 1, 0, 1, 0, 0]), .inBlock 0, .code (cAt (bodyOf Try.f127) [1, 1, 1, 1])] (SR g nb N m i F T Q) [] 1 [] (.p (.int .i64 m)) =
    some [((0 : Nat) < 1),
  ((decide ((↑i : Int) < (↑nb : Int))) = false),
  (((↑m : Int) : Int) = (↑m : Int))] := by kernel_rfl
theorem con_l4Gather {N k nb m l : Nat} {g : Nat → T_Bar} {F0 T0 Q : Nat → Int} {a b : Int} (hp0 : PInv N k nb m g F0 T0 Q) (hk : k ≤ 1048576) (hN : N ≤ 1048576) (hm : m ≤ 1048576) (hnb : nb ≤ 1048576)
    (ha : 0 ≤ a ∧ a < N) (hb : 0 ≤ b ∧ b < N) (hab : a ≠ b) : ∃ F' T' r, Con Try.prog 138 0 [] [grG g nb N, pebD N m F0 T0 Q, .p (.int .i64 a), .p (.int .i64 b), .p (.int .i64 ((l : Int) + 1))] (pebR N m F' T' Q) (.tup [pebO N m 0, .p (.bool r)]) ∧
      PInv N k nb m g F' T' Q ∧ (r = true → (l : Int) + 1 ≤ F' a.toNat + F' b.toNat) ∧ (r = false → ¬ Mat.Sparse N k l (plL g Q m ++ [(a.toNat, b.toNat)])) := by
  have lp : ∀ d F T, PInv N k nb m g F T Q → (l : Int) + 1 ≤ F a.toNat + F b.toNat + (d : Nat) → ∃ F' T' r, (∀ c, c.n = 0 → Run Try.prog c 138 [.code (cAt (bodyOf Try.f138) [1, 1, 0, 0, 0]), .inLoop (cAt (bodyOf Try.f138) [1, 1, 0, 0, 0]), .inBlock 0, .code (cAt (bodyOf Try.f138) [1, 1, 1])] (SH g nb N m F0 T0 F T Q a b ((l : Int) + 1)) (Post c (pebR N m F' T' Q) (.tup [pebO N m 0, .p (.bool r)]))) ∧
      PInv N k nb m g F' T' Q ∧ (r = true → (l : Int) + 1 ≤ F' a.toNat + F' b.toNat) ∧ (r = false → ¬ Mat.Sparse N k l (plL g Q m ++ [(a.toNat, b.toNat)])) := by
    intro d
    induction d with
    | zero =>
      intro F T hp hw
      have hd : decide (F a.toNat + F b.toNat < (l : Int) + 1) = false := by simp; omega
      have l1 := hp.le (v := a.toNat) (by omega)
      have l2 := hp.le (v := b.toNat) (by omega)
      refine ⟨F, T, true, fun c hc => ?_, hp, (fun _ => by omega), (fun h => by cases h)⟩
      refine path_ok mixed Try.func138 hc (qHd g nb N m F0 T0 F T Q a b ((l : Int) + 1)) ?_
      simp only [All]
      repeat' (first | exact trivial | with_reducible apply And.intro)
      all_goals (first | omega | rfl | (intros; first | assumption | exact True.intro | rfl | exact absurd (show false = true by assumption) Bool.false_ne_true | ((repeat' (first | assumption | apply anda | apply notf)); done)) | (exact hd) | (intro i hi; simp [All]))
    | succ d ih =>
      intro F T hp hw
      have l1 := hp.le (v := a.toNat) (by omega)
      have l2 := hp.le (v := b.toNat) (by omega)
      by_cases hs : F a.toNat + F b.toNat < (l : Int) + 1
      · have hd : decide (F a.toNat + F b.toNat < (l : Int) + 1) = true := by simp; omega
        obtain ⟨H1, r1, hc1, hf1⟩ := con_l4Find hp hk hN hm hnb ha hb hab
        cases hf1 with
        | yes F1 T1 hm1 =>
          obtain ⟨y1, y2⟩ := hm1.yes rfl
          obtain ⟨F', T', r, hrun, h1, h2, h3⟩ := ih F1 T1 hm1.inv (by omega)
          refine ⟨F', T', r, fun c hc => ?_, h1, h2, h3⟩
          refine piece_ok mixed hc (qHa g nb N m F0 T0 F T Q F1 T1 a b ((l : Int) + 1)) ?_ (hrun c hc)
          simp only [All]
          repeat' (first | exact trivial | with_reducible apply And.intro)
          all_goals (first | omega | rfl | (intros; first | assumption | exact True.intro | rfl | exact absurd (show false = true by assumption) Bool.false_ne_true | ((repeat' (first | assumption | apply anda | apply notf)); done)) | (exact hd) | (exact hc1) | (intro i hi; simp [All]))
        | no hm1 =>
          obtain ⟨H2, r2, hc2, hf2⟩ := con_l4Find hp hk hN hm hnb hb ha (Ne.symm hab)
          cases hf2 with
          | yes F2 T2 hm2 =>
            obtain ⟨y1, y2⟩ := hm2.yes rfl
            obtain ⟨F', T', r, hrun, h1, h2, h3⟩ := ih F2 T2 hm2.inv (by omega)
            refine ⟨F', T', r, fun c hc => ?_, h1, h2, h3⟩
            refine piece_ok mixed hc (qHb g nb N m F0 T0 F T Q F2 T2 a b ((l : Int) + 1)) ?_ (hrun c hc)
            simp only [All]
            repeat' (first | exact trivial | with_reducible apply And.intro)
            all_goals (first | omega | rfl | (intros; first | assumption | exact True.intro | rfl | exact absurd (show false = true by assumption) Bool.false_ne_true | ((repeat' (first | assumption | apply anda | apply notf)); done)) | (exact hd) | (exact hc1) | (exact hc2) | (intro i hi; simp [All]))
          | no hm2 =>
            refine ⟨F, T, false, fun c hc => ?_, hp, (fun h => by cases h), fun _ => gather_no hp ha hb hab (by omega) hm1 hm2⟩
            refine path_ok mixed Try.func138 hc (qHc g nb N m F0 T0 F T Q a b ((l : Int) + 1)) ?_
            simp only [All]
            repeat' (first | exact trivial | with_reducible apply And.intro)
            all_goals (first | omega | rfl | (intros; first | assumption | exact True.intro | rfl | exact absurd (show false = true by assumption) Bool.false_ne_true | ((repeat' (first | assumption | apply anda | apply notf)); done)) | (exact hd) | (exact hc1) | (exact hc2) | (intro i hi; simp [All]))
      · have hd : decide (F a.toNat + F b.toNat < (l : Int) + 1) = false := by simp; omega
        refine ⟨F, T, true, fun c hc => ?_, hp, (fun _ => by omega), (fun h => by cases h)⟩
        refine path_ok mixed Try.func138 hc (qHd g nb N m F0 T0 F T Q a b ((l : Int) + 1)) ?_
        simp only [All]
        repeat' (first | exact trivial | with_reducible apply And.intro)
        all_goals (first | omega | rfl | (intros; first | assumption | exact True.intro | rfl | exact absurd (show false = true by assumption) Bool.false_ne_true | ((repeat' (first | assumption | apply anda | apply notf)); done)) | (exact hd) | (intro i hi; simp [All]))
  have l1 := hp0.le (v := a.toNat) (by omega)
  have l2 := hp0.le (v := b.toNat) (by omega)
  obtain ⟨F', T', r, hrun, h⟩ := lp (l + 1) F0 T0 hp0 (by omega)
  refine ⟨F', T', r, ?_, h⟩
  have hcc := con_l4Copy N m F0 T0 Q hN hm
  refine con_start Try.func138 rfl (by kernel_rfl) rfl (fun c hc => ?_)
  refine piece_ok mixed hc (qHz g nb N m F0 T0 Q a b ((l : Int) + 1)) ?_ (hrun c hc)
  simp only [All]
  repeat' (first | exact trivial | with_reducible apply And.intro)
  all_goals (first | omega | rfl | (intros; first | assumption | exact True.intro | rfl | exact absurd (show false = true by assumption) Bool.false_ne_true | ((repeat' (first | assumption | apply anda | apply notf)); done)) | (exact hcc) | (intro i hi; simp [All]))
theorem run_new {g : Nat → T_Bar} {nb N k : Nat} (hN : N ≤ 1048576) (hk : 1 ≤ k ∧ k ≤ 3) (hg : isGraphF ((N : Int), (nb, g), ()) = true) (hnb : nb ≤ 1048576) (c : Cx) (hc : c.n = 0) {items : List Item} (hit : items = [.code (cAt (bodyOf Try.f137) [1, 1, 0, 0]), .code (cAt (bodyOf Try.f137) [1, 1, 0, 1]), .code (cAt (bodyOf Try.f137) [1, 1, 1])]) :
    Run Try.prog c 137 items (SNc g nb N k) (Post c (pebR N 0 (fun _ => k) (fun _ => 0) (fun _ => 0)) (.tup [pebO N 0 0, .p (.bool true)])) := by
  subst hit
  have hsm : smS s_Graph ((N : Int), (nb, g), ()) := ⟨by simp [smS, smL], ⟨hnb, fun i hi => by simp [smS, smL]⟩, True.intro⟩
  have hcg := con_IsGraph_s ((N : Int), (nb, g), ()) hsm
  rw [hg] at hcg
  have hci := con_l1In k 1 3
  rw [show inB k 1 3 = true by simp [inB]; omega] at hci
  have lp0 : ∀ d i, i + d = N → Run Try.prog c 137 [.code (cAt (bodyOf Try.f137) [1, 1, 1, 0, 1, 0, 0]), .inLoop (cAt (bodyOf Try.f137) [1, 1, 1, 0, 1, 0, 0]), .inBlock 0, .code (cAt (bodyOf Try.f137) [1, 1, 1, 1])] (SN0 g nb N k i) (Post c (pebR N 0 (fun _ => k) (fun _ => 0) (fun _ => 0)) (.tup [pebO N 0 0, .p (.bool true)])) := by
    intro d
    induction d with
    | zero =>
      intro i hi
      obtain rfl : i = N := by omega
      have hd : decide ((i : Int) < (i : Int)) = false := by simp
      refine path_ok mixed Try.func137 hc (qNe g nb i k i) ?_
      simp only [All]
      repeat' (first | exact trivial | with_reducible apply And.intro)
      all_goals (first | omega | rfl | (intros; first | assumption | exact True.intro | rfl | exact absurd (show false = true by assumption) Bool.false_ne_true | ((repeat' (first | assumption | apply anda | apply notf)); done)) | (intro i hi; simp [All]))
    | succ d ih =>
      intro i hi
      have hd : decide ((i : Int) < (N : Int)) = true := by simp; omega
      refine piece_ok mixed hc (qNl g nb N k i) ?_ (ih (i + 1) (by omega))
      simp only [All]
      repeat' (first | exact trivial | with_reducible apply And.intro)
      all_goals (first | omega | rfl | (intros; first | assumption | exact True.intro | rfl | exact absurd (show false = true by assumption) Bool.false_ne_true | ((repeat' (first | assumption | apply anda | apply notf)); done)) | (intro j hj; simp [All]; done) | (intro j hj; by_cases h : j < i <;> simp [h, cvtL, cvt, tg, tru, All]))
  refine piece_ok mixed hc (qNa g nb N k) ?_ (lp0 N 0 (by omega))
  simp only [All]
  repeat' (first | exact trivial | with_reducible apply And.intro)
  all_goals (first | omega | rfl | (intros; first | assumption | exact True.intro | rfl | exact absurd (show false = true by assumption) Bool.false_ne_true | ((repeat' (first | assumption | apply anda | apply notf)); done)) | (exact hcg) | (intros; exact hci) | (intro i hi; simp [All]))
theorem con_NewPebbles0 {N k : Nat} (hN : 1 ≤ N ∧ N ≤ 8) (hk : 1 ≤ k ∧ k ≤ 3) : Con Try.prog 137 0 [] [.agg [.p (.int .i64 N), .p .nil], .p (.int .i64 k)] (pebR N 0 (fun _ => k) (fun _ => 0) (fun _ => 0)) (.tup [pebO N 0 0, .p (.bool true)]) := by
  refine con_start Try.func137 rfl (by kernel_rfl) rfl (fun c hc => ?_)
  have hg : isGraphF ((N : Int), (0, fun _ => ((0 : Int), (0 : Int), ())), ()) = true := by
    have : inB N 1 8 = true := by simp [inB]; omega
    simp [isGraphF, this, goodB]
  refine piece_ok mixed hc (qNz (fun _ => (0, 0, ())) N k) ?_ (run_new (g := fun _ => (0, 0, ())) (by omega) hk hg (by omega) c hc rfl)
  simp only [All]
  repeat' (first | exact trivial | with_reducible apply And.intro)
  all_goals (first | omega | rfl | (intros; first | assumption | exact True.intro | rfl | exact absurd (show false = true by assumption) Bool.false_ne_true | ((repeat' (first | assumption | apply anda | apply notf)); done)) | (intro i hi; simp [All]))
theorem con_l6Rank {N nb : Nat} {g : Nat → T_Bar} (hb : ∀ e, e < nb → 0 ≤ (g e).1 ∧ (g e).1 < (g e).2.1 ∧ (g e).2.1 < N) (hN : 1 ≤ N ∧ N ≤ 8) (hnb : nb ≤ 1048576) :
    Con Try.prog 127 0 [] [grG g nb N] [] (.p (.int .i64 ((accI N 2 3 g nb).length : Nat))) := by
  refine con_start Try.func127 rfl (by kernel_rfl) rfl (fun c hc => ?_)
  have lp : ∀ d i m F T Q, i + d = nb → PInv N 2 nb m g F T Q → qL Q m = accI N 2 3 g i →
      Run Try.prog c 127 [.code (cAt (bodyOf Try.f127) [1, 1, 1, 0, 1, 0, 0]), .inLoop (cAt (bodyOf Try.f127) [1, 1, 1, 0, 1, 0, 0]), .inBlock 0, .code (cAt (bodyOf Try.f127) [1, 1, 1, 1])] (SR g nb N m i F T Q) (Post c [] (.p (.int .i64 ((accI N 2 3 g nb).length : Nat)))) := by
    intro d
    induction d with
    | zero =>
      intro i m F T Q hi hp hq
      obtain rfl : i = nb := by omega
      have hd : decide ((i : Int) < (i : Int)) = false := by simp
      rw [← hq, qL_length]
      refine path_ok mixed Try.func127 hc (qRe g i N m i F T Q) ?_
      simp only [All]
      repeat' (first | exact trivial | with_reducible apply And.intro)
      all_goals (first | omega | rfl | (intros; first | assumption | exact True.intro | rfl | exact absurd (show false = true by assumption) Bool.false_ne_true | ((repeat' (first | assumption | apply anda | apply notf)); done)) | (intro i hi; simp [All]))
    | succ d ih =>
      intro i m F T Q hi hp hq
      have hd : decide ((i : Int) < (nb : Int)) = true := by simp; omega
      have hm : m ≤ 1048576 := by
        have := accI_len N 2 3 g i
        rw [← hq, qL_length] at this
        omega
      have hsp : Mat.Sparse N 2 3 (plL g Q m) := by rw [plL_qL, hq]; exact accI_sparse N 2 3 g i
      have hbar := hb i (by omega)
      obtain ⟨F1, T1, r, hc1, h1, h2, h3⟩ := con_l4Gather (l := 3) (a := (g i).1) (b := (g i).2.1) hp (by omega) (by omega) hm hnb (by omega) (by omega) (by omega)
      have hlA := h1.le (v := (g i).1.toNat) (by omega)
      have hlB := h1.le (v := (g i).2.1.toNat) (by omega)
      cases r with
      | false =>
        have hrej : ¬ Mat.Sparse N 2 3 (plL g Q m ++ [brN (g i)]) := h3 rfl
        refine piece_ok mixed hc (qRb g nb N m i F T Q F1 T1) ?_ (ih (i + 1) m F T Q (by omega) hp (by
          simp only [accI]
          rw [← hq, ← plL_qL, if_neg hrej]))
        simp only [All]
        repeat' (first | exact trivial | with_reducible apply And.intro)
        all_goals (first | omega | rfl | (intros; first | assumption | exact True.intro | rfl | exact absurd (show false = true by assumption) Bool.false_ne_true | ((repeat' (first | assumption | apply anda | apply notf)); done)) | (exact hc1) | (intro i hi; simp [All]))
      | true =>
        have hw := h2 rfl
        have hacc : Mat.Sparse N 2 3 (plL g Q m ++ [brN (g i)]) := by
          have := (h1.game 3).accept (by rw [barsOf_gm]; exact hsp) (g i).1.toNat (g i).2.1.toNat ⟨by show (g i).1.toNat ≠ (g i).2.1.toNat; omega, by show (g i).1.toNat < N; omega, by show (g i).2.1.toNat < N; omega⟩
            (by show 3 + 1 ≤ (F1 (g i).1.toNat).toNat + (F1 (g i).2.1.toNat).toNat; omega)
          rw [barsOf_gm] at this
          exact this
        refine piece_ok mixed hc (qRa g nb N m i F T Q F1 T1) ?_ (ih (i + 1) (m + 1) _ _ _ (by omega) (h1.placed i (by omega) (g i).1 (.inl rfl) (by omega)) (by
          simp only [accI]
          rw [← hq, ← plL_qL, if_pos hacc]
          simp only [qL, Nat.lt_irrefl, if_false, Int.toNat_natCast]
          rw [qL_congr (Q' := Q) m (fun j hj => by simp only [hj, if_true])]))
        simp only [All]
        repeat' (first | exact trivial | with_reducible apply And.intro)
        all_goals (first | omega | rfl | (intros; first | assumption | exact True.intro | rfl | exact absurd (show false = true by assumption) Bool.false_ne_true | ((repeat' (first | assumption | apply anda | apply notf)); done)) | (exact hc1) | (intro i hi; simp [All]; done) | (intro j hj; by_cases h : j < m <;> simp [h, cvtL, cvt, tg, tru, All]; done) | (intro j hj; by_cases h : j = (g i).1.toNat <;> simp [h, cvtL, cvt, tg, tru, All]))
  have hn := con_NewPebbles0 (k := 2) hN (by omega)
  refine piece_ok mixed hc (qRz g nb N) ?_ (lp nb 0 0 _ _ _ (by omega) (PInv.start hb) rfl)
  simp only [All]
  repeat' (first | exact trivial | with_reducible apply And.intro)
  all_goals (first | omega | rfl | (intros; first | assumption | exact True.intro | rfl | exact absurd (show false = true by assumption) Bool.false_ne_true | ((repeat' (first | assumption | apply anda | apply notf)); done)) | (exact hn) | (intro i hi; simp [All]))
end Go.Proofs.Ytgdbnnmogddkaaa.Mach
namespace Go.Proofs
open Go Go.Shelf Go.RowKit Go.Lib Go.Sort
set_option linter.unusedVariables false
set_option linter.unusedSimpArgs false
shelf_lay_g SlLaysF0.n6 Slsf 6 at Try 109 as Try.sortBar
end Go.Proofs
namespace Go.Proofs.Ytgdbnnmogddkaaa.Mach
open Go Go.Shelf Go.RowKit Go.Lib Go.Sort
set_option linter.unusedVariables false
set_option linter.unusedSimpArgs false
def encB (x : T_Bar) : List Value := [.int .i64 x.1, .int .i64 x.2.1]
theorem cmpI_1 {x y : Int} (h : x < y) : cmpI x y = -1 := by simp [cmpI, h]
theorem cmpI_2 {x y : Int} (h : y < x) : cmpI x y = 1 := by
  have h3 : ¬ x < y := by omega
  simp [cmpI, h3, h]
theorem cmpI_3 {x y : Int} (h : ¬ x < y) (h' : ¬ y < x) : cmpI x y = 0 := by simp [cmpI, h, h']
theorem cmp_int (x y : Int) (W : World) : Calls Try.prog 117 #[.int .i64 x, .int .i64 y] W fun e w' => e = .returned (.int .i64 (cmpI x y)) ∧ w' = W := by
  go_enter Try.func117, Try.ntmps117
  by_cases h1 : x < y
  · have hc := cmpI_1 h1
    go_wp2
    go_ret
    exact ⟨by first | rfl | (rw [hc]; rfl), rfl⟩
  · by_cases h2 : y < x
    · have hc := cmpI_2 h2
      go_wp2
      go_ret
      exact ⟨by first | rfl | (rw [hc]; rfl), rfl⟩
    · have hc := cmpI_3 h1 h2
      go_wp2
      go_ret
      exact ⟨by first | rfl | (rw [hc]; rfl), rfl⟩
set_option maxRecDepth 10000 in
set_option maxHeartbeats 1000000 in
theorem cmp_bars4 (a b c d : Int) (W : World) : Calls Try.prog 82 #[.agg #[.int .i64 a, .int .i64 b], .agg #[.int .i64 c, .int .i64 d]] W fun e w' => e = .returned (.int .i64 (if cmpI a c = 0 then cmpI b d else cmpI a c)) ∧ ∃ q os', w' = grow (W.drewN q) os' := by
  have c1 := fun W' => cmp_int a c W'
  have c2 := fun W' => cmp_int b d W'
  generalize cmpI a c = r1 at c1 ⊢
  generalize cmpI b d = r2 at c2 ⊢
  by_cases h : r1 = 0
  · have h9 : (if r1 = 0 then r2 else r1) = r2 := if_pos h
    have c1' : ∀ W' : World, Calls Try.prog 117 #[.int .i64 a, .int .i64 c] W' fun e w' => e = .returned (.int .i64 0) ∧ w' = W' := by rw [← h]; exact c1
    rw [h9]
    clear c1 h9 h
    go_enter Try.func82, Try.ntmps82
    go_wp2_with fail
    go_at_call 117
    refine (c1' _).mono ?_
    rintro e w' ⟨rfl, rfl⟩
    go_wp2_with fail
    go_at_call 117
    refine (c2 _).mono ?_
    rintro e w' ⟨rfl, rfl⟩
    go_wp2
    go_ret
    exact ⟨rfl, 0, _, by rw [alloc_eq_grow, alloc_eq_grow, grow_grow]; rfl⟩
  · have h9 : (if r1 = 0 then r2 else r1) = r1 := if_neg h
    rw [h9]
    clear h9
    go_enter Try.func82, Try.ntmps82
    clear c2
    go_wp2_with fail
    go_at_call 117
    refine (c1 _).mono ?_
    rintro e w' ⟨rfl, rfl⟩
    go_wp2
    go_ret
    exact ⟨rfl, 0, _, by rw [alloc_eq_grow, alloc_eq_grow, grow_grow]; rfl⟩
theorem cmp_bars (x y : T_Bar) (W : World) : Calls Try.prog 82 #[.agg #[.int .i64 x.1, .int .i64 x.2.1], .agg #[.int .i64 y.1, .int .i64 y.2.1]] W fun e w' => e = .returned (.int .i64 (cmpB x y)) ∧ ∃ q os', w' = grow (W.drewN q) os' :=
  cmp_bars4 x.1 x.2.1 y.1 y.2.1 W
end Go.Proofs.Ytgdbnnmogddkaaa.Mach
namespace Go.Proofs.Ytgdbnnmogddkaaa.Mach
open Go
set_option linter.unusedVariables false
set_option linter.unusedSimpArgs false
def brOb (n : Nat) (h : Nat → T_Bar) : Ob := ⟨false, 2, n, fun i => [.p (.int .i64 (h i).1), .p (.int .i64 (h i).2.1)]⟩
def bxB (x : T_Bar) : Ob := ⟨true, 2, 1, fun _ => [.p (.int .i64 x.1), .p (.int .i64 x.2.1)]⟩
def SL (g : Nat → T_Bar) (nb N : Nat) (x : T_Bar) (i n : Nat) (pl : Bool) (h : Nat → T_Bar) : St :=
  ⟨[grG g nb N, brA x, .pt 2 0 0 0, .pt 2 1 0 0, .pt 2 2 0 0, .pt 2 3 0 0, .p (.bool pl), .p (.int .i64 i)] ++ List.replicate 48 anyA,
   [(0, bxG g nb N), (1, bxB x), (2, ⟨true, 2, 1, fun _ => [.p (.int .i64 0), .p .nil]⟩), (3, ⟨true, 2, 1, fun _ => [.p (.int .i64 N), .ar 2 4 0 n]⟩), (4, brOb n h)], 5⟩
def snoc (n : Nat) (h : Nat → T_Bar) (x : T_Bar) (s : Nat) : T_Bar := (if s < n then (h s).1 else x.1, if s < n then (h s).2.1 else x.2.1, ())
theorem rLz (g : Nat → T_Bar) (nb N : Nat) (x : T_Bar) :
    pieceOb Try.prog 0 [.reg [oT, oT, oT], .reg [oT, oT, oT, oT, oT, oT], .reg [oT], .reg [oT], .head] [.code (bodyOf Try.f108)] (start Try.f108 [] 0 [grG g nb N, brA x]) [0, 32, 64, 224, 160] 1 (SL g nb N x 0 0 false (fun _ => (0, 0, ()))) =
    some ([.code (cAt (bodyOf Try.f108) [1, 1, 1, 0, 1, 0, 0]), .inLoop (cAt (bodyOf Try.f108) [1, 1, 1, 0, 1, 0, 0]), .inBlock 0, .code (cAt (bodyOf Try.f108) [1, 1, 1, 1])], [((0 : Nat) < 1),
  ((0 : Nat) < 1),
  ((true = true) → ((1 : Nat) = 1)),
  (((↑N : Int) : Int) = (↑N : Int)),
  ((nb : Nat) = nb),
  (∀ i : Nat, (((i : Nat) < nb) → (([.int .i64 ((g i).1), .int .i64 ((g i).2.1)] : List PV) = [.int .i64 ((g i).1), .int .i64 ((g i).2.1)]))),
  ((x.1 : Int) = x.1),
  ((x.2.1 : Int) = x.2.1),
  ((0 : Nat) = 0),
  ((0 : Nat) = 0),
  ((0 : Nat) = 0),
  ((0 : Nat) = 0),
  (false = false),
  ((0 : Int) = (↑0 : Int)),
  ((([AV.p (PV.int IntKind.i64 (↑N : Int)), brL g nb].length) : Nat) = 2),
  ((1 : Nat) ≤ 1),
  ((1 : Nat) ≤ 1),
  (((↑N : Int) : Int) = (↑N : Int)),
  ((nb : Nat) = nb),
  (∀ i : Nat, (((i : Nat) < nb) → (([.int .i64 ((g i).1), .int .i64 ((g i).2.1)] : List PV) = [.int .i64 ((g i).1), .int .i64 ((g i).2.1)]))),
  ((([AV.p (PV.int IntKind.i64 x.1), AV.p (PV.int IntKind.i64 x.2.1)].length) : Nat) = 2),
  ((1 : Nat) ≤ 1),
  ((1 : Nat) ≤ 1),
  ((x.1 : Int) = x.1),
  ((x.2.1 : Int) = x.2.1),
  ((((List.map (fun v => AV.p (absV v)) [Value.int IntKind.i64 0, Value.slice none 0 0]).length) : Nat) = 2),
  ((1 : Nat) ≤ 1),
  ((1 : Nat) ≤ 1),
  ((0 : Int) = 0),
  ((((List.map (fun v => AV.p (absV v)) [Value.int IntKind.i64 0, Value.slice none 0 0]).length) : Nat) = 2),
  ((1 : Nat) ≤ 1),
  ((1 : Nat) ≤ 1),
  (((↑N : Int) : Int) = (↑N : Int)),
  ((0 : Nat) = 0),
  ((0 : Nat) = 0),
  ((2 : Nat) = 2),
  ((0 : Nat) ≤ 0),
  (∀ i : Nat, (((i : Nat) < 0) → (All [] ∧ (([.p .any, .p .any] : List AV) = [.p (.int .i64 0), .p (.int .i64 0)]))))]) := by kernel_rfl
theorem rLa (g : Nat → T_Bar) (nb N : Nat) (x : T_Bar) (i n : Nat) (pl : Bool) (h : Nat → T_Bar) :
    pieceOb Try.prog 0 [.reg [oT, oT, oT, oT, oT], .dec true, .reg [oT, oT, oT, oT, oT, oT, oT, oT, oT, ⟨true, (some ⟨[], [], 1, [], .p (.bool (aft (g i) x))⟩), none⟩, oT, oT], .dec true, .reg [oT, oT, oT, oT, oT, oT, oT], .reg [oT], .reg [oT, oT, oT, oT, oT, oT, oT, oT, oT, oT, oT], .reg [oT, oT, oT], .head] [.code (cAt (bodyOf Try.f108) [1, 1, 1, 0, 1, 0, 0]), .inLoop (cAt (bodyOf Try.f108) [1, 1, 1, 0, 1, 0, 0]), .inBlock 0, .code (cAt (bodyOf Try.f108) [1, 1, 1, 1])] (SL g nb N x i n pl h) [0, 1, 2, 3, 1061] 1 (SL g nb N x (i + 1) (n + 1 + 1) true (snoc (n + 1) (snoc n h x) (g i))) =
    some ([.code (cAt (bodyOf Try.f108) [1, 1, 1, 0, 1, 0, 0]), .inLoop (cAt (bodyOf Try.f108) [1, 1, 1, 0, 1, 0, 0]), .inBlock 0, .code (cAt (bodyOf Try.f108) [1, 1, 1, 1])], [((0 : Nat) < 1),
  ((decide ((↑i : Int) < (↑nb : Int))) = true),
  (((!pl) = true) → ((!pl) = true)),
  (((!pl) = true) → ((0 : Nat) < 1)),
  (((!pl) = true) → ((!pl) = true)),
  (((!pl) = true) → ((!pl) = true)),
  (((!pl) = true) → ((0 : Int) ≤ (↑i : Int))),
  (((!pl) = true) → (((↑i : Int) : Int) < (↑nb : Int))),
  (((!pl) = true) → ((!pl) = true)),
  (((!pl) = true) → ((0 : Nat) < 1)),
  (((!pl) = true) → ((!pl) = true)),
  (((!pl) = true) → ((!pl) = true)),
  (((!pl) = true) → Con Try.prog 113 0 [] [.agg [.p (.int .i64 ((g i).1)), .p (.int .i64 ((g i).2.1))], .agg [.p (.int .i64 x.1), .p (.int .i64 x.2.1)]] [] (.p (.bool (aft (g i) x)))),
  (((!pl) = true) → ((!pl) = true)),
  (((!pl) = true) → ((!pl) = true)),
  ((bif !pl then !aft (g i) x else false) = true),
  ((0 : Nat) < 1),
  ((0 : Nat) < 1),
  ((1 : Nat) ≤ 1),
  ((n : Nat) ≤ n),
  ((((n + 1) * 16) : Nat) ≤ 140737488355328),
  (((n + 1) : Nat) ≤ 9223372036854775807),
  ((0 : Nat) < 1),
  ((true = true) → ((1 : Nat) = 1)),
  ((0 : Nat) < 1),
  ((0 : Nat) < 1),
  ((0 : Int) ≤ (↑i : Int)),
  (((↑i : Int) : Int) < (↑nb : Int)),
  ((1 : Nat) ≤ 1),
  (((n + 1) : Nat) ≤ (n + 1)),
  ((((n + 1 + 1) * 16) : Nat) ≤ 140737488355328),
  (((n + 1 + 1) : Nat) ≤ 9223372036854775807),
  ((0 : Nat) < 1),
  ((true = true) → ((1 : Nat) = 1)),
  (((-9223372036854775808) : Int) ≤ ((↑i : Int) + 1)),
  ((((↑i : Int) + 1) : Int) ≤ 9223372036854775807),
  (((↑N : Int) : Int) = (↑N : Int)),
  ((nb : Nat) = nb),
  (∀ i_1 : Nat, (((i_1 : Nat) < nb) → (([.int .i64 ((g i_1).1), .int .i64 ((g i_1).2.1)] : List PV) = [.int .i64 ((g i_1).1), .int .i64 ((g i_1).2.1)]))),
  ((x.1 : Int) = x.1),
  ((x.2.1 : Int) = x.2.1),
  ((0 : Nat) = 0),
  ((0 : Nat) = 0),
  ((0 : Nat) = 0),
  ((0 : Nat) = 0),
  (true = true),
  ((((↑i : Int) + 1) : Int) = (↑(i + 1) : Int)),
  ((2 : Nat) = 2),
  ((1 : Nat) ≤ 1),
  ((1 : Nat) ≤ 1),
  (((↑N : Int) : Int) = (↑N : Int)),
  ((nb : Nat) = nb),
  (∀ i_1 : Nat, (((i_1 : Nat) < nb) → (([.int .i64 ((g i_1).1), .int .i64 ((g i_1).2.1)] : List PV) = [.int .i64 ((g i_1).1), .int .i64 ((g i_1).2.1)]))),
  ((2 : Nat) = 2),
  ((1 : Nat) ≤ 1),
  ((1 : Nat) ≤ 1),
  ((x.1 : Int) = x.1),
  ((x.2.1 : Int) = x.2.1),
  ((2 : Nat) = 2),
  ((1 : Nat) ≤ 1),
  ((1 : Nat) ≤ 1),
  ((0 : Int) = 0),
  ((2 : Nat) = 2),
  ((1 : Nat) ≤ 1),
  ((1 : Nat) ≤ 1),
  (((↑N : Int) : Int) = (↑N : Int)),
  ((0 : Nat) = 0),
  (((n + 1 + 1) : Nat) = (n + 1 + 1)),
  ((2 : Nat) = 2),
  (((n + 1 + 1) : Nat) ≤ (n + 1 + 1)),
  (∀ i_1 : Nat, (((i_1 : Nat) < (n + 1 + 1)) → (All (cvtL false [(3, ⟨true, 2, 1, (fun i_2 => [.p (.int .i64 (↑N : Int)), .ar 2 1061 0 (n + 1 + 1)])⟩), (1061, ⟨false, 2, (n + 1 + 1), (fun i_2 => (if (i_2 < n + 1) then (if (i_2 < n) then [.p (.int .i64 ((h i_2).1)), .p (.int .i64 ((h i_2).2.1))] else [.p (.int .i64 x.1), .p (.int .i64 x.2.1)]) else [.p (.int .i64 ((g i).1)), .p (.int .i64 ((g i).2.1))]))⟩), (1029, ⟨false, 2, 1, (fun i_2 => [.p (.int .i64 ((g i).1)), .p (.int .i64 ((g i).2.1))])⟩), (645, ⟨false, 2, 1, (fun i_2 => [.p (.int .i64 x.1), .p (.int .i64 x.2.1)])⟩), (0, ⟨true, 2, 1, (fun i_2 => [.p (.int .i64 (↑N : Int)), .p (.seq true 2 nb (fun i_3 => [.int .i64 ((g i_3).1), .int .i64 ((g i_3).2.1)]))])⟩), (1, ⟨true, 2, 1, (fun i_2 => [.p (.int .i64 x.1), .p (.int .i64 x.2.1)])⟩), (2, ⟨true, 2, 1, (fun i_2 => [.p (.int .i64 0), .p (.nil)])⟩)] [0, 1, 2, 3, 1061] 1 (if (i_1 < n + 1) then (if (i_1 < n) then [.p (.int .i64 ((h i_1).1)), .p (.int .i64 ((h i_1).2.1))] else [.p (.int .i64 x.1), .p (.int .i64 x.2.1)]) else [.p (.int .i64 ((g i).1)), .p (.int .i64 ((g i).2.1))])).2 ∧ (((cvtL false [(3, ⟨true, 2, 1, (fun i_2 => [.p (.int .i64 (↑N : Int)), .ar 2 1061 0 (n + 1 + 1)])⟩), (1061, ⟨false, 2, (n + 1 + 1), (fun i_2 => (if (i_2 < n + 1) then (if (i_2 < n) then [.p (.int .i64 ((h i_2).1)), .p (.int .i64 ((h i_2).2.1))] else [.p (.int .i64 x.1), .p (.int .i64 x.2.1)]) else [.p (.int .i64 ((g i).1)), .p (.int .i64 ((g i).2.1))]))⟩), (1029, ⟨false, 2, 1, (fun i_2 => [.p (.int .i64 ((g i).1)), .p (.int .i64 ((g i).2.1))])⟩), (645, ⟨false, 2, 1, (fun i_2 => [.p (.int .i64 x.1), .p (.int .i64 x.2.1)])⟩), (0, ⟨true, 2, 1, (fun i_2 => [.p (.int .i64 (↑N : Int)), .p (.seq true 2 nb (fun i_3 => [.int .i64 ((g i_3).1), .int .i64 ((g i_3).2.1)]))])⟩), (1, ⟨true, 2, 1, (fun i_2 => [.p (.int .i64 x.1), .p (.int .i64 x.2.1)])⟩), (2, ⟨true, 2, 1, (fun i_2 => [.p (.int .i64 0), .p (.nil)])⟩)] [0, 1, 2, 3, 1061] 1 (if (i_1 < n + 1) then (if (i_1 < n) then [.p (.int .i64 ((h i_1).1)), .p (.int .i64 ((h i_1).2.1))] else [.p (.int .i64 x.1), .p (.int .i64 x.2.1)]) else [.p (.int .i64 ((g i).1)), .p (.int .i64 ((g i).2.1))])).1 : List AV) = [.p (.int .i64 (if i_1 < n + 1 then if i_1 < n then (h i_1).1 else x.1 else (g i).1)), .p (.int .i64 (if i_1 < n + 1 then if i_1 < n then (h i_1).2.1 else x.2.1 else (g i).2.1))]))))]) := by kernel_rfl
theorem rLb (g : Nat → T_Bar) (nb N : Nat) (x : T_Bar) (i n : Nat) (pl : Bool) (h : Nat → T_Bar) :
    pieceOb Try.prog 0 [.reg [oT, oT, oT, oT, oT], .dec true, .reg [oT, oT, oT, oT, oT, oT, oT, oT, oT, ⟨true, (some ⟨[], [], 1, [], .p (.bool (aft (g i) x))⟩), none⟩, oT, oT], .dec false, .reg [oT, oT, oT, oT, oT, oT, oT, oT, oT, oT, oT], .reg [oT, oT, oT], .head] [.code (cAt (bodyOf Try.f108) [1, 1, 1, 0, 1, 0, 0]), .inLoop (cAt (bodyOf Try.f108) [1, 1, 1, 0, 1, 0, 0]), .inBlock 0, .code (cAt (bodyOf Try.f108) [1, 1, 1, 1])] (SL g nb N x i n pl h) [0, 1, 2, 3, 805] 1 (SL g nb N x (i + 1) (n + 1) pl (snoc n h (g i))) =
    some ([.code (cAt (bodyOf Try.f108) [1, 1, 1, 0, 1, 0, 0]), .inLoop (cAt (bodyOf Try.f108) [1, 1, 1, 0, 1, 0, 0]), .inBlock 0, .code (cAt (bodyOf Try.f108) [1, 1, 1, 1])], [((0 : Nat) < 1),
  ((decide ((↑i : Int) < (↑nb : Int))) = true),
  (((!pl) = true) → ((!pl) = true)),
  (((!pl) = true) → ((0 : Nat) < 1)),
  (((!pl) = true) → ((!pl) = true)),
  (((!pl) = true) → ((!pl) = true)),
  (((!pl) = true) → ((0 : Int) ≤ (↑i : Int))),
  (((!pl) = true) → (((↑i : Int) : Int) < (↑nb : Int))),
  (((!pl) = true) → ((!pl) = true)),
  (((!pl) = true) → ((0 : Nat) < 1)),
  (((!pl) = true) → ((!pl) = true)),
  (((!pl) = true) → ((!pl) = true)),
  (((!pl) = true) → Con Try.prog 113 0 [] [.agg [.p (.int .i64 ((g i).1)), .p (.int .i64 ((g i).2.1))], .agg [.p (.int .i64 x.1), .p (.int .i64 x.2.1)]] [] (.p (.bool (aft (g i) x)))),
  (((!pl) = true) → ((!pl) = true)),
  (((!pl) = true) → ((!pl) = true)),
  ((bif !pl then !aft (g i) x else false) = false),
  ((0 : Nat) < 1),
  ((0 : Nat) < 1),
  ((0 : Int) ≤ (↑i : Int)),
  (((↑i : Int) : Int) < (↑nb : Int)),
  ((1 : Nat) ≤ 1),
  ((n : Nat) ≤ n),
  ((((n + 1) * 16) : Nat) ≤ 140737488355328),
  (((n + 1) : Nat) ≤ 9223372036854775807),
  ((0 : Nat) < 1),
  ((true = true) → ((1 : Nat) = 1)),
  (((-9223372036854775808) : Int) ≤ ((↑i : Int) + 1)),
  ((((↑i : Int) + 1) : Int) ≤ 9223372036854775807),
  (((↑N : Int) : Int) = (↑N : Int)),
  ((nb : Nat) = nb),
  (∀ i_1 : Nat, (((i_1 : Nat) < nb) → (([.int .i64 ((g i_1).1), .int .i64 ((g i_1).2.1)] : List PV) = [.int .i64 ((g i_1).1), .int .i64 ((g i_1).2.1)]))),
  ((x.1 : Int) = x.1),
  ((x.2.1 : Int) = x.2.1),
  ((0 : Nat) = 0),
  ((0 : Nat) = 0),
  ((0 : Nat) = 0),
  ((0 : Nat) = 0),
  (pl = pl),
  ((((↑i : Int) + 1) : Int) = (↑(i + 1) : Int)),
  ((2 : Nat) = 2),
  ((1 : Nat) ≤ 1),
  ((1 : Nat) ≤ 1),
  (((↑N : Int) : Int) = (↑N : Int)),
  ((nb : Nat) = nb),
  (∀ i_1 : Nat, (((i_1 : Nat) < nb) → (([.int .i64 ((g i_1).1), .int .i64 ((g i_1).2.1)] : List PV) = [.int .i64 ((g i_1).1), .int .i64 ((g i_1).2.1)]))),
  ((2 : Nat) = 2),
  ((1 : Nat) ≤ 1),
  ((1 : Nat) ≤ 1),
  ((x.1 : Int) = x.1),
  ((x.2.1 : Int) = x.2.1),
  ((2 : Nat) = 2),
  ((1 : Nat) ≤ 1),
  ((1 : Nat) ≤ 1),
  ((0 : Int) = 0),
  ((2 : Nat) = 2),
  ((1 : Nat) ≤ 1),
  ((1 : Nat) ≤ 1),
  (((↑N : Int) : Int) = (↑N : Int)),
  ((0 : Nat) = 0),
  (((n + 1) : Nat) = (n + 1)),
  ((2 : Nat) = 2),
  (((n + 1) : Nat) ≤ (n + 1)),
  (∀ i_1 : Nat, (((i_1 : Nat) < (n + 1)) → (All (cvtL false [(3, ⟨true, 2, 1, (fun i_2 => [.p (.int .i64 (↑N : Int)), .ar 2 805 0 (n + 1)])⟩), (805, ⟨false, 2, (n + 1), (fun i_2 => (if (i_2 < n) then [.p (.int .i64 ((h i_2).1)), .p (.int .i64 ((h i_2).2.1))] else [.p (.int .i64 ((g i).1)), .p (.int .i64 ((g i).2.1))]))⟩), (773, ⟨false, 2, 1, (fun i_2 => [.p (.int .i64 ((g i).1)), .p (.int .i64 ((g i).2.1))])⟩), (0, ⟨true, 2, 1, (fun i_2 => [.p (.int .i64 (↑N : Int)), .p (.seq true 2 nb (fun i_3 => [.int .i64 ((g i_3).1), .int .i64 ((g i_3).2.1)]))])⟩), (1, ⟨true, 2, 1, (fun i_2 => [.p (.int .i64 x.1), .p (.int .i64 x.2.1)])⟩), (2, ⟨true, 2, 1, (fun i_2 => [.p (.int .i64 0), .p (.nil)])⟩)] [0, 1, 2, 3, 805] 1 (if (i_1 < n) then [.p (.int .i64 ((h i_1).1)), .p (.int .i64 ((h i_1).2.1))] else [.p (.int .i64 ((g i).1)), .p (.int .i64 ((g i).2.1))])).2 ∧ (((cvtL false [(3, ⟨true, 2, 1, (fun i_2 => [.p (.int .i64 (↑N : Int)), .ar 2 805 0 (n + 1)])⟩), (805, ⟨false, 2, (n + 1), (fun i_2 => (if (i_2 < n) then [.p (.int .i64 ((h i_2).1)), .p (.int .i64 ((h i_2).2.1))] else [.p (.int .i64 ((g i).1)), .p (.int .i64 ((g i).2.1))]))⟩), (773, ⟨false, 2, 1, (fun i_2 => [.p (.int .i64 ((g i).1)), .p (.int .i64 ((g i).2.1))])⟩), (0, ⟨true, 2, 1, (fun i_2 => [.p (.int .i64 (↑N : Int)), .p (.seq true 2 nb (fun i_3 => [.int .i64 ((g i_3).1), .int .i64 ((g i_3).2.1)]))])⟩), (1, ⟨true, 2, 1, (fun i_2 => [.p (.int .i64 x.1), .p (.int .i64 x.2.1)])⟩), (2, ⟨true, 2, 1, (fun i_2 => [.p (.int .i64 0), .p (.nil)])⟩)] [0, 1, 2, 3, 805] 1 (if (i_1 < n) then [.p (.int .i64 ((h i_1).1)), .p (.int .i64 ((h i_1).2.1))] else [.p (.int .i64 ((g i).1)), .p (.int .i64 ((g i).2.1))])).1 : List AV) = [.p (.int .i64 (if i_1 < n then (h i_1).1 else (g i).1)), .p (.int .i64 (if i_1 < n then (h i_1).2.1 else (g i).2.1))]))))]) := by kernel_rfl
theorem rLc (g : Nat → T_Bar) (nb N : Nat) (x : T_Bar) (i n : Nat) (pl : Bool) (h : Nat → T_Bar) :
    pathOb Try.prog Try.f108 0 [.reg [oT, oT, oT, oT, oT], .dec false, .reg [oT, oT], .dec true, .reg [oT, oT, oT, oT, oT, oT, oT], .reg [oT, oT]] [.code (cAt (bodyOf Try.f108) [1, 1, 1, 0, 1, 0, 0]), .inLoop (cAt (bodyOf Try.f108) [1, 1, 1, 0, 1, 0, 0]), .inBlock 0, .code (cAt (bodyOf Try.f108) [1, 1, 1, 1])] (SL g nb N x i n pl h) [357] 1 [(0, brOb (n + 1) (snoc n h x))] (.agg [.p (.int .i64 N), .ar 2 0 0 (n + 1)]) =
    some [((0 : Nat) < 1),
  ((decide ((↑i : Int) < (↑nb : Int))) = false),
  ((!pl) = true),
  ((0 : Nat) < 1),
  ((0 : Nat) < 1),
  ((1 : Nat) ≤ 1),
  ((n : Nat) ≤ n),
  ((((n + 1) * 16) : Nat) ≤ 140737488355328),
  (((n + 1) : Nat) ≤ 9223372036854775807),
  ((0 : Nat) < 1),
  ((true = true) → ((1 : Nat) = 1)),
  ((0 : Nat) < 1),
  ((0 : Nat) < 1),
  ((true = true) → ((1 : Nat) = 1)),
  ((0 : Nat) < 1),
  (((↑N : Int) : Int) = (↑N : Int)),
  ((0 : Nat) = 0),
  (((n + 1) : Nat) = (n + 1)),
  ((2 : Nat) = 2),
  (((n + 1) : Nat) ≤ (n + 1)),
  (∀ i_1 : Nat, (((i_1 : Nat) < (n + 1)) → (All (cvtL false [(2, ⟨true, 2, 1, (fun i_2 => [.p (.int .i64 (↑N : Int)), .ar 2 357 0 (n + 1)])⟩), (3, ⟨true, 2, 1, (fun i_2 => [.p (.int .i64 (↑N : Int)), .ar 2 357 0 (n + 1)])⟩), (357, ⟨false, 2, (n + 1), (fun i_2 => (if (i_2 < n) then [.p (.int .i64 ((h i_2).1)), .p (.int .i64 ((h i_2).2.1))] else [.p (.int .i64 x.1), .p (.int .i64 x.2.1)]))⟩), (325, ⟨false, 2, 1, (fun i_2 => [.p (.int .i64 x.1), .p (.int .i64 x.2.1)])⟩), (0, ⟨true, 2, 1, (fun i_2 => [.p (.int .i64 (↑N : Int)), .p (.seq true 2 nb (fun i_3 => [.int .i64 ((g i_3).1), .int .i64 ((g i_3).2.1)]))])⟩), (1, ⟨true, 2, 1, (fun i_2 => [.p (.int .i64 x.1), .p (.int .i64 x.2.1)])⟩)] [357] 1 (if (i_1 < n) then [.p (.int .i64 ((h i_1).1)), .p (.int .i64 ((h i_1).2.1))] else [.p (.int .i64 x.1), .p (.int .i64 x.2.1)])).2 ∧ (((cvtL false [(2, ⟨true, 2, 1, (fun i_2 => [.p (.int .i64 (↑N : Int)), .ar 2 357 0 (n + 1)])⟩), (3, ⟨true, 2, 1, (fun i_2 => [.p (.int .i64 (↑N : Int)), .ar 2 357 0 (n + 1)])⟩), (357, ⟨false, 2, (n + 1), (fun i_2 => (if (i_2 < n) then [.p (.int .i64 ((h i_2).1)), .p (.int .i64 ((h i_2).2.1))] else [.p (.int .i64 x.1), .p (.int .i64 x.2.1)]))⟩), (325, ⟨false, 2, 1, (fun i_2 => [.p (.int .i64 x.1), .p (.int .i64 x.2.1)])⟩), (0, ⟨true, 2, 1, (fun i_2 => [.p (.int .i64 (↑N : Int)), .p (.seq true 2 nb (fun i_3 => [.int .i64 ((g i_3).1), .int .i64 ((g i_3).2.1)]))])⟩), (1, ⟨true, 2, 1, (fun i_2 => [.p (.int .i64 x.1), .p (.int .i64 x.2.1)])⟩)] [357] 1 (if (i_1 < n) then [.p (.int .i64 ((h i_1).1)), .p (.int .i64 ((h i_1).2.1))] else [.p (.int .i64 x.1), .p (.int .i64 x.2.1)])).1 : List AV) = [.p (.int .i64 (if i_1 < n then (h i_1).1 else x.1)), .p (.int .i64 (if i_1 < n then (h i_1).2.1 else x.2.1))])))),
  (∀ i_1 : Nat, (((i_1 : Nat) < (n + 1)) → All []))] := by kernel_rfl
theorem rLd (g : Nat → T_Bar) (nb N : Nat) (x : T_Bar) (i n : Nat) (pl : Bool) (h : Nat → T_Bar) :
    pathOb Try.prog Try.f108 0 [.reg [oT, oT, oT, oT, oT], .dec false, .reg [oT, oT], .dec false, .reg [oT, oT]] [.code (cAt (bodyOf Try.f108) [1, 1, 1, 0, 1, 0, 0]), .inLoop (cAt (bodyOf Try.f108) [1, 1, 1, 0, 1, 0, 0]), .inBlock 0, .code (cAt (bodyOf Try.f108) [1, 1, 1, 1])] (SL g nb N x i n pl h) [4] 1 [(0, brOb n h)] (.agg [.p (.int .i64 N), .ar 2 0 0 n]) =
    some [((0 : Nat) < 1),
  ((decide ((↑i : Int) < (↑nb : Int))) = false),
  ((!pl) = false),
  ((0 : Nat) < 1),
  ((0 : Nat) < 1),
  ((true = true) → ((1 : Nat) = 1)),
  ((0 : Nat) < 1),
  (((↑N : Int) : Int) = (↑N : Int)),
  ((0 : Nat) = 0),
  ((n : Nat) = n),
  ((2 : Nat) = 2),
  ((n : Nat) ≤ n),
  (∀ i_1 : Nat, (((i_1 : Nat) < n) → (All [] ∧ (([.p (.int .i64 ((h i_1).1)), .p (.int .i64 ((h i_1).2.1))] : List AV) = [.p (.int .i64 ((h i_1).1)), .p (.int .i64 ((h i_1).2.1))])))),
  (∀ i_1 : Nat, (((i_1 : Nat) < n) → All []))] := by kernel_rfl
theorem snoc_lt {n : Nat} {h : Nat → T_Bar} {x : T_Bar} {s : Nat} (hs : s < n) : snoc n h x s = h s := by
  simp only [snoc, hs, if_true]
theorem snoc_ge {n : Nat} {h : Nat → T_Bar} {x : T_Bar} {s : Nat} (hs : ¬ s < n) : snoc n h x s = x := by
  simp only [snoc, hs, if_false]
theorem snoc_mem (n : Nat) (h : Nat → T_Bar) (x y : T_Bar) : (∃ s, s < n + 1 ∧ snoc n h x s = y) ↔ (∃ s, s < n ∧ h s = y) ∨ x = y := by
  constructor
  · rintro ⟨s, h1, h2⟩
    by_cases e : s < n
    · rw [snoc_lt e] at h2; exact .inl ⟨s, e, h2⟩
    · rw [snoc_ge e] at h2; exact .inr h2
  · rintro (⟨s, h1, h2⟩ | h2)
    · exact ⟨s, by omega, by rw [snoc_lt h1]; exact h2⟩
    · exact ⟨n, by omega, by rw [snoc_ge (Nat.lt_irrefl n)]; exact h2⟩
def insD (g : Nat → T_Bar) (x : T_Bar) : Nat → Bool × Nat × (Nat → T_Bar)
  | 0 => (false, 0, fun _ => (0, 0, ()))
  | i + 1 =>
    if (bif !(insD g x i).1 then !aft (g i) x else false) = true then (true, (insD g x i).2.1 + 1 + 1, snoc ((insD g x i).2.1 + 1) (snoc (insD g x i).2.1 (insD g x i).2.2 x) (g i))
    else ((insD g x i).1, (insD g x i).2.1 + 1, snoc (insD g x i).2.1 (insD g x i).2.2 (g i))
def insR (g : Nat → T_Bar) (nb : Nat) (x : T_Bar) : Nat × (Nat → T_Bar) :=
  if (insD g x nb).1 = true then ((insD g x nb).2.1, (insD g x nb).2.2) else ((insD g x nb).2.1 + 1, snoc (insD g x nb).2.1 (insD g x nb).2.2 x)
theorem insD_n (g : Nat → T_Bar) (x : T_Bar) : ∀ i, (insD g x i).2.1 = i + (if (insD g x i).1 = true then 1 else 0)
  | 0 => rfl
  | i + 1 => by
    have ih := insD_n g x i
    simp only [insD]
    split
    · rename_i h
      have hf : (insD g x i).1 = false := by
        cases e : (insD g x i).1 with
        | false => rfl
        | true => rw [e] at h; simp at h
      rw [hf] at ih
      simp only [if_true]
      simp at ih
      omega
    · simp only
      omega
theorem insD_mem (g : Nat → T_Bar) (x y : T_Bar) : ∀ i, (∃ s, s < (insD g x i).2.1 ∧ (insD g x i).2.2 s = y) ↔ (∃ s, s < i ∧ g s = y) ∨ ((insD g x i).1 = true ∧ x = y)
  | 0 => by
    constructor
    · rintro ⟨s, h1, _⟩; exact absurd h1 (Nat.not_lt_zero _)
    · rintro (⟨s, h1, _⟩ | ⟨h1, _⟩)
      · exact absurd h1 (Nat.not_lt_zero _)
      · cases h1
  | i + 1 => by
    have ih := insD_mem g x y i
    have step : (∃ s, s < i + 1 ∧ g s = y) ↔ (∃ s, s < i ∧ g s = y) ∨ g i = y := by
      constructor
      · rintro ⟨s, h1, h2⟩
        by_cases e : s = i
        · right; rw [← e]; exact h2
        · exact .inl ⟨s, by omega, h2⟩
      · rintro (⟨s, h1, h2⟩ | h2)
        · exact ⟨s, by omega, h2⟩
        · exact ⟨i, by omega, h2⟩
    simp only [insD]
    split
    · rename_i h
      have hf : (insD g x i).1 = false := by
        cases e : (insD g x i).1 with
        | false => rfl
        | true => rw [e] at h; simp at h
      simp only [snoc_mem, ih, step, hf]
      constructor
      · rintro ((( h | ⟨h, _⟩) | h) | h)
        · exact .inl (.inl h)
        · cases h
        · exact .inr ⟨trivial, h⟩
        · exact .inl (.inr h)
      · rintro ((h | h) | ⟨_, h⟩)
        · exact .inl (.inl (.inl h))
        · exact .inr h
        · exact .inl (.inr h)
    · simp only [snoc_mem, ih, step]
      constructor
      · rintro ((h | h) | h)
        · exact .inl (.inl h)
        · exact .inr h
        · exact .inl (.inr h)
      · rintro ((h | h) | h)
        · exact .inl (.inl h)
        · exact .inr h
        · exact .inl (.inr h)
theorem insR_mem (g : Nat → T_Bar) (nb : Nat) (x y : T_Bar) : (∃ s, s < (insR g nb x).1 ∧ (insR g nb x).2 s = y) ↔ (∃ s, s < nb ∧ g s = y) ∨ x = y := by
  have h := insD_mem g x y nb
  unfold insR
  split
  · rename_i hp
    simp only [h, hp, true_and]
  · rename_i hp
    simp only [snoc_mem, h]
    constructor
    · rintro ((h | ⟨h, _⟩) | h)
      · exact .inl h
      · exact absurd h hp
      · exact .inr h
    · rintro (h | h)
      · exact .inl (.inl h)
      · exact .inr h
theorem insR_n (g : Nat → T_Bar) (nb : Nat) (x : T_Bar) : (insR g nb x).1 = nb + 1 := by
  have h := insD_n g x nb
  unfold insR
  split
  · rename_i hp; rw [if_pos hp] at h; exact h
  · rename_i hp; rw [if_neg hp] at h; show (insD g x nb).2.1 + 1 = nb + 1; omega
theorem con_l2Put (g : Nat → T_Bar) (nb N : Nat) (x : T_Bar) (hnb : nb ≤ 1048576) : Con Try.prog 108 0 [] [grG g nb N, brA x] [(0, brOb (insR g nb x).1 (insR g nb x).2)] (.agg [.p (.int .i64 N), .ar 2 0 0 (insR g nb x).1]) := by
  refine con_start Try.func108 rfl (by kernel_rfl) rfl (fun c hc => ?_)
  have lp : ∀ d i, i + d = nb → Run Try.prog c 108 [.code (cAt (bodyOf Try.f108) [1, 1, 1, 0, 1, 0, 0]), .inLoop (cAt (bodyOf Try.f108) [1, 1, 1, 0, 1, 0, 0]), .inBlock 0, .code (cAt (bodyOf Try.f108) [1, 1, 1, 1])] (SL g nb N x i (insD g x i).2.1 (insD g x i).1 (insD g x i).2.2) (Post c [(0, brOb (insR g nb x).1 (insR g nb x).2)] (.agg [.p (.int .i64 N), .ar 2 0 0 (insR g nb x).1])) := by
    intro d
    induction d with
    | zero =>
      intro i hi
      obtain rfl : i = nb := by omega
      have hd : decide ((i : Int) < (i : Int)) = false := by simp
      have hn := insD_n g x i
      have hle : (insD g x i).2.1 ≤ i + 1 := by split at hn <;> omega
      cases hp : (insD g x i).1 with
      | true =>
        rw [show insR g i x = ((insD g x i).2.1, (insD g x i).2.2) by simp [insR, hp]]
        refine path_ok mixed Try.func108 hc (rLd g i N x i (insD g x i).2.1 true (insD g x i).2.2) ?_
        simp only [All]
        repeat' (first | exact trivial | with_reducible apply And.intro)
        all_goals (first | omega | rfl | (intros; first | assumption | exact True.intro | rfl | exact absurd (show false = true by assumption) Bool.false_ne_true | ((repeat' (first | assumption | apply anda | apply notf)); done)) | (intro i hi; simp [All]))
      | false =>
        rw [show insR g i x = ((insD g x i).2.1 + 1, snoc (insD g x i).2.1 (insD g x i).2.2 x) by simp [insR, hp]]
        refine path_ok mixed Try.func108 hc (rLc g i N x i (insD g x i).2.1 false (insD g x i).2.2) ?_
        simp only [All]
        repeat' (first | exact trivial | with_reducible apply And.intro)
        all_goals (first | omega | rfl | (intros; first | assumption | exact True.intro | rfl | exact absurd (show false = true by assumption) Bool.false_ne_true | ((repeat' (first | assumption | apply anda | apply notf)); done)) | (intro j hj; simp [All]; done) | (intro j hj; by_cases h : j < (insD g x i).2.1 <;> simp [h, snoc, cvtL, cvt, tg, tru, All]))
    | succ d ih =>
      intro i hi
      have hd : decide ((i : Int) < (nb : Int)) = true := by simp; omega
      have hn := insD_n g x i
      have hle : (insD g x i).2.1 ≤ i + 1 := by split at hn <;> omega
      have hca := con_l2After (g i) x
      have hs : insD g x (i + 1) = if (bif !(insD g x i).1 then !aft (g i) x else false) = true then (true, (insD g x i).2.1 + 1 + 1, snoc ((insD g x i).2.1 + 1) (snoc (insD g x i).2.1 (insD g x i).2.2 x) (g i)) else ((insD g x i).1, (insD g x i).2.1 + 1, snoc (insD g x i).2.1 (insD g x i).2.2 (g i)) := rfl
      have hih := ih (i + 1) (by omega)
      cases ht : (bif !(insD g x i).1 then !aft (g i) x else false) with
      | true =>
        rw [hs, if_pos ht] at hih
        refine piece_ok mixed hc (rLa g nb N x i (insD g x i).2.1 (insD g x i).1 (insD g x i).2.2) ?_ hih
        simp only [All]
        repeat' (first | exact trivial | with_reducible apply And.intro)
        all_goals (first | omega | rfl | (intros; first | assumption | exact True.intro | rfl | exact absurd (show false = true by assumption) Bool.false_ne_true | ((repeat' (first | assumption | apply anda | apply notf)); done)) | (intros; exact hca) | (exact ht) | (intro j hj; simp [All]; done) | (intro j hj; by_cases h : j < (insD g x i).2.1 + 1 <;> by_cases h' : j < (insD g x i).2.1 <;> simp [h, h', snoc, cvtL, cvt, tg, tru, All]) | (simp; omega))
      | false =>
        rw [hs, if_neg (by rw [ht]; simp)] at hih
        refine piece_ok mixed hc (rLb g nb N x i (insD g x i).2.1 (insD g x i).1 (insD g x i).2.2) ?_ hih
        simp only [All]
        repeat' (first | exact trivial | with_reducible apply And.intro)
        all_goals (first | omega | rfl | (intros; first | assumption | exact True.intro | rfl | exact absurd (show false = true by assumption) Bool.false_ne_true | ((repeat' (first | assumption | apply anda | apply notf)); done)) | (intros; exact hca) | (exact ht) | (intro j hj; simp [All]; done) | (intro j hj; by_cases h : j < (insD g x i).2.1 <;> simp [h, snoc, cvtL, cvt, tg, tru, All]))
  refine piece_ok mixed hc (rLz g nb N x) ?_ (lp nb 0 (by omega))
  simp only [All]
  repeat' (first | exact trivial | with_reducible apply And.intro)
  all_goals (first | omega | rfl | (intros; first | assumption | exact True.intro | rfl | exact absurd (show false = true by assumption) Bool.false_ne_true | ((repeat' (first | assumption | apply anda | apply notf)); done)) | (intro i hi; simp [All]))
end Go.Proofs.Ytgdbnnmogddkaaa.Mach
namespace Go.Proofs.Ytgdbnnmogddkaaa.Mach
open Go Go.Shelf Go.RowKit Go.Lib Go.Sort
set_option linter.unusedVariables false
set_option linter.unusedSimpArgs false
def sW (w : World) (b base q : Nat) (F : Array Value) (os : Array Obj) : World := grow (putRow id (Sort.ahead w q) b base F) os
theorem sW_at {w : World} {b base q : Nat} {F : Array Value} {os : Array Obj} {cells : Array Value} {el : TypeId} {fr : Nat × Nat} (hb : w.heap[b]? = some (.cells cells el fr)) :
    (sW w b base q F os).heap[b]? = some (.cells (putCells id base F cells) el fr) := by
  have hlt : b < w.heap.size := by
    rcases Nat.lt_or_ge b w.heap.size with h | h
    · exact h
    · rw [Array.getElem?_eq_none h] at hb; cases hb
  rw [sW, heap_grow_old _ _ (by rw [size_putRow]; exact hlt)]
  simp only [putRow, mapBlock, heap_ahead, Array.getElem?_modify, if_true, hb, Option.map_some, onCells]
theorem sW_ne {w : World} {b base q c : Nat} {F : Array Value} {os : Array Obj} (hne : c ≠ b) (hlt : c < w.heap.size) :
    (sW w b base q F os).heap[c]? = w.heap[c]? := by
  rw [sW, heap_grow_old _ _ (by rw [size_putRow]; exact hlt)]
  simp only [putRow, mapBlock, heap_ahead, Array.getElem?_modify, if_neg (Ne.symm hne)]
theorem putCells_size (base : Nat) (F cells : Array Value) : (putCells id base F cells).size = cells.size := by simp [putCells]
theorem putCells_in (base : Nat) (F cells : Array Value) (t : Nat) (h : t < F.size) (hs : base + t < cells.size) : (putCells id base F cells)[base + t]? = some F[t]! := by
  simp only [putCells, Array.getElem?_mapIdx, Array.getElem?_eq_getElem hs, Option.map_some, id]
  rw [if_pos ⟨by omega, by omega⟩, show base + t - base = t by omega]
theorem own_one (β : Nat → Option Addr) (ob : Ob) (b : Nat) : ownOf β [(0, ob)] b ↔ ∃ a, β 0 = some a ∧ a.block = b := by
  constructor
  · rintro ⟨o, ob', a, h1, h2, h3⟩
    have : o = 0 := by
      simp only [List.lookup] at h1
      split at h1
      · rename_i h; simpa using h
      · cases h1
    subst this
    exact ⟨a, h2, h3⟩
  · rintro ⟨a, h1, h2⟩
    exact ⟨0, ob, a, rfl, h1, h2⟩
theorem ow_one (X : Nat → Prop) (β : Nat → Option Addr) (ob ob' : Ob) : ow X β [(0, ob)] = ow X β [(0, ob')] := by
  funext t b
  simp only [ow, own_one]
theorem look_one {ob ob' : Ob} {o : Nat} (h : List.lookup o [(0, ob)] = some ob') : o = 0 ∧ ob' = ob := by
  simp only [List.lookup] at h
  split at h
  · rename_i h1
    exact ⟨by simpa using h1, by simpa using h.symm⟩
  · cases h
theorem sW_post {w : World} {β : Nat → Option Addr} {X : Nat → Prop} {z n : Nat} {fo f' : Nat → List AV} {b base q : Nat} {F : Array Value} {os : Array Obj} {cells : Array Value} {el : TypeId} {res : AV} {v : Value}
    (hβ : β 0 = some ⟨b, base, none⟩) (hh : w.heap[b]? = some (.cells cells el (0, 0)))
    (hS : Sep β [(0, ⟨false, z, n, fo⟩)])
    (hsz : base + n * z ≤ cells.size) (hF : F.size = n * z)
    (hrow : ∀ i, i < n → ∀ j, j < z → One (F[i * z + j]!) ∧ ∀ (w : World) (own : Bool → Nat → Prop), VR w β own ((f' i).getD j anyA) (F[i * z + j]!))
    (hv : ∀ (w : World) (own : Bool → Nat → Prop), VR w β own res v) :
    ∃ v' β', Ending.returned v = .returned v' ∧ HR (sW w b base q F os) β' (fr X β' [(0, ⟨false, z, n, f'⟩)]) [(0, ⟨false, z, n, f'⟩)] ∧ Sep β' [(0, ⟨false, z, n, f'⟩)] ∧
      VR (sW w b base q F os) β' (fr X β' [(0, ⟨false, z, n, f'⟩)]) res v' ∧ Ext w (ow X β [(0, ⟨false, z, n, fo⟩)]) (sW w b base q F os) (ow X β' [(0, ⟨false, z, n, f'⟩)]) ∧
      (∀ o a, β o = some a → β' o = some a) ∧ (∀ b, ownOf β' [(0, ⟨false, z, n, f'⟩)] b → ownOf β [(0, ⟨false, z, n, fo⟩)] b ∨ w.heap.size ≤ b) ∧ ∀ k, β' k ≠ none → β k ≠ none ∨ (1 ≤ k ∧ k < 1 + 32) := by
  have hown : ownOf β [(0, ⟨false, z, n, fo⟩)] b := (own_one _ _ _).2 ⟨_, hβ, rfl⟩
  refine ⟨v, β, rfl, ?_, ?_, hv _ _, ?_, fun o a h => h, fun b' h => .inl ?_, fun k h => .inl h⟩
  · intro o ob hl
    obtain ⟨rfl, rfl⟩ := look_one hl
    refine .inr (.inl ⟨b, base, _, el, hβ, sW_at hh, ?_⟩)
    intro i hi j hj
    change i < n at hi
    change j < z at hj
    show ∃ v, (putCells id base F cells)[base + (i * z + j)]? = some v ∧ One v ∧ _
    have hlt : i * z + j < n * z := by
      have h1 := Nat.mul_le_mul_right z (show i + 1 ≤ n from hi)
      rw [Nat.add_mul, Nat.one_mul] at h1
      have h2 : j < z := hj
      omega
    exact ⟨F[i * z + j]!, putCells_in base F cells _ (by omega) (by omega), (hrow i hi j hj).1, (hrow i hi j hj).2 _ _⟩
  · intro o o' ob ob' a a' h1 h2 h3 h4 h5
    obtain ⟨rfl, rfl⟩ := look_one h1
    obtain ⟨rfl, rfl⟩ := look_one h2
    rfl
  · rw [ow_one X β ⟨false, z, n, f'⟩ ⟨false, z, n, fo⟩]
    refine ⟨rfl, rfl, rfl, by rw [sW, size_grow, size_putRow]; exact Nat.le_add_right _ _, fun t c hc hn => ?_, fun t c hc h => h, fun c cs e f h => ?_, fun c es ck h => ?_⟩
    · refine sW_ne (fun h => hn ?_) hc
      subst h
      exact .inl hown
    · by_cases hcb : c = b
      · subst hcb
        rw [hh] at h
        injection h with h
        injection h with h1 h2 h3
        subst h1
        exact ⟨_, _, _, sW_at hh, by rw [putCells_size]; exact Nat.le_refl _⟩
      · have hlt : c < w.heap.size := by
          rcases Nat.lt_or_ge c w.heap.size with h' | h'
          · exact h'
          · rw [Array.getElem?_eq_none h'] at h; cases h
        exact ⟨cs, e, f, by rw [sW_ne hcb hlt]; exact h, Nat.le_refl _⟩
    · by_cases hcb : c = b
      · subst hcb
        rw [hh] at h
        cases h
      · have hlt : c < w.heap.size := by
          rcases Nat.lt_or_ge c w.heap.size with h' | h'
          · exact h'
          · rw [Array.getElem?_eq_none h'] at h; cases h
        exact ⟨es, ck, by rw [sW_ne hcb hlt]; exact h⟩
  · rw [own_one] at h ⊢; exact h
theorem vr_int {w : World} {β : Nat → Option Addr} {own : Bool → Nat → Prop} {k : IntKind} {x : Int} {v : Value} (h : VR w β own (.p (.int k x)) v) : v = .int k x := by
  cases h with
  | p _ _ hp => cases hp; rfl
def ltB (x y : T_Bar) : Bool := ltOf cmpB x y
theorem ltB_iff (x y : T_Bar) : ltB x y = true ↔ x.1 < y.1 ∨ (x.1 = y.1 ∧ x.2.1 < y.2.1) := by
  rw [show ltB x y = decide (cmpB x y < 0) from rfl, decide_eq_true_iff]
  unfold cmpB
  rcases Int.lt_trichotomy x.1 y.1 with h | h | h
  · rw [cmpI_1 h]; simp; omega
  · rw [cmpI_3 (x := x.1) (y := y.1) (by omega) (by omega)]
    simp only [if_true]
    rcases Int.lt_trichotomy x.2.1 y.2.1 with h' | h' | h'
    · rw [cmpI_1 h']; simp; omega
    · rw [cmpI_3 (x := x.2.1) (y := y.2.1) (by omega) (by omega)]; simp; omega
    · rw [cmpI_2 h']; simp; omega
  · rw [cmpI_2 h]; simp; omega
theorem swoB : SWO (ltOf cmpB) where
  irrefl x := by
    cases h : ltOf cmpB x x with
    | false => rfl
    | true => have := (ltB_iff x x).1 h; omega
  trans x y z h1 h2 := by
    have h1 := (ltB_iff x y).1 h1
    have h2 := (ltB_iff y z).1 h2
    exact (ltB_iff x z).2 (by omega)
  ntrans x y z h1 h2 := by
    cases h : ltOf cmpB x z with
    | false => rfl
    | true =>
      have h3 := (ltB_iff x z).1 h
      have e1 : ¬ (x.1 < y.1 ∨ (x.1 = y.1 ∧ x.2.1 < y.2.1)) := fun h' => by rw [show ltOf cmpB x y = true from (ltB_iff x y).2 h'] at h1; cases h1
      have e2 : ¬ (y.1 < z.1 ∨ (y.1 = z.1 ∧ y.2.1 < z.2.1)) := fun h' => by rw [show ltOf cmpB y z = true from (ltB_iff y z).2 h'] at h2; cases h2
      omega
theorem totB (x y : T_Bar) (h1 : ltOf cmpB x y = false) (h2 : ltOf cmpB y x = false) : x = y := by
  have e1 : ¬ (x.1 < y.1 ∨ (x.1 = y.1 ∧ x.2.1 < y.2.1)) := fun h' => by rw [show ltOf cmpB x y = true from (ltB_iff x y).2 h'] at h1; cases h1
  have e2 : ¬ (y.1 < x.1 ∨ (y.1 = x.1 ∧ y.2.1 < x.2.1)) := fun h' => by rw [show ltOf cmpB y x = true from (ltB_iff y x).2 h'] at h2; cases h2
  obtain ⟨a, b, ⟨⟩⟩ := x
  obtain ⟨c, d, ⟨⟩⟩ := y
  simp only [Prod.mk.injEq, and_true] at e1 e2 ⊢
  omega
def lstB (n : Nat) (h : Nat → T_Bar) : List T_Bar := (List.range n).map h
def srtL (l : List T_Bar) : List T_Bar := l.mergeSort fun x y => !(ltOf cmpB) y x
def srtB (n : Nat) (h : Nat → T_Bar) (i : Nat) : T_Bar := (srtL (lstB n h)).getD i (0, 0, ())
theorem encB_len (x : T_Bar) : (encB x).length = 2 := rfl
theorem encB_one (x : T_Bar) : ∀ v ∈ encB x, v.oneCell' = true := by
  intro v hv
  simp only [encB, List.mem_cons, List.not_mem_nil, or_false] at hv
  rcases hv with rfl | rfl <;> rfl
theorem srtL_len (l : List T_Bar) : (srtL l).length = l.length := by simp [srtL]
theorem lstB_len (n : Nat) (h : Nat → T_Bar) : (lstB n h).length = n := by simp [lstB]
theorem con_sortBars (n : Nat) (h : Nat → T_Bar) (hn : n ≤ 1048576) :
    Con Try.prog 109 1 [(0, brOb n h)] [.ar 2 0 0 n, .p (.fn 82)] [(0, brOb n (srtB n h))] (.tup []) := by
  refine ⟨by kernel_rfl, fun w β X vals hX hH hS hd hl ha => ?_⟩
  obtain ⟨v0, v1, rfl⟩ : ∃ v0 v1, vals = #[v0, v1] := by
    rcases vals with ⟨l⟩
    match l, hl with
    | [a, b], _ => exact ⟨a, b, rfl⟩
  have h0 : VR w β (ow X β [(0, brOb n h)]) (.ar 2 0 0 n) v0 := ha 0 (by simp)
  have h1 : VR w β (ow X β [(0, brOb n h)]) (.p (.fn 82)) v1 := ha 1 (by simp)
  have e1 : v1 = .func (.func 82) #[] #[] := by
    cases h1 with
    | p _ _ hp => cases hp; rfl
  subst e1
  have hnil : ∀ (w' : World) (own : Bool → Nat → Prop), VR w' β own (.tup []) (.tuple #[]) := fun w' own => .tup [] #[] rfl (fun j hj => absurd hj (Nat.not_lt_zero _))
  rcases Nat.eq_zero_or_pos n with rfl | hpos
  · obtain ⟨p, cap, rfl⟩ : ∃ p cap, v0 = .slice p 0 cap := by
      cases h0 with
      | ar0 => exact ⟨_, _, rfl⟩
      | ar => exact ⟨_, _, rfl⟩
    refine (AnyF.slices_SortFunc_none (P := Try.prog) (ρ := Try.sortBar_ren) { Try.sortBar with } p cap _ w).mono ?_
    rintro e w' ⟨rfl, rfl⟩
    refine ⟨_, β, rfl, ?_, ?_, hnil _ _, ?_, fun o a h => h, fun b' h' => .inl ?_, fun k h => .inl h⟩
    · intro o ob hl
      obtain ⟨rfl, rfl⟩ := look_one hl
      rcases hH 0 _ rfl with ⟨hb, _⟩ | ⟨b, base, cells, el, hβ, hh, _⟩ | hm
      · exact .inl ⟨hb, rfl⟩
      · exact .inr (.inl ⟨b, base, cells, el, hβ, hh, fun i hi => absurd hi (Nat.not_lt_zero _)⟩)
      · exact absurd hm.1 (by simp [brOb])
    · intro o o' ob ob' a a' h1 h2 h3 h4 h5
      obtain ⟨rfl, rfl⟩ := look_one h1
      obtain ⟨rfl, rfl⟩ := look_one h2
      rfl
    · rw [ow_one X β (brOb 0 (srtB 0 h)) (brOb 0 h)]
      exact Ext.refl _ _
    · rw [own_one] at h' ⊢; exact h'
  · cases h0 with
    | ar0 => exact absurd hpos (Nat.lt_irrefl 0)
    | ar _ _ _ _ b base c cells elem fr' hβ hh hsz hc =>
      rcases hH 0 _ rfl with ⟨hb, _⟩ | ⟨b', base', cells', el', hβ', hh', hrw⟩ | hm
      · rw [hb] at hβ; cases hβ
      · rw [hβ] at hβ'
        injection hβ' with hβ'
        injection hβ' with i1 i2 _
        subst i1; subst i2
        rw [hh] at hh'
        injection hh' with hh'
        injection hh' with i1 i2 i3
        subst i1; subst i2; subst i3
        have hcell : ∀ i, i < n → cells[base + (i * 2 + 0)]? = some (.int .i64 (h i).1) ∧ cells[base + (i * 2 + 1)]? = some (.int .i64 (h i).2.1) := by
          intro i hi
          obtain ⟨u, hu1, hu2, hu3⟩ := hrw i hi 0 (by simp [brOb])
          obtain ⟨u', hu1', hu2', hu3'⟩ := hrw i hi 1 (by simp [brOb])
          have := vr_int (k := .i64) (x := (h i).1) hu3
          subst this
          have := vr_int (k := .i64) (x := (h i).2.1) hu3'
          subst this
          exact ⟨hu1, hu1'⟩
        have hend : base + n * 2 ≤ cells.size := by
          have := (hcell (n - 1) (by omega)).2
          rcases Nat.lt_or_ge (base + ((n - 1) * 2 + 1)) cells.size with h' | h'
          · omega
          · rw [Array.getElem?_eq_none h'] at this; cases this
        have hdz : ((lstB n h).toArray).size = n := by simp [lstB]
        have hdi : ∀ i, i < n → ((lstB n h).toArray)[i]! = h i := by
          intro i hi
          rw [getElem!_pos _ i (by rw [hdz]; exact hi)]
          simp [lstB]
        have hHK : HoldsK encB 2 w b base (lstB n h).toArray := by
          intro t ht
          rw [size_flatK, hdz] at ht
          rw [get_flatK _ _ _ _ (by rw [hdz]; exact ht), hdi (t / 2) (by omega)]
          have hc := hcell (t / 2) (by omega)
          rcases Nat.mod_two_eq_zero_or_one t with h2 | h2
          · refine ⟨?_, by simp [World.frozen?, hh]⟩
            rw [h2]
            have : base + t = base + (t / 2 * 2 + 0) := by omega
            simp only [World.cell?, hh]
            rw [this, hc.1]; rfl
          · refine ⟨?_, by simp [World.frozen?, hh]⟩
            rw [h2]
            have : base + t = base + (t / 2 * 2 + 1) := by omega
            simp only [World.cell?, hh]
            rw [this, hc.2]; rfl
        have hblk : b < w.heap.size := by
          rcases Nat.lt_or_ge b w.heap.size with h' | h'
          · exact h'
          · rw [Array.getElem?_eq_none h'] at hh; cases hh
        have eg : ∀ args w, (callFunc 82 args).run Try.prog w = .ok (.enter 82 args) w := enters_of Try.func82 (by kernel_rfl) rfl
        have hcmp : CmpLays Try.prog 82 #[] encB 2 cmpB b base (lstB n h).toArray.size w := fun _ _ _ _ x y => cmp_bars x y _
        have hcon := AnyQ.slices_SortFunc_total Try.sortBar 2 Try.isAgg70 Try.sizeOf70 encB encB_len encB_one cmpB swoB 82 #[] b base c (lstB n h).toArray w eg hcmp hHK hblk (by rw [hdz]; omega) totB
        rw [hdz] at hcon
        change Calls Try.prog 109 _ _ _ at hcon
        rw [show base + 0 * 2 = base by omega]
        refine hcon.mono ?_
        rintro e w' ⟨rfl, q, os, rfl⟩
        refine sW_post (F := flatK encB 2 (srtL (lstB n h)).toArray) hβ hh hS hend (by rw [size_flatK]; simp [srtL_len, lstB_len]) (fun i hi j hj => ?_) hnil
        have hs : ((srtL (lstB n h)).toArray).size = n := by simp [srtL_len, lstB_len]
        have hi2 : i * 2 + j < n * 2 := by omega
        rw [get_flatK _ _ _ _ (by rw [hs]; exact hi2), show (i * 2 + j) / 2 = i by omega, show (i * 2 + j) % 2 = j by omega]
        have hgi : (srtL (lstB n h)).toArray[i]! = srtB n h i := by
          rw [getElem!_pos _ i (by rw [hs]; exact hi), srtB]
          simp [List.getD_eq_getElem?_getD, List.getElem?_eq_getElem (show i < (srtL (lstB n h)).length by rw [srtL_len, lstB_len]; exact hi)]
        rw [hgi]
        rcases (show j = 0 ∨ j = 1 by omega) with rfl | rfl
        · exact ⟨rfl, fun w' own => .p _ _ (.int _ _)⟩
        · exact ⟨rfl, fun w' own => .p _ _ (.int _ _)⟩
      · exact absurd hm.1 (by simp [brOb])
def leB (x y : T_Bar) : Prop := ltB y x = false
theorem leB_iff (x y : T_Bar) : leB x y ↔ x.1 < y.1 ∨ (x.1 = y.1 ∧ x.2.1 ≤ y.2.1) := by
  have h := ltB_iff y x
  unfold leB
  cases hb : ltB y x with
  | false => rw [hb] at h; simp only [Bool.false_eq_true, false_iff] at h; simp only [true_iff]; omega
  | true => rw [hb] at h; simp only [true_iff] at h; simp only [Bool.true_eq_false, false_iff]; omega
theorem aft_iff (x y : T_Bar) : aft x y = true ↔ leB x y := by
  rw [leB_iff]
  unfold aft
  by_cases h1 : x.1 < y.1
  · simp [h1]
  · by_cases h2 : x.1 = y.1 <;> simp [h1, h2]
theorem leB_antisymm (x y : T_Bar) (h1 : leB x y) (h2 : leB y x) : x = y := totB x y h2 h1
theorem srtL_sorted (l : List T_Bar) : (srtL l).Pairwise leB := by
  have h := List.pairwise_mergeSort (le := fun x y => !(ltOf cmpB) y x) (fun a b c h1 h2 => by
    simp only [Bool.not_eq_true'] at *
    have h1 := (leB_iff a b).1 h1
    have h2 := (leB_iff b c).1 h2
    exact (leB_iff a c).2 (by omega)) (fun a b => by
    simp only [Bool.or_eq_true, Bool.not_eq_true']
    rcases (show (a.1 < b.1 ∨ (a.1 = b.1 ∧ a.2.1 ≤ b.2.1)) ∨ (b.1 < a.1 ∨ (b.1 = a.1 ∧ b.2.1 ≤ a.2.1)) by omega) with h | h
    · exact .inl ((leB_iff a b).2 h)
    · exact .inr ((leB_iff b a).2 h)) l
  exact h.imp (fun {a b} h => show ltOf cmpB b a = false by simpa using h)
theorem srtL_perm (l : List T_Bar) : (srtL l).Perm l := List.mergeSort_perm l _
theorem srtL_eq {l m : List T_Bar} (hp : m.Perm l) (hs : m.Pairwise leB) : m = srtL l :=
  List.Perm.eq_of_pairwise (le := leB) (fun a b _ _ h1 h2 => leB_antisymm a b h1 h2) hs (srtL_sorted l) (hp.trans (srtL_perm l).symm)
theorem lstB_succ (n : Nat) (h : Nat → T_Bar) : lstB (n + 1) h = lstB n h ++ [h n] := by simp [lstB, List.range_succ]
theorem lstB_congr {n : Nat} {h h' : Nat → T_Bar} (he : ∀ i, i < n → h i = h' i) : lstB n h = lstB n h' := by
  simp only [lstB]
  exact List.map_congr_left (fun a ha => he a (List.mem_range.1 ha))
theorem lstB_snoc (n : Nat) (h : Nat → T_Bar) (x : T_Bar) : lstB (n + 1) (snoc n h x) = lstB n h ++ [x] := by
  rw [lstB_succ, lstB_congr (h' := h) (fun i hi => snoc_lt hi), snoc_ge (Nat.lt_irrefl n)]
theorem lstB_inj {n : Nat} {h h' : Nat → T_Bar} (he : lstB n h = lstB n h') (i : Nat) (hi : i < n) : h i = h' i := by
  have : (lstB n h)[i]? = (lstB n h')[i]? := by rw [he]
  simpa [lstB, hi] using this
theorem lstB_srt (n : Nat) (h : Nat → T_Bar) : lstB n (srtB n h) = srtL (lstB n h) := by
  refine List.ext_getElem? (fun i => ?_)
  rcases Nat.lt_or_ge i n with hi | hi
  · have : i < (srtL (lstB n h)).length := by rw [srtL_len, lstB_len]; exact hi
    simp only [lstB, List.getElem?_map, List.getElem?_range hi, Option.map_some]
    rw [show srtL (List.map h (List.range n)) = srtL (lstB n h) from rfl, List.getElem?_eq_getElem this]
    simp [srtB, List.getD_eq_getElem?_getD, List.getElem?_eq_getElem this]
  · rw [List.getElem?_eq_none (by rw [lstB_len]; exact hi), List.getElem?_eq_none (by rw [srtL_len, lstB_len]; exact hi)]
theorem insD_list (g : Nat → T_Bar) (x : T_Bar) (nb : Nat) (hs : (lstB nb g).Pairwise leB) : ∀ i, i ≤ nb →
    (lstB (insD g x i).2.1 (insD g x i).2.2).Perm (lstB i g ++ (if (insD g x i).1 = true then [x] else [])) ∧
    (lstB (insD g x i).2.1 (insD g x i).2.2).Pairwise leB ∧ ((insD g x i).1 = false → (lstB (insD g x i).2.1 (insD g x i).2.2) = lstB i g ∧ ∀ s, s < i → leB (g s) x) ∧
    ((insD g x i).1 = true → ∀ s, s < nb → i ≤ s → ∀ y ∈ lstB (insD g x i).2.1 (insD g x i).2.2, leB y (g s)) := by
  have hmono : ∀ s s', s < s' → s' < nb → leB (g s) (g s') := by
    intro s s' h1 h2
    have := List.pairwise_iff_getElem.1 hs s s' (by rw [lstB_len]; omega) (by rw [lstB_len]; omega) h1
    simpa [lstB] using this
  have htr : ∀ {a b c : T_Bar}, leB a b → leB b c → leB a c := by
    intro a b c h1 h2
    have h1 := (leB_iff a b).1 h1
    have h2 := (leB_iff b c).1 h2
    exact (leB_iff a c).2 (by omega)
  intro i
  induction i with
  | zero => intro _; exact ⟨by simp [insD, lstB], by simp [insD, lstB], fun _ => ⟨rfl, fun s h => absurd h (Nat.not_lt_zero _)⟩, fun h => by simp [insD] at h⟩
  | succ i ih =>
    intro hi
    obtain ⟨ih1, ih2, ih3, ih4⟩ := ih (by omega)
    simp only [insD]
    split
    · rename_i ht
      have hf : (insD g x i).1 = false := by
        cases e : (insD g x i).1 with
        | false => rfl
        | true => rw [e] at ht; simp at ht
      rw [hf] at ht
      simp only [Bool.not_false, cond_true, Bool.not_eq_true'] at ht
      have hxg : leB x (g i) := by
        have h1 : ¬ leB (g i) x := fun h => by rw [(aft_iff _ _).2 h] at ht; cases ht
        rw [leB_iff] at h1 ⊢
        omega
      obtain ⟨e1, e2⟩ := ih3 hf
      simp only [if_true]
      rw [lstB_snoc, lstB_snoc, e1]
      have hlt : ∀ y ∈ lstB i g, leB y x ∧ leB y (g i) := by
        intro y hy
        simp only [lstB, List.mem_map, List.mem_range] at hy
        obtain ⟨s, h1, rfl⟩ := hy
        exact ⟨e2 s h1, hmono s i h1 (by omega)⟩
      refine ⟨?_, ?_, fun h => by simp at h, fun _ s hs1 hs2 y hy => ?_⟩
      · rw [lstB_succ, List.append_assoc, List.append_assoc]
        exact List.Perm.append_left _ (List.Perm.swap _ _ _)
      · rw [e1] at ih2
        rw [List.append_assoc, List.pairwise_append]
        refine ⟨ih2, by simp [hxg], fun y hy y' hy' => ?_⟩
        simp only [List.cons_append, List.nil_append, List.mem_cons, List.not_mem_nil, or_false] at hy'
        rcases hy' with rfl | rfl
        · exact (hlt y hy).1
        · exact (hlt y hy).2
      · have his : leB (g i) (g s) := hmono i s (by omega) hs1
        simp only [List.mem_append, List.mem_cons, List.not_mem_nil, or_false] at hy
        rcases hy with (hy | rfl) | rfl
        · exact htr (hlt y hy).2 his
        · exact htr hxg his
        · exact his
    · rename_i ht
      rw [lstB_snoc]
      refine ⟨?_, ?_, fun h => ?_, fun h s hs1 hs2 y hy => ?_⟩
      · rw [lstB_succ, List.append_assoc]
        refine (List.Perm.append_right [g i] ih1).trans ?_
        rw [List.append_assoc]
        exact List.Perm.append_left _ List.perm_append_comm
      · rw [List.pairwise_append]
        refine ⟨ih2, by simp, fun y hy y' hy' => ?_⟩
        simp only [List.mem_cons, List.not_mem_nil, or_false] at hy'
        subst hy'
        cases hp : (insD g x i).1 with
        | true => exact ih4 hp i (by omega) (Nat.le_refl _) y hy
        | false =>
          rw [(ih3 hp).1] at hy
          simp only [lstB, List.mem_map, List.mem_range] at hy
          obtain ⟨s, h1, rfl⟩ := hy
          exact hmono s i h1 (by omega)
      · simp only at h
        obtain ⟨e1, e2⟩ := ih3 h
        refine ⟨by rw [e1, lstB_succ], fun s hs1 => ?_⟩
        rcases Nat.lt_or_ge s i with h' | h'
        · exact e2 s h'
        · obtain rfl : s = i := by omega
          rw [h] at ht
          simp only [Bool.not_false, cond_true, Bool.not_eq_true', Bool.not_eq_false] at ht
          exact (aft_iff _ _).1 ht
      · simp only at h
        simp only [List.mem_append, List.mem_cons, List.not_mem_nil, or_false] at hy
        rcases hy with hy | rfl
        · exact ih4 h s hs1 (by omega) y hy
        · exact hmono i s (by omega) hs1
theorem insR_list (g : Nat → T_Bar) (nb : Nat) (x : T_Bar) (hs : (lstB nb g).Pairwise leB) :
    lstB (insR g nb x).1 (insR g nb x).2 = srtL (lstB nb g ++ [x]) := by
  obtain ⟨h1, h2, h3, h4⟩ := insD_list g x nb hs nb (Nat.le_refl _)
  unfold insR
  split
  · rename_i hp
    rw [if_pos hp] at h1
    exact srtL_eq h1 h2
  · rename_i hp
    have hf : (insD g x nb).1 = false := by simpa using hp
    obtain ⟨e1, e2⟩ := h3 hf
    simp only
    rw [lstB_snoc, e1]
    refine srtL_eq (List.Perm.refl _) ?_
    rw [List.pairwise_append]
    refine ⟨hs, by simp, fun y hy y' hy' => ?_⟩
    simp only [List.mem_cons, List.not_mem_nil, or_false] at hy'
    subst hy'
    simp only [lstB, List.mem_map, List.mem_range] at hy
    obtain ⟨s, h', rfl⟩ := hy
    exact e2 s h'
end Go.Proofs.Ytgdbnnmogddkaaa.Mach
namespace Go.Proofs.Ytgdbnnmogddkaaa.Mach
open Go
set_option linter.unusedVariables false
set_option linter.unusedSimpArgs false
def hasI (g : Nat → Int) (x : Int) : Nat → Bool
  | 0 => false
  | k + 1 => hasI g x k || g k == x
def inL (v : T_IntS) : AV := .p (.seq true 1 v.1 (fun i => [.int .i64 (v.2 i)]))
def S85 (v : T_IntS) (x : Int) (k : Nat) : St :=
  ⟨[inL v, .p (.int .i64 x), .p .any, .p .any, .p .any, .p (.int .i64 k)] ++ List.replicate 12 anyA, [], 0⟩
def S112 (v : T_IntS) (x : Int) (k : Nat) : St :=
  ⟨[inL v, .p (.int .i64 x)] ++ List.replicate 5 anyA ++ [.p (.int .i64 v.1), .p (.int .i64 k)] ++ List.replicate 10 anyA, [], 0⟩
theorem p85a (v : T_IntS) (x : Int) :
    pieceOb Try.prog 0 [.reg [oT], .reg [oT], .head] [.code (bodyOf Try.f93)] (start Try.f93 [] 0 [inL v, .p (.int .i64 x)]) [] 1 (S85 v x 0) =
    some ([.code (cAt (bodyOf Try.f93) [1, 0, 1, 0, 0]), .inLoop (cAt (bodyOf Try.f93) [1, 0, 1, 0, 0]), .inBlock 0, .code (cAt (bodyOf Try.f93) [1, 1])], [((v.1 : Nat) = v.1),
  (∀ i : Nat, (((i : Nat) < v.1) → (([.int .i64 (v.2 i)] : List PV) = [.int .i64 (v.2 i)]))),
  ((x : Int) = x),
  ((0 : Int) = (↑0 : Int))]) := by kernel_rfl
theorem p85b (v : T_IntS) (x : Int) (k : Nat) :
    pieceOb Try.prog 0 [.reg [oT, oT, oT, oT], .dec true, .reg [oT, oT, oT, oT, oT, oT], .dec false, .reg [oT, oT, oT], .head] [.code (cAt (bodyOf Try.f93) [1, 0, 1, 0, 0]), .inLoop (cAt (bodyOf Try.f93) [1, 0, 1, 0, 0]), .inBlock 0, .code (cAt (bodyOf Try.f93) [1, 1])] (S85 v x k) [] 1 (S85 v x (k + 1)) =
    some ([.code (cAt (bodyOf Try.f93) [1, 0, 1, 0, 0]), .inLoop (cAt (bodyOf Try.f93) [1, 0, 1, 0, 0]), .inBlock 0, .code (cAt (bodyOf Try.f93) [1, 1])], [((decide ((↑k : Int) < (↑v.1 : Int))) = true),
  ((0 : Int) ≤ (↑k : Int)),
  (((↑k : Int) : Int) < (↑v.1 : Int)),
  ((v.2 k == x) = false),
  (((-9223372036854775808) : Int) ≤ ((↑k : Int) + 1)),
  ((((↑k : Int) + 1) : Int) ≤ 9223372036854775807),
  ((v.1 : Nat) = v.1),
  (∀ i : Nat, (((i : Nat) < v.1) → (([.int .i64 (v.2 i)] : List PV) = [.int .i64 (v.2 i)]))),
  ((x : Int) = x),
  ((((↑k : Int) + 1) : Int) = (↑(k + 1) : Int))]) := by kernel_rfl
theorem p85c (v : T_IntS) (x : Int) (k : Nat) :
    pathOb Try.prog Try.f93 0 [.reg [oT, oT, oT, oT], .dec true, .reg [oT, oT, oT, oT, oT, oT], .dec true, .reg [oT]] [.code (cAt (bodyOf Try.f93) [1, 0, 1, 0, 0]), .inLoop (cAt (bodyOf Try.f93) [1, 0, 1, 0, 0]), .inBlock 0, .code (cAt (bodyOf Try.f93) [1, 1])] (S85 v x k) [] 1 [] (.p (.bool true)) =
    some [((decide ((↑k : Int) < (↑v.1 : Int))) = true),
  ((0 : Int) ≤ (↑k : Int)),
  (((↑k : Int) : Int) < (↑v.1 : Int)),
  ((v.2 k == x) = true),
  (true = true)] := by kernel_rfl
theorem p85d (v : T_IntS) (x : Int) (k : Nat) :
    pathOb Try.prog Try.f93 0 [.reg [oT, oT, oT, oT], .dec false, .reg [oT]] [.code (cAt (bodyOf Try.f93) [1, 0, 1, 0, 0]), .inLoop (cAt (bodyOf Try.f93) [1, 0, 1, 0, 0]), .inBlock 0, .code (cAt (bodyOf Try.f93) [1, 1])] (S85 v x k) [] 1 [] (.p (.bool false)) =
    some [((decide ((↑k : Int) < (↑v.1 : Int))) = false),
  (false = false)] := by kernel_rfl
theorem p112a (v : T_IntS) (x : Int) :
    pieceOb Try.prog 0 [.reg [oT], .reg [oT, oT, oT], .head] [.code (bodyOf Try.f118)] (start Try.f118 [] 0 [inL v, .p (.int .i64 x)]) [] 1 (S112 v x 0) =
    some ([.code (cAt (bodyOf Try.f118) [1, 0, 1, 0, 0]), .inLoop (cAt (bodyOf Try.f118) [1, 0, 1, 0, 0]), .inBlock 0, .code (cAt (bodyOf Try.f118) [1, 1])], [((v.1 : Nat) = v.1),
  (∀ i : Nat, (((i : Nat) < v.1) → (([.int .i64 (v.2 i)] : List PV) = [.int .i64 (v.2 i)]))),
  ((x : Int) = x),
  (((↑v.1 : Int) : Int) = (↑v.1 : Int)),
  ((0 : Int) = (↑0 : Int))]) := by kernel_rfl
theorem p112b (v : T_IntS) (x : Int) (k : Nat) :
    pieceOb Try.prog 0 [.reg [oT], .dec true, .reg [oT, oT], .reg [oT, oT, oT, oT, oT, oT], .dec false, .reg [oT, oT], .head] [.code (cAt (bodyOf Try.f118) [1, 0, 1, 0, 0]), .inLoop (cAt (bodyOf Try.f118) [1, 0, 1, 0, 0]), .inBlock 0, .code (cAt (bodyOf Try.f118) [1, 1])] (S112 v x k) [] 1 (S112 v x (k + 1)) =
    some ([.code (cAt (bodyOf Try.f118) [1, 0, 1, 0, 0]), .inLoop (cAt (bodyOf Try.f118) [1, 0, 1, 0, 0]), .inBlock 0, .code (cAt (bodyOf Try.f118) [1, 1])], [((decide ((↑k : Int) < (↑v.1 : Int))) = true),
  ((0 : Int) ≤ (↑k : Int)),
  (((↑k : Int) : Int) < (↑v.1 : Int)),
  ((x == v.2 k) = false),
  (((-9223372036854775808) : Int) ≤ ((↑k : Int) + 1)),
  ((((↑k : Int) + 1) : Int) ≤ 9223372036854775807),
  ((v.1 : Nat) = v.1),
  (∀ i : Nat, (((i : Nat) < v.1) → (([.int .i64 (v.2 i)] : List PV) = [.int .i64 (v.2 i)]))),
  ((x : Int) = x),
  (((↑v.1 : Int) : Int) = (↑v.1 : Int)),
  ((((↑k : Int) + 1) : Int) = (↑(k + 1) : Int))]) := by kernel_rfl
theorem p112c (v : T_IntS) (x : Int) (k : Nat) :
    pathOb Try.prog Try.f118 0 [.reg [oT], .dec true, .reg [oT, oT], .reg [oT, oT, oT, oT, oT, oT], .dec true, .reg [oT, oT]] [.code (cAt (bodyOf Try.f118) [1, 0, 1, 0, 0]), .inLoop (cAt (bodyOf Try.f118) [1, 0, 1, 0, 0]), .inBlock 0, .code (cAt (bodyOf Try.f118) [1, 1])] (S112 v x k) [] 1 [] (.p (.int .i64 k)) =
    some [((decide ((↑k : Int) < (↑v.1 : Int))) = true),
  ((0 : Int) ≤ (↑k : Int)),
  (((↑k : Int) : Int) < (↑v.1 : Int)),
  ((x == v.2 k) = true),
  (((↑k : Int) : Int) = (↑k : Int))] := by kernel_rfl
theorem p112d (v : T_IntS) (x : Int) (k : Nat) :
    pathOb Try.prog Try.f118 0 [.reg [oT], .dec false, .reg [oT]] [.code (cAt (bodyOf Try.f118) [1, 0, 1, 0, 0]), .inLoop (cAt (bodyOf Try.f118) [1, 0, 1, 0, 0]), .inBlock 0, .code (cAt (bodyOf Try.f118) [1, 1])] (S112 v x k) [] 1 [] (.p (.int .i64 (-1))) =
    some [((decide ((↑k : Int) < (↑v.1 : Int))) = false),
  (((-1) : Int) = (-1))] := by kernel_rfl
theorem p90 (v : T_IntS) (x r : Int) :
    pathOb Try.prog Try.f83 0 [.reg [oT], .reg [oT, oT, ⟨true, (some ⟨[], [], 1, [], .p (.int .i64 r)⟩), none⟩, oT, oT]] [.code (bodyOf Try.f83)] (start Try.f83 [] 0 [inL v, .p (.int .i64 x)]) [] 1 [] (.p (.bool (decide (r ≥ 0)))) =
    some [Con Try.prog 118 0 [] [.p (.seq true 1 v.1 (fun i => [.int .i64 (v.2 i)])), .p (.int .i64 x)] [] (.p (.int .i64 r)),
  ((decide (r ≥ 0)) = (decide (r ≥ 0)))] := by kernel_rfl
theorem hasI_hit (g : Nat → Int) (x : Int) (k : Nat) (h : (g k == x) = true) : ∀ n, k < n → hasI g x n = true
  | 0, h' => by omega
  | n + 1, h' => by
    by_cases e : k = n
    · subst e; simp [hasI, h]
    · simp [hasI, hasI_hit g x k h n (by omega)]
theorem con_l2Has (v : T_IntS) (x : Int) (hn : v.1 ≤ 1048576) : Con Try.prog 93 0 [] [inL v, .p (.int .i64 x)] [] (.p (.bool (hasI v.2 x v.1))) := by
  refine con_start Try.func93 rfl (by kernel_rfl) rfl (fun c hc => ?_)
  have lp : ∀ m k, k + m = v.1 → hasI v.2 x k = false → Run Try.prog c 93 [.code (cAt (bodyOf Try.f93) [1, 0, 1, 0, 0]), .inLoop (cAt (bodyOf Try.f93) [1, 0, 1, 0, 0]), .inBlock 0, .code (cAt (bodyOf Try.f93) [1, 1])] (S85 v x k) (Post c [] (.p (.bool (hasI v.2 x v.1)))) := by
    intro m
    induction m with
    | zero =>
      intro k hk hg
      rw [show hasI v.2 x v.1 = false by rw [show v.1 = k by omega]; exact hg]
      have hd : decide ((k : Int) < (v.1 : Int)) = false := by simp; omega
      refine path_ok mixed Try.func93 hc (p85d v x k) ?_
      simp only [All]
      repeat' (first | exact trivial | with_reducible apply And.intro)
      all_goals (first | omega | rfl | (intros; first | assumption | exact True.intro | rfl | exact absurd (show false = true by assumption) Bool.false_ne_true | ((repeat' (first | assumption | apply anda | apply notf)); done)))
    | succ m ih =>
      intro k hk hg
      have hd : decide ((k : Int) < (v.1 : Int)) = true := by simp; omega
      cases he : (v.2 k == x) with
      | true =>
        rw [hasI_hit v.2 x k he v.1 (by omega)]
        refine path_ok mixed Try.func93 hc (p85c v x k) ?_
        simp only [All]
        repeat' (first | exact trivial | with_reducible apply And.intro)
        all_goals (first | omega | rfl | (intros; first | assumption | exact True.intro | rfl | exact absurd (show false = true by assumption) Bool.false_ne_true | ((repeat' (first | assumption | apply anda | apply notf)); done)) | (exact he))
      | false =>
        refine piece_ok mixed hc (p85b v x k) ?_ (ih (k + 1) (by omega) (by simp only [hasI, hg, he]; rfl))
        simp only [All]
        repeat' (first | exact trivial | with_reducible apply And.intro)
        all_goals (first | omega | rfl | (intros; first | assumption | exact True.intro | rfl | exact absurd (show false = true by assumption) Bool.false_ne_true | ((repeat' (first | assumption | apply anda | apply notf)); done)) | (exact he))
  refine piece_ok mixed hc (p85a v x) ?_ (lp v.1 0 (by omega) rfl)
  simp only [All]
  repeat' (first | exact trivial | with_reducible apply And.intro)
  all_goals (first | omega | rfl | (intros; first | assumption | exact True.intro | rfl | exact absurd (show false = true by assumption) Bool.false_ne_true | ((repeat' (first | assumption | apply anda | apply notf)); done)))
theorem con_Index (v : T_IntS) (x : Int) (hn : v.1 ≤ 1048576) : ∃ r : Int, decide (r ≥ 0) = hasI v.2 x v.1 ∧ Con Try.prog 118 0 [] [inL v, .p (.int .i64 x)] [] (.p (.int .i64 r)) := by
  have key : (∃ k, k < v.1 ∧ hasI v.2 x k = false ∧ (v.2 k == x) = true) ∨ hasI v.2 x v.1 = false := by
    have gen : ∀ n, (∃ k, k < n ∧ hasI v.2 x k = false ∧ (v.2 k == x) = true) ∨ hasI v.2 x n = false := by
      intro n
      induction n with
      | zero => exact .inr rfl
      | succ n ih =>
        rcases ih with ⟨k, h1, h2⟩ | h
        · exact .inl ⟨k, by omega, h2⟩
        · cases he : (v.2 n == x) with
          | true => exact .inl ⟨n, by omega, h, he⟩
          | false => exact .inr (by simp only [hasI, h, he]; rfl)
    exact gen v.1
  rcases key with ⟨q, hq, hq1, hq2⟩ | hno
  · refine ⟨(q : Int), by rw [hasI_hit v.2 x q hq2 v.1 hq]; simp, ?_⟩
    refine con_start Try.func118 rfl (by kernel_rfl) rfl (fun c hc => ?_)
    have lp : ∀ m k, k + m = q → Run Try.prog c 118 [.code (cAt (bodyOf Try.f118) [1, 0, 1, 0, 0]), .inLoop (cAt (bodyOf Try.f118) [1, 0, 1, 0, 0]), .inBlock 0, .code (cAt (bodyOf Try.f118) [1, 1])] (S112 v x k) (Post c [] (.p (.int .i64 (q : Int)))) := by
      intro m
      induction m with
      | zero =>
        intro k hk
        obtain rfl : k = q := by omega
        have hd : decide ((k : Int) < (v.1 : Int)) = true := by simp; omega
        have he : (x == v.2 k) = true := by rw [beq_iff_eq] at hq2 ⊢; exact hq2.symm
        refine path_ok mixed Try.func118 hc (p112c v x k) ?_
        simp only [All]
        repeat' (first | exact trivial | with_reducible apply And.intro)
        all_goals (first | omega | rfl | (intros; first | assumption | exact True.intro | rfl | exact absurd (show false = true by assumption) Bool.false_ne_true | ((repeat' (first | assumption | apply anda | apply notf)); done)) | (exact he))
      | succ m ih =>
        intro k hk
        have hd : decide ((k : Int) < (v.1 : Int)) = true := by simp; omega
        have he : (x == v.2 k) = false := by
          cases h : (v.2 k == x) with
          | true => rw [hasI_hit v.2 x k h q (by omega)] at hq1; cases hq1
          | false =>
            simp only [beq_eq_false_iff_ne, ne_eq] at h ⊢
            exact fun e => h e.symm
        refine piece_ok mixed hc (p112b v x k) ?_ (ih (k + 1) (by omega))
        simp only [All]
        repeat' (first | exact trivial | with_reducible apply And.intro)
        all_goals (first | omega | rfl | (intros; first | assumption | exact True.intro | rfl | exact absurd (show false = true by assumption) Bool.false_ne_true | ((repeat' (first | assumption | apply anda | apply notf)); done)) | (exact he))
    refine piece_ok mixed hc (p112a v x) ?_ (lp q 0 (by omega))
    simp only [All]
    repeat' (first | exact trivial | with_reducible apply And.intro)
    all_goals (first | omega | rfl | (intros; first | assumption | exact True.intro | rfl | exact absurd (show false = true by assumption) Bool.false_ne_true | ((repeat' (first | assumption | apply anda | apply notf)); done)))
  · refine ⟨-1, by rw [hno]; rfl, ?_⟩
    refine con_start Try.func118 rfl (by kernel_rfl) rfl (fun c hc => ?_)
    have lp : ∀ m k, k + m = v.1 → Run Try.prog c 118 [.code (cAt (bodyOf Try.f118) [1, 0, 1, 0, 0]), .inLoop (cAt (bodyOf Try.f118) [1, 0, 1, 0, 0]), .inBlock 0, .code (cAt (bodyOf Try.f118) [1, 1])] (S112 v x k) (Post c [] (.p (.int .i64 (-1)))) := by
      intro m
      induction m with
      | zero =>
        intro k hk
        have hd : decide ((k : Int) < (v.1 : Int)) = false := by simp; omega
        refine path_ok mixed Try.func118 hc (p112d v x k) ?_
        simp only [All]
        repeat' (first | exact trivial | with_reducible apply And.intro)
        all_goals (first | omega | rfl | (intros; first | assumption | exact True.intro | rfl | exact absurd (show false = true by assumption) Bool.false_ne_true | ((repeat' (first | assumption | apply anda | apply notf)); done)))
      | succ m ih =>
        intro k hk
        have hd : decide ((k : Int) < (v.1 : Int)) = true := by simp; omega
        have he : (x == v.2 k) = false := by
          cases h : (v.2 k == x) with
          | true => rw [hasI_hit v.2 x k h v.1 (by omega)] at hno; cases hno
          | false =>
            simp only [beq_eq_false_iff_ne, ne_eq] at h ⊢
            exact fun e => h e.symm
        refine piece_ok mixed hc (p112b v x k) ?_ (ih (k + 1) (by omega))
        simp only [All]
        repeat' (first | exact trivial | with_reducible apply And.intro)
        all_goals (first | omega | rfl | (intros; first | assumption | exact True.intro | rfl | exact absurd (show false = true by assumption) Bool.false_ne_true | ((repeat' (first | assumption | apply anda | apply notf)); done)) | (exact he))
    refine piece_ok mixed hc (p112a v x) ?_ (lp v.1 0 (by omega))
    simp only [All]
    repeat' (first | exact trivial | with_reducible apply And.intro)
    all_goals (first | omega | rfl | (intros; first | assumption | exact True.intro | rfl | exact absurd (show false = true by assumption) Bool.false_ne_true | ((repeat' (first | assumption | apply anda | apply notf)); done)))
theorem con_Contains (v : T_IntS) (x : Int) (hn : v.1 ≤ 1048576) : Con Try.prog 83 0 [] [inL v, .p (.int .i64 x)] [] (.p (.bool (hasI v.2 x v.1))) := by
  obtain ⟨r, hr, hcon⟩ := con_Index v x hn
  rw [← hr]
  refine con_start Try.func83 rfl (by kernel_rfl) rfl (fun c hc => ?_)
  refine path_ok mixed Try.func83 hc (p90 v x r) ?_
  simp only [All]
  repeat' (first | exact trivial | with_reducible apply And.intro)
  all_goals (first | omega | rfl | (intros; first | assumption | exact True.intro | rfl | exact absurd (show false = true by assumption) Bool.false_ne_true | ((repeat' (first | assumption | apply anda | apply notf)); done)) | (exact hcon))
end Go.Proofs.Ytgdbnnmogddkaaa.Mach
namespace Go.Proofs.Ytgdbnnmogddkaaa.Mach
open Go Go.Sort
set_option linter.unusedVariables false
set_option linter.unusedSimpArgs false
def brX (a b : Int) : T_Bar := (if b < a then b else a, if b > a then b else a, ())
def zG2 : Ob := ⟨true, 2, 1, fun _ => [.p (.int .i64 0), .p .nil]⟩
theorem dBar (a b : Int) :
    pathOb Try.prog Try.f106 0 [.reg [oT], .reg [oT, oT, oT, oT, oT, oT, oT, oT]] [.code (bodyOf Try.f106)] (start Try.f106 [] 0 [.p (.int .i64 a), .p (.int .i64 b)]) [] 1 [] (.agg [.p (.int .i64 (if b < a then b else a)), .p (.int .i64 (if b > a then b else a))]) =
    some [((0 : Nat) < 1),
  ((true = true) → ((1 : Nat) = 1)),
  ((0 : Nat) < 1),
  (((if false = true then if b > a then b else a else if b < a then b else a) : Int) = (if b < a then b else a)),
  (((if true = true then if b > a then b else a else if b < a then b else a) : Int) = (if b > a then b else a))] := by kernel_rfl
theorem dHas (v : T_Graph) (p : Int) :
    pathOb Try.prog Try.f101 0 [.reg [oT, oT], .reg [oT, oT, oT, oT, ⟨true, (some ⟨[], [], 1, [], .p (.bool (inB p 0 (v.1 - 1)))⟩), none⟩, oT]] [.code (bodyOf Try.f101)] (start Try.f101 [] 0 [graphA v, .p (.int .i64 p)]) [] 1 [] (.p (.bool (inB p 0 (v.1 - 1)))) =
    some [((0 : Nat) < 1),
  (((-9223372036854775808) : Int) ≤ (v.1 - 1)),
  (((v.1 - 1) : Int) ≤ 9223372036854775807),
  Con Try.prog 115 0 [] [.p (.int .i64 p), .p (.int .i64 0), .p (.int .i64 (v.1 - 1))] [] (.p (.bool (inB p 0 (v.1 - 1)))),
  ((inB p 0 (v.1 - 1)) = (inB p 0 (v.1 - 1)))] := by kernel_rfl
theorem con_barX (a b : Int) : Con Try.prog 106 0 [] [.p (.int .i64 a), .p (.int .i64 b)] [] (.agg [.p (.int .i64 (brX a b).1), .p (.int .i64 (brX a b).2.1)]) := by
  refine con_start Try.func106 rfl (by kernel_rfl) rfl (fun c hc => ?_)
  refine path_ok mixed Try.func106 hc (dBar a b) ?_
  simp only [All]
  repeat' (first | exact trivial | with_reducible apply And.intro)
  all_goals (first | omega | rfl | (intros; first | assumption | exact True.intro | rfl | exact absurd (show false = true by assumption) Bool.false_ne_true | ((repeat' (first | assumption | apply anda | apply notf)); done)) | simp)
theorem con_hasX (v : T_Graph) (p : Int) (h1 : 1 ≤ v.1) (h2 : v.1 ≤ 8) : Con Try.prog 101 0 [] [graphA v, .p (.int .i64 p)] [] (.p (.bool (inB p 0 (v.1 - 1)))) := by
  refine con_start Try.func101 rfl (by kernel_rfl) rfl (fun c hc => ?_)
  refine path_ok mixed Try.func101 hc (dHas v p) ?_
  simp only [All]
  repeat' (first | exact trivial | with_reducible apply And.intro)
  all_goals (first | omega | rfl | (intros; first | assumption | exact True.intro | rfl | exact absurd (show false = true by assumption) Bool.false_ne_true | ((repeat' (first | assumption | apply anda | apply notf)); done)) | (exact con_within _ _ _))
theorem graph_inR {v : T_Graph} (h : isGraphF v = true) : 1 ≤ v.1 ∧ v.1 ≤ 8 ∧ v.2.1.1 ≤ 24 ∧ goodB v.1 v.2.1.2 v.2.1.1 = true := by
  unfold isGraphF at h
  split at h
  · rename_i h1
    simp only [inB, Bool.and_eq_true, decide_eq_true_eq] at h1
    exact ⟨h1.1.1, h1.1.2, h1.2, h⟩
  · cases h
theorem goodB_at {N : Int} {g : Nat → T_Bar} : ∀ {n : Nat}, goodB N g n = true → ∀ k, k < n → 0 ≤ (g k).1 ∧ (g k).1 < (g k).2.1 ∧ (g k).2.1 < N ∧ (0 < k → leB (g (k - 1)) (g k))
  | 0, _, k, hk => absurd hk (Nat.not_lt_zero _)
  | n + 1, h, k, hk => by
    simp only [goodB, Bool.and_eq_true, Bool.not_eq_true'] at h
    by_cases e : k = n
    · subst e
      have h2 := h.2
      unfold badB at h2
      by_cases c1 : (g k).1 < 0
      · simp [c1] at h2
      by_cases c2 : (g k).1 ≥ (g k).2.1
      · simp [c1, c2] at h2
      by_cases c3 : (g k).2.1 ≥ N
      · simp [c1, c2, c3] at h2
      refine ⟨by omega, by omega, by omega, fun h0 => ?_⟩
      simp only [c1, c2, c3, decide_false, cond_false] at h2
      rw [decide_eq_true (show (k : Int) > 0 by omega)] at h2
      simp only [cond_true, Bool.not_eq_false'] at h2
      rw [← aft_iff]
      rw [show ((k : Int) - 1).toNat = k - 1 by omega] at h2
      exact h2
    · exact goodB_at h.1 k (by omega)
theorem goodB_sorted {N : Int} {g : Nat → T_Bar} {n : Nat} (h : goodB N g n = true) : (lstB n g).Pairwise leB := by
  have step := goodB_at h
  have htr : ∀ {a b c : T_Bar}, leB a b → leB b c → leB a c := by
    intro a b c h1 h2
    have h1 := (leB_iff a b).1 h1
    have h2 := (leB_iff b c).1 h2
    exact (leB_iff a c).2 (by omega)
  have mono : ∀ d i, i + d < n → leB (g i) (g (i + d)) := by
    intro d
    induction d with
    | zero => intro i hi; show leB (g i) (g i); exact (leB_iff _ _).2 (by omega)
    | succ d ih => intro i hi; exact htr (ih i (by omega)) ((step (i + (d + 1)) hi).2.2.2 (by omega))
  rw [List.pairwise_iff_getElem]
  intro i j hi hj hij
  rw [lstB_len] at hi hj
  have := mono (j - i) i (by omega)
  rw [show i + (j - i) = j by omega] at this
  simpa [lstB] using this
theorem sm_graph {v : T_Graph} (h : v.2.1.1 ≤ 1048576) : smS s_Graph v := ⟨by simp [smS, smL], ⟨h, fun i hi => by simp [smS, smL]⟩, True.intro⟩
end Go.Proofs.Ytgdbnnmogddkaaa.Mach
namespace Go.Proofs.Ytgdbnnmogddkaaa.Mach
open Go
set_option linter.unusedVariables false
set_option linter.unusedSimpArgs false
theorem rRank (g : Nat → T_Bar) (nb N m : Nat) (F T Q : Nat → Int) :
    pathOb Try.prog Try.f130 0 [.reg [oT], .reg [oT, oT, ⟨true, (some ⟨[], [], 1, pebR N m F T Q, pebO N m 0⟩), none⟩, oT, oT, oT]] [.code (bodyOf Try.f130)] (start Try.f130 [] 0 [.p (.int .i64 N), brL g nb]) [] 1 [] (.p (.int .i64 m)) =
    some [Con Try.prog 140 0 [] [.p (.int .i64 (↑N : Int)), .p (.seq true 2 nb (fun i => [.int .i64 ((g i).1), .int .i64 ((g i).2.1)])), .p (.int .i64 2), .p (.int .i64 3)] [(0, ⟨false, 1, N, (fun i => [.p (.int .i64 (F i))])⟩), (1, ⟨false, 1, m, (fun i => [.p (.int .i64 (T i))])⟩), (2, ⟨false, 1, m, (fun i => [.p (.int .i64 (Q i))])⟩)] (.agg [.ar 1 0 0 N, .ar 1 1 0 m, .ar 1 2 0 m]),
  (((↑m : Int) : Int) = (↑m : Int))] := by kernel_rfl
def bL (g : Nat → T_Bar) : Nat → List (Nat × Nat)
  | 0 => []
  | n + 1 => bL g n ++ [brN (g n)]
theorem bL_mem (g : Nat → T_Bar) (y : Nat × Nat) : ∀ n, y ∈ bL g n ↔ ∃ s, s < n ∧ brN (g s) = y
  | 0 => by
    constructor
    · intro h; cases h
    · rintro ⟨s, h, _⟩; exact absurd h (Nat.not_lt_zero _)
  | n + 1 => by
    simp only [bL, List.mem_append, List.mem_singleton, bL_mem g y n]
    constructor
    · rintro (⟨s, h1, h2⟩ | h)
      · exact ⟨s, by omega, h2⟩
      · exact ⟨n, by omega, h.symm⟩
    · rintro ⟨s, h1, h2⟩
      by_cases e : s = n
      · right; rw [← e]; exact h2.symm
      · exact .inl ⟨s, by omega, h2⟩
theorem acc_greedy (N k l : Nat) (g : Nat → T_Bar) : ∀ n, (accI N k l g n).map (fun i => brN (g i)) = Mat.greedy N k l [] (bL g n)
  | 0 => rfl
  | n + 1 => by
    have ih := acc_greedy N k l g n
    simp only [accI, bL, Mat.greedy_append, Mat.greedy]
    rw [← ih]
    split
    · rw [List.map_append]; rfl
    · rfl
theorem acc_len (N k l : Nat) (g : Nat → T_Bar) (n : Nat) : (accI N k l g n).length = (Mat.greedy N k l [] (bL g n)).length := by
  rw [← acc_greedy, List.length_map]
def OkBars (N nb : Nat) (g : Nat → T_Bar) : Prop := ∀ e, e < nb → 0 ≤ (g e).1 ∧ (g e).1 < (g e).2.1 ∧ (g e).2.1 < N
theorem bL_good {N nb : Nat} {g : Nat → T_Bar} (h : OkBars N nb g) : ∀ x ∈ bL g nb, Mat.GoodBar N x := by
  intro x hx
  obtain ⟨s, h1, h2⟩ := (bL_mem g x nb).1 hx
  have := h s h1
  rw [← h2]
  simp only [Mat.GoodBar, brN]
  omega
theorem con_planeRank {N nb : Nat} {g : Nat → T_Bar} (hb : OkBars N nb g) (hN : N ≤ 1048576) (hnb : nb ≤ 1048576) : Con Try.prog 130 0 [] [.p (.int .i64 N), brL g nb] [] (.p (.int .i64 ((accI N 2 3 g nb).length : Nat))) := by
  obtain ⟨m, F, T, Q, hc1, hp, hq⟩ := con_play (N := N) (k := 2) (l := 3) hb (by omega) (by omega) hN hnb
  rw [← hq, qL_length]
  refine con_start Try.func130 rfl (by kernel_rfl) rfl (fun c hc => ?_)
  refine path_ok mixed Try.func130 hc (rRank g nb N m F T Q) ?_
  simp only [All]
  repeat' (first | exact trivial | with_reducible apply And.intro)
  all_goals (first | omega | rfl | (intros; first | assumption | exact True.intro | rfl | exact absurd (show false = true by assumption) Bool.false_ne_true | ((repeat' (first | assumption | apply anda | apply notf)); done)) | (exact hc1) | (intro i hi; simp [All]))
end Go.Proofs.Ytgdbnnmogddkaaa.Mach
namespace Go.Proofs.Ytgdbnnmogddkaaa.Mach
open Go Go.Sort
set_option linter.unusedVariables false
set_option linter.unusedSimpArgs false
def SAB (N : Int) (n : Nat) (h : Nat → T_Bar) : St :=
  ⟨[.p .any, .p .any, .p .any, .p .any, .p .any, .p .any, .pt 2 0 0 0, .p .any, .pt 2 1 0 0] ++ List.replicate 41 anyA, [(0, zG2), (1, ⟨true, 2, 1, fun _ => [.p (.int .i64 N), .ar 2 2 0 n]⟩), (2, brOb n h)], 3⟩
theorem bCi (v : T_Graph) :
    pathOb Try.prog Try.f78 0 [.reg [oT, oT], .reg [oT, oT, oT, oT, oT, oT, oT, oT]] [.code (bodyOf Try.f78)] (start Try.f78 [] 0 [graphA v]) [224] 1 [(0, brOb v.2.1.1 v.2.1.2)] (.agg [.p (.int .i64 v.1), .ar 2 0 0 v.2.1.1]) =
    some [((0 : Nat) < 1),
  ((0 : Nat) < 1),
  ((0 : Nat) ≤ 0),
  ((((0 + v.2.1.1) * 16) : Nat) ≤ 140737488355328),
  (((0 + v.2.1.1) : Nat) ≤ 9223372036854775807),
  ((0 : Nat) < 1),
  ((true = true) → ((1 : Nat) = 1)),
  ((0 : Nat) < 1),
  ((v.1 : Int) = v.1),
  ((0 : Nat) = 0),
  (((0 + v.2.1.1) : Nat) = v.2.1.1),
  ((2 : Nat) = 2),
  ((v.2.1.1 : Nat) ≤ (0 + v.2.1.1)),
  (∀ i : Nat, (((i : Nat) < v.2.1.1) → (All [] ∧ (([.p (.int .i64 ((v.2.1.2 i).1)), .p (.int .i64 ((v.2.1.2 i).2.1))] : List AV) = [.p (.int .i64 ((v.2.1.2 i).1)), .p (.int .i64 ((v.2.1.2 i).2.1))])))),
  (∀ i : Nat, (((i : Nat) < v.2.1.1) → All []))] := by kernel_rfl
theorem bCs (v : T_Graph) :
    pathOb Try.prog Try.f59 0 [.reg [oT, oT], .reg [oT, oT, oT, oT, oT, oT, oT, oT]] [.code (bodyOf Try.f59)] (start Try.f59 [] 0 [graphA v]) [224] 1 [(0, brOb v.2.1.1 v.2.1.2)] (.agg [.p (.int .i64 v.1), .ar 2 0 0 v.2.1.1]) =
    some [((0 : Nat) < 1),
  ((0 : Nat) < 1),
  ((0 : Nat) ≤ 0),
  ((((0 + v.2.1.1) * 16) : Nat) ≤ 140737488355328),
  (((0 + v.2.1.1) : Nat) ≤ 9223372036854775807),
  ((0 : Nat) < 1),
  ((true = true) → ((1 : Nat) = 1)),
  ((0 : Nat) < 1),
  ((v.1 : Int) = v.1),
  ((0 : Nat) = 0),
  (((0 + v.2.1.1) : Nat) = v.2.1.1),
  ((2 : Nat) = 2),
  ((v.2.1.1 : Nat) ≤ (0 + v.2.1.1)),
  (∀ i : Nat, (((i : Nat) < v.2.1.1) → (All [] ∧ (([.p (.int .i64 ((v.2.1.2 i).1)), .p (.int .i64 ((v.2.1.2 i).2.1))] : List AV) = [.p (.int .i64 ((v.2.1.2 i).1)), .p (.int .i64 ((v.2.1.2 i).2.1))])))),
  (∀ i : Nat, (((i : Nat) < v.2.1.1) → All []))] := by kernel_rfl
theorem bIf (v : T_Graph) (a b : Int) (b1 b2 b3 : Bool) :
    pathOb Try.prog Try.f63 0 [.reg [oT, oT, oT], .reg [oT, ⟨true, (some ⟨[], [], 1, [(0, brOb v.2.1.1 v.2.1.2)], .agg [.p (.int .i64 v.1), .ar 2 0 0 v.2.1.1]⟩), none⟩, oT, oT], .reg [oT, ⟨true, (some ⟨[], [], 1, [], .p (.bool b1)⟩), none⟩, oT, oT, oT, oT, ⟨true, (some ⟨[], [], 1, [], .p (.bool b2)⟩), none⟩, oT, oT, oT, oT, oT, ⟨true, (some ⟨[], [], 1, [], .p (.bool b3)⟩), none⟩, oT, oT, oT, oT, oT, oT, oT, oT, oT, oT, oT, oT, oT], .dec true, .reg [oT, oT, oT]] [.code (bodyOf Try.f63)] (start Try.f63 [] 0 [graphA v, .p (.int .i64 a), .p (.int .i64 b)]) [128] 1 [(0, brOb v.2.1.1 v.2.1.2)] (.tup [.agg [.p (.int .i64 v.1), .ar 2 0 0 v.2.1.1], .p (.bool false)]) =
    some [((0 : Nat) < 1),
  Con Try.prog 78 0 [] [.agg [.p (.int .i64 v.1), .p (.seq true 2 v.2.1.1 (fun i => [.int .i64 ((v.2.1.2 i).1), .int .i64 ((v.2.1.2 i).2.1)]))]] [(0, ⟨false, 2, v.2.1.1, (fun i => [.p (.int .i64 ((v.2.1.2 i).1)), .p (.int .i64 ((v.2.1.2 i).2.1))])⟩)] (.agg [.p (.int .i64 v.1), .ar 2 0 0 v.2.1.1]),
  ((0 : Nat) < 1),
  ((true = true) → ((1 : Nat) = 1)),
  ((0 : Nat) < 1),
  Con Try.prog 77 0 [] [.agg [.p (.int .i64 v.1), .p (.seq true 2 v.2.1.1 (fun i => [.int .i64 ((v.2.1.2 i).1), .int .i64 ((v.2.1.2 i).2.1)]))]] [] (.p (.bool b1)),
  (((!!b1) = true) → ((0 : Nat) < 1)),
  (((!!b1) = true) → ((!!b1) = true)),
  (((!!b1) = true) → ((!!b1) = true)),
  (((!!b1) = true) → Con Try.prog 101 0 [] [.agg [.p (.int .i64 v.1), .p (.seq true 2 v.2.1.1 (fun i => [.int .i64 ((v.2.1.2 i).1), .int .i64 ((v.2.1.2 i).2.1)]))], .p (.int .i64 a)] [] (.p (.bool b2))),
  (((!!b1) = true) → ((!!b1) = true)),
  (((!b1) = false) → ((!!b1) = true)),
  (((!bif !b1 then true else !b2) = true) → ((0 : Nat) < 1)),
  (((!bif !b1 then true else !b2) = true) → ((!bif !b1 then true else !b2) = true)),
  (((!bif !b1 then true else !b2) = true) → ((!bif !b1 then true else !b2) = true)),
  (((!bif !b1 then true else !b2) = true) → Con Try.prog 101 0 [] [.agg [.p (.int .i64 v.1), .p (.seq true 2 v.2.1.1 (fun i => [.int .i64 ((v.2.1.2 i).1), .int .i64 ((v.2.1.2 i).2.1)]))], .p (.int .i64 b)] [] (.p (.bool b3))),
  (((!bif !b1 then true else !b2) = true) → ((!bif !b1 then true else !b2) = true)),
  (((bif !b1 then true else !b2) = false) → ((!bif !b1 then true else !b2) = true)),
  (((!bif bif !b1 then true else !b2 then true else !b3) = true) → ((!bif bif !b1 then true else !b2 then true else !b3) = true)),
  (((!bif bif !b1 then true else !b2 then true else !b3) = true) → ((!bif bif !b1 then true else !b2 then true else !b3) = true)),
  (((bif bif !b1 then true else !b2 then true else !b3) = false) → ((!bif bif !b1 then true else !b2 then true else !b3) = true)),
  (((!bif bif bif !b1 then true else !b2 then true else !b3 then true else a == b) = true) → ((!bif bif bif !b1 then true else !b2 then true else !b3 then true else a == b) = true)),
  (((!bif bif bif !b1 then true else !b2 then true else !b3 then true else a == b) = true) → ((0 : Nat) < 1)),
  (((!bif bif bif !b1 then true else !b2 then true else !b3 then true else a == b) = true) → ((!bif bif bif !b1 then true else !b2 then true else !b3 then true else a == b) = true)),
  (((!bif bif bif !b1 then true else !b2 then true else !b3 then true else a == b) = true) → ((!bif bif bif !b1 then true else !b2 then true else !b3 then true else a == b) = true)),
  (((bif bif bif !b1 then true else !b2 then true else !b3 then true else a == b) = false) → ((!bif bif bif !b1 then true else !b2 then true else !b3 then true else a == b) = true)),
  ((bif bif bif bif !b1 then true else !b2 then true else !b3 then true else a == b then true else (↑v.2.1.1 : Int) == 24) = true),
  ((0 : Nat) < 1),
  ((0 : Nat) < 1),
  ((true = true) → ((1 : Nat) = 1)),
  ((0 : Nat) < 1),
  ((v.1 : Int) = v.1),
  ((0 : Nat) = 0),
  ((v.2.1.1 : Nat) = v.2.1.1),
  (false = false),
  ((2 : Nat) = 2),
  ((v.2.1.1 : Nat) ≤ v.2.1.1),
  (∀ i : Nat, (((i : Nat) < v.2.1.1) → (All [] ∧ (([.p (.int .i64 ((v.2.1.2 i).1)), .p (.int .i64 ((v.2.1.2 i).2.1))] : List AV) = [.p (.int .i64 ((v.2.1.2 i).1)), .p (.int .i64 ((v.2.1.2 i).2.1))])))),
  (∀ i : Nat, (((i : Nat) < v.2.1.1) → All []))] := by kernel_rfl
theorem bIa (v : T_Graph) (a b : Int) (b1 b2 b3 : Bool) (x : T_Bar) :
    pieceOb Try.prog 0 [.reg [oT, oT, oT], .reg [oT, ⟨true, (some ⟨[], [], 1, [(0, brOb v.2.1.1 v.2.1.2)], .agg [.p (.int .i64 v.1), .ar 2 0 0 v.2.1.1]⟩), none⟩, oT, oT], .reg [oT, ⟨true, (some ⟨[], [], 1, [], .p (.bool b1)⟩), none⟩, oT, oT, oT, oT, ⟨true, (some ⟨[], [], 1, [], .p (.bool b2)⟩), none⟩, oT, oT, oT, oT, oT, ⟨true, (some ⟨[], [], 1, [], .p (.bool b3)⟩), none⟩, oT, oT, oT, oT, oT, oT, oT, oT, oT, oT, oT, oT, oT], .dec false, .reg [oT, oT, oT, oT, ⟨true, (some ⟨[], [], 1, [], .agg [.p (.int .i64 x.1), .p (.int .i64 x.2.1)]⟩), none⟩, oT, oT, oT, oT], .head] [.code (bodyOf Try.f63)] (start Try.f63 [] 0 [graphA v, .p (.int .i64 a), .p (.int .i64 b)]) [32, 160, 1248] 1 (SAB v.1 (v.2.1.1 + 1) (snoc v.2.1.1 v.2.1.2 x)) =
    some ([.code (cAt (bodyOf Try.f63) [1, 1, 1, 1, 0]), .code (cAt (bodyOf Try.f63) [1, 1, 1, 1, 1])], [((0 : Nat) < 1),
  Con Try.prog 78 0 [] [.agg [.p (.int .i64 v.1), .p (.seq true 2 v.2.1.1 (fun i => [.int .i64 ((v.2.1.2 i).1), .int .i64 ((v.2.1.2 i).2.1)]))]] [(0, ⟨false, 2, v.2.1.1, (fun i => [.p (.int .i64 ((v.2.1.2 i).1)), .p (.int .i64 ((v.2.1.2 i).2.1))])⟩)] (.agg [.p (.int .i64 v.1), .ar 2 0 0 v.2.1.1]),
  ((0 : Nat) < 1),
  ((true = true) → ((1 : Nat) = 1)),
  ((0 : Nat) < 1),
  Con Try.prog 77 0 [] [.agg [.p (.int .i64 v.1), .p (.seq true 2 v.2.1.1 (fun i => [.int .i64 ((v.2.1.2 i).1), .int .i64 ((v.2.1.2 i).2.1)]))]] [] (.p (.bool b1)),
  (((!!b1) = true) → ((0 : Nat) < 1)),
  (((!!b1) = true) → ((!!b1) = true)),
  (((!!b1) = true) → ((!!b1) = true)),
  (((!!b1) = true) → Con Try.prog 101 0 [] [.agg [.p (.int .i64 v.1), .p (.seq true 2 v.2.1.1 (fun i => [.int .i64 ((v.2.1.2 i).1), .int .i64 ((v.2.1.2 i).2.1)]))], .p (.int .i64 a)] [] (.p (.bool b2))),
  (((!!b1) = true) → ((!!b1) = true)),
  (((!b1) = false) → ((!!b1) = true)),
  (((!bif !b1 then true else !b2) = true) → ((0 : Nat) < 1)),
  (((!bif !b1 then true else !b2) = true) → ((!bif !b1 then true else !b2) = true)),
  (((!bif !b1 then true else !b2) = true) → ((!bif !b1 then true else !b2) = true)),
  (((!bif !b1 then true else !b2) = true) → Con Try.prog 101 0 [] [.agg [.p (.int .i64 v.1), .p (.seq true 2 v.2.1.1 (fun i => [.int .i64 ((v.2.1.2 i).1), .int .i64 ((v.2.1.2 i).2.1)]))], .p (.int .i64 b)] [] (.p (.bool b3))),
  (((!bif !b1 then true else !b2) = true) → ((!bif !b1 then true else !b2) = true)),
  (((bif !b1 then true else !b2) = false) → ((!bif !b1 then true else !b2) = true)),
  (((!bif bif !b1 then true else !b2 then true else !b3) = true) → ((!bif bif !b1 then true else !b2 then true else !b3) = true)),
  (((!bif bif !b1 then true else !b2 then true else !b3) = true) → ((!bif bif !b1 then true else !b2 then true else !b3) = true)),
  (((bif bif !b1 then true else !b2 then true else !b3) = false) → ((!bif bif !b1 then true else !b2 then true else !b3) = true)),
  (((!bif bif bif !b1 then true else !b2 then true else !b3 then true else a == b) = true) → ((!bif bif bif !b1 then true else !b2 then true else !b3 then true else a == b) = true)),
  (((!bif bif bif !b1 then true else !b2 then true else !b3 then true else a == b) = true) → ((0 : Nat) < 1)),
  (((!bif bif bif !b1 then true else !b2 then true else !b3 then true else a == b) = true) → ((!bif bif bif !b1 then true else !b2 then true else !b3 then true else a == b) = true)),
  (((!bif bif bif !b1 then true else !b2 then true else !b3 then true else a == b) = true) → ((!bif bif bif !b1 then true else !b2 then true else !b3 then true else a == b) = true)),
  (((bif bif bif !b1 then true else !b2 then true else !b3 then true else a == b) = false) → ((!bif bif bif !b1 then true else !b2 then true else !b3 then true else a == b) = true)),
  ((bif bif bif bif !b1 then true else !b2 then true else !b3 then true else a == b then true else (↑v.2.1.1 : Int) == 24) = false),
  ((0 : Nat) < 1),
  Con Try.prog 106 0 [] [.p (.int .i64 a), .p (.int .i64 b)] [] (.agg [.p (.int .i64 x.1), .p (.int .i64 x.2.1)]),
  ((1 : Nat) ≤ 1),
  ((v.2.1.1 : Nat) ≤ v.2.1.1),
  ((((v.2.1.1 + 1) * 16) : Nat) ≤ 140737488355328),
  (((v.2.1.1 + 1) : Nat) ≤ 9223372036854775807),
  ((0 : Nat) < 1),
  ((true = true) → ((1 : Nat) = 1)),
  ((0 : Nat) = 0),
  ((0 : Nat) = 0),
  ((((List.map (fun v => AV.p (absV v)) [Value.int IntKind.i64 0, Value.slice none 0 0]).length) : Nat) = 2),
  ((1 : Nat) ≤ 1),
  ((1 : Nat) ≤ 1),
  ((0 : Int) = 0),
  ((((List.map (fun v => AV.p (absV v)) [Value.int IntKind.i64 0, Value.slice none 0 0]).length) : Nat) = 2),
  ((1 : Nat) ≤ 1),
  ((1 : Nat) ≤ 1),
  ((v.1 : Int) = v.1),
  ((0 : Nat) = 0),
  (((v.2.1.1 + 1) : Nat) = (v.2.1.1 + 1)),
  ((2 : Nat) = 2),
  (((v.2.1.1 + 1) : Nat) ≤ (v.2.1.1 + 1)),
  (∀ i : Nat, (((i : Nat) < (v.2.1.1 + 1)) → (All (cvtL false [(160, ⟨true, 2, 1, (fun i_1 => [.p (.int .i64 v.1), .ar 2 1248 0 (v.2.1.1 + 1)])⟩), (1248, ⟨false, 2, (v.2.1.1 + 1), (fun i_1 => (if (i_1 < v.2.1.1) then [.p (.int .i64 ((v.2.1.2 i_1).1)), .p (.int .i64 ((v.2.1.2 i_1).2.1))] else [.p (.int .i64 x.1), .p (.int .i64 x.2.1)]))⟩), (1216, ⟨false, 2, 1, (fun i_1 => [.p (.int .i64 x.1), .p (.int .i64 x.2.1)])⟩), (32, ⟨true, 2, 1, (fun i_1 => [.p (.int .i64 0), .p (.nil)])⟩), (0, ⟨true, 2, 1, (fun i_1 => [.p (.int .i64 v.1), .p (.seq true 2 v.2.1.1 (fun i_2 => [.int .i64 ((v.2.1.2 i_2).1), .int .i64 ((v.2.1.2 i_2).2.1)]))])⟩)] [32, 160, 1248] 1 (if (i < v.2.1.1) then [.p (.int .i64 ((v.2.1.2 i).1)), .p (.int .i64 ((v.2.1.2 i).2.1))] else [.p (.int .i64 x.1), .p (.int .i64 x.2.1)])).2 ∧ (((cvtL false [(160, ⟨true, 2, 1, (fun i_1 => [.p (.int .i64 v.1), .ar 2 1248 0 (v.2.1.1 + 1)])⟩), (1248, ⟨false, 2, (v.2.1.1 + 1), (fun i_1 => (if (i_1 < v.2.1.1) then [.p (.int .i64 ((v.2.1.2 i_1).1)), .p (.int .i64 ((v.2.1.2 i_1).2.1))] else [.p (.int .i64 x.1), .p (.int .i64 x.2.1)]))⟩), (1216, ⟨false, 2, 1, (fun i_1 => [.p (.int .i64 x.1), .p (.int .i64 x.2.1)])⟩), (32, ⟨true, 2, 1, (fun i_1 => [.p (.int .i64 0), .p (.nil)])⟩), (0, ⟨true, 2, 1, (fun i_1 => [.p (.int .i64 v.1), .p (.seq true 2 v.2.1.1 (fun i_2 => [.int .i64 ((v.2.1.2 i_2).1), .int .i64 ((v.2.1.2 i_2).2.1)]))])⟩)] [32, 160, 1248] 1 (if (i < v.2.1.1) then [.p (.int .i64 ((v.2.1.2 i).1)), .p (.int .i64 ((v.2.1.2 i).2.1))] else [.p (.int .i64 x.1), .p (.int .i64 x.2.1)])).1 : List AV) = [.p (.int .i64 (if i < v.2.1.1 then (v.2.1.2 i).1 else x.1)), .p (.int .i64 (if i < v.2.1.1 then (v.2.1.2 i).2.1 else x.2.1))]))))]) := by kernel_rfl
theorem bIb (N : Int) (n : Nat) (h r : Nat → T_Bar) :
    pathOb Try.prog Try.f63 0 [.reg [oT, oT, ⟨true, (some ⟨[2], [], 1, [(0, brOb n r)], .tup []⟩), none⟩], .reg [oT, oT, oT]] [.code (cAt (bodyOf Try.f63) [1, 1, 1, 1, 0]), .code (cAt (bodyOf Try.f63) [1, 1, 1, 1, 1])] (SAB N n h) [2] 1 [(0, brOb n r)] (.tup [.agg [.p (.int .i64 N), .ar 2 0 0 n], .p (.bool true)]) =
    some [((0 : Nat) < 1),
  (∀ i : Nat, (((i : Nat) < n) → All [])),
  Con Try.prog 109 1 [(0, ⟨false, 2, n, (fun i => [.p (.int .i64 ((h i).1)), .p (.int .i64 ((h i).2.1))])⟩)] [.ar 2 0 0 n, .p (.fn 82)] [(0, ⟨false, 2, n, (fun i => [.p (.int .i64 ((r i).1)), .p (.int .i64 ((r i).2.1))])⟩)] (.tup []),
  ((0 : Nat) < 1),
  ((0 : Nat) < 1),
  ((true = true) → ((1 : Nat) = 1)),
  ((0 : Nat) < 1),
  ((N : Int) = N),
  ((0 : Nat) = 0),
  ((n : Nat) = n),
  (true = true),
  ((2 : Nat) = 2),
  ((n : Nat) ≤ n),
  (∀ i : Nat, (((i : Nat) < n) → (All [] ∧ (([.p (.int .i64 ((r i).1)), .p (.int .i64 ((r i).2.1))] : List AV) = [.p (.int .i64 ((r i).1)), .p (.int .i64 ((r i).2.1))])))),
  (∀ i : Nat, (((i : Nat) < n) → All []))] := by kernel_rfl
theorem bSf (v : T_Graph) (a b : Int) (b1 : Bool) :
    pathOb Try.prog Try.f60 0 [.reg [oT, oT, oT], .reg [oT, ⟨true, (some ⟨[], [], 1, [], .p (.bool b1)⟩), none⟩, oT, oT, oT, oT, oT, oT, oT, oT, oT, oT, oT, oT, oT, oT, oT, oT, oT, oT, oT, oT, oT, oT, oT, oT, oT, oT, oT, oT, oT, oT, oT, oT], .dec true, .reg [oT, ⟨true, (some ⟨[], [], 1, [(0, brOb v.2.1.1 v.2.1.2)], .agg [.p (.int .i64 v.1), .ar 2 0 0 v.2.1.1]⟩), none⟩, oT, oT]] [.code (bodyOf Try.f60)] (start Try.f60 [] 0 [graphA v, .p (.int .i64 a), .p (.int .i64 b)]) [1216] 1 [(0, brOb v.2.1.1 v.2.1.2)] (.tup [.agg [.p (.int .i64 v.1), .ar 2 0 0 v.2.1.1], .p (.bool false)]) =
    some [((0 : Nat) < 1),
  Con Try.prog 73 0 [] [.agg [.p (.int .i64 v.1), .p (.seq true 2 v.2.1.1 (fun i => [.int .i64 ((v.2.1.2 i).1), .int .i64 ((v.2.1.2 i).2.1)]))]] [] (.p (.bool b1)),
  (((!!b1) = true) → ((!!b1) = true)),
  (((!b1) = false) → ((!!b1) = true)),
  (((!bif !b1 then true else decide (a < 0)) = true) → ((!bif !b1 then true else decide (a < 0)) = true)),
  (((bif !b1 then true else decide (a < 0)) = false) → ((!bif !b1 then true else decide (a < 0)) = true)),
  (((!bif bif !b1 then true else decide (a < 0) then true else decide (b < 0)) = true) → ((!bif bif !b1 then true else decide (a < 0) then true else decide (b < 0)) = true)),
  (((!bif bif !b1 then true else decide (a < 0) then true else decide (b < 0)) = true) → ((0 : Nat) < 1)),
  (((!bif bif !b1 then true else decide (a < 0) then true else decide (b < 0)) = true) → ((!bif bif !b1 then true else decide (a < 0) then true else decide (b < 0)) = true)),
  (((!bif bif !b1 then true else decide (a < 0) then true else decide (b < 0)) = true) → ((!bif bif !b1 then true else decide (a < 0) then true else decide (b < 0)) = true)),
  (((bif bif !b1 then true else decide (a < 0) then true else decide (b < 0)) = false) → ((!bif bif !b1 then true else decide (a < 0) then true else decide (b < 0)) = true)),
  (((!bif bif bif !b1 then true else decide (a < 0) then true else decide (b < 0) then true else decide (a ≥ v.1)) = true) → ((!bif bif bif !b1 then true else decide (a < 0) then true else decide (b < 0) then true else decide (a ≥ v.1)) = true)),
  (((!bif bif bif !b1 then true else decide (a < 0) then true else decide (b < 0) then true else decide (a ≥ v.1)) = true) → ((0 : Nat) < 1)),
  (((!bif bif bif !b1 then true else decide (a < 0) then true else decide (b < 0) then true else decide (a ≥ v.1)) = true) → ((!bif bif bif !b1 then true else decide (a < 0) then true else decide (b < 0) then true else decide (a ≥ v.1)) = true)),
  (((!bif bif bif !b1 then true else decide (a < 0) then true else decide (b < 0) then true else decide (a ≥ v.1)) = true) → ((!bif bif bif !b1 then true else decide (a < 0) then true else decide (b < 0) then true else decide (a ≥ v.1)) = true)),
  (((bif bif bif !b1 then true else decide (a < 0) then true else decide (b < 0) then true else decide (a ≥ v.1)) = false) → ((!bif bif bif !b1 then true else decide (a < 0) then true else decide (b < 0) then true else decide (a ≥ v.1)) = true)),
  (((!bif bif bif bif !b1 then true else decide (a < 0) then true else decide (b < 0) then true else decide (a ≥ v.1) then true else decide (b ≥ v.1)) = true) → ((!bif bif bif bif !b1 then true else decide (a < 0) then true else decide (b < 0) then true else decide (a ≥ v.1) then true else decide (b ≥ v.1)) = true)),
  (((!bif bif bif bif !b1 then true else decide (a < 0) then true else decide (b < 0) then true else decide (a ≥ v.1) then true else decide (b ≥ v.1)) = true) → ((!bif bif bif bif !b1 then true else decide (a < 0) then true else decide (b < 0) then true else decide (a ≥ v.1) then true else decide (b ≥ v.1)) = true)),
  (((bif bif bif bif !b1 then true else decide (a < 0) then true else decide (b < 0) then true else decide (a ≥ v.1) then true else decide (b ≥ v.1)) = false) → ((!bif bif bif bif !b1 then true else decide (a < 0) then true else decide (b < 0) then true else decide (a ≥ v.1) then true else decide (b ≥ v.1)) = true)),
  (((!bif bif bif bif bif !b1 then true else decide (a < 0) then true else decide (b < 0) then true else decide (a ≥ v.1) then true else decide (b ≥ v.1) then true else a == b) = true) → ((!bif bif bif bif bif !b1 then true else decide (a < 0) then true else decide (b < 0) then true else decide (a ≥ v.1) then true else decide (b ≥ v.1) then true else a == b) = true)),
  (((!bif bif bif bif bif !b1 then true else decide (a < 0) then true else decide (b < 0) then true else decide (a ≥ v.1) then true else decide (b ≥ v.1) then true else a == b) = true) → ((0 : Nat) < 1)),
  (((!bif bif bif bif bif !b1 then true else decide (a < 0) then true else decide (b < 0) then true else decide (a ≥ v.1) then true else decide (b ≥ v.1) then true else a == b) = true) → ((!bif bif bif bif bif !b1 then true else decide (a < 0) then true else decide (b < 0) then true else decide (a ≥ v.1) then true else decide (b ≥ v.1) then true else a == b) = true)),
  (((!bif bif bif bif bif !b1 then true else decide (a < 0) then true else decide (b < 0) then true else decide (a ≥ v.1) then true else decide (b ≥ v.1) then true else a == b) = true) → ((!bif bif bif bif bif !b1 then true else decide (a < 0) then true else decide (b < 0) then true else decide (a ≥ v.1) then true else decide (b ≥ v.1) then true else a == b) = true)),
  (((bif bif bif bif bif !b1 then true else decide (a < 0) then true else decide (b < 0) then true else decide (a ≥ v.1) then true else decide (b ≥ v.1) then true else a == b) = false) → ((!bif bif bif bif bif !b1 then true else decide (a < 0) then true else decide (b < 0) then true else decide (a ≥ v.1) then true else decide (b ≥ v.1) then true else a == b) = true)),
  ((bif bif bif bif bif bif !b1 then true else decide (a < 0) then true else decide (b < 0) then true else decide (a ≥ v.1) then true else decide (b ≥ v.1) then true else a == b then true else decide ((↑v.2.1.1 : Int) ≥ 24)) = true),
  ((0 : Nat) < 1),
  Con Try.prog 59 0 [] [.agg [.p (.int .i64 v.1), .p (.seq true 2 v.2.1.1 (fun i => [.int .i64 ((v.2.1.2 i).1), .int .i64 ((v.2.1.2 i).2.1)]))]] [(0, ⟨false, 2, v.2.1.1, (fun i => [.p (.int .i64 ((v.2.1.2 i).1)), .p (.int .i64 ((v.2.1.2 i).2.1))])⟩)] (.agg [.p (.int .i64 v.1), .ar 2 0 0 v.2.1.1]),
  ((0 : Nat) < 1),
  ((true = true) → ((1 : Nat) = 1)),
  ((0 : Nat) < 1),
  ((v.1 : Int) = v.1),
  ((0 : Nat) = 0),
  ((v.2.1.1 : Nat) = v.2.1.1),
  (false = false),
  ((2 : Nat) = 2),
  ((v.2.1.1 : Nat) ≤ v.2.1.1),
  (∀ i : Nat, (((i : Nat) < v.2.1.1) → (All [] ∧ (([.p (.int .i64 ((v.2.1.2 i).1)), .p (.int .i64 ((v.2.1.2 i).2.1))] : List AV) = [.p (.int .i64 ((v.2.1.2 i).1)), .p (.int .i64 ((v.2.1.2 i).2.1))])))),
  (∀ i : Nat, (((i : Nat) < v.2.1.1) → All []))] := by kernel_rfl
theorem bSt (v : T_Graph) (a b : Int) (b1 : Bool) (m : Nat) (r r' : Nat → T_Bar) :
    pathOb Try.prog Try.f60 0 [.reg [oT, oT, oT], .reg [oT, ⟨true, (some ⟨[], [], 1, [], .p (.bool b1)⟩), none⟩, oT, oT, oT, oT, oT, oT, oT, oT, oT, oT, oT, oT, oT, oT, oT, oT, oT, oT, oT, oT, oT, oT, oT, oT, oT, oT, oT, oT, oT, oT, oT, oT], .dec false, .reg [oT, oT, oT, oT, oT, oT, oT, oT, ⟨true, (some ⟨[], [], 1, [(0, brOb m r)], .agg [.p (.int .i64 v.1), .ar 2 0 0 m]⟩), none⟩, oT, oT]] [.code (bodyOf Try.f60)] (start Try.f60 [] 0 [graphA v, .p (.int .i64 a), .p (.int .i64 b)]) [1440] 1 [(0, brOb m r')] (.tup [.agg [.p (.int .i64 v.1), .ar 2 0 0 m], .p (.bool true)]) =
    some [((0 : Nat) < 1),
  Con Try.prog 73 0 [] [.agg [.p (.int .i64 v.1), .p (.seq true 2 v.2.1.1 (fun i => [.int .i64 ((v.2.1.2 i).1), .int .i64 ((v.2.1.2 i).2.1)]))]] [] (.p (.bool b1)),
  (((!!b1) = true) → ((!!b1) = true)),
  (((!b1) = false) → ((!!b1) = true)),
  (((!bif !b1 then true else decide (a < 0)) = true) → ((!bif !b1 then true else decide (a < 0)) = true)),
  (((bif !b1 then true else decide (a < 0)) = false) → ((!bif !b1 then true else decide (a < 0)) = true)),
  (((!bif bif !b1 then true else decide (a < 0) then true else decide (b < 0)) = true) → ((!bif bif !b1 then true else decide (a < 0) then true else decide (b < 0)) = true)),
  (((!bif bif !b1 then true else decide (a < 0) then true else decide (b < 0)) = true) → ((0 : Nat) < 1)),
  (((!bif bif !b1 then true else decide (a < 0) then true else decide (b < 0)) = true) → ((!bif bif !b1 then true else decide (a < 0) then true else decide (b < 0)) = true)),
  (((!bif bif !b1 then true else decide (a < 0) then true else decide (b < 0)) = true) → ((!bif bif !b1 then true else decide (a < 0) then true else decide (b < 0)) = true)),
  (((bif bif !b1 then true else decide (a < 0) then true else decide (b < 0)) = false) → ((!bif bif !b1 then true else decide (a < 0) then true else decide (b < 0)) = true)),
  (((!bif bif bif !b1 then true else decide (a < 0) then true else decide (b < 0) then true else decide (a ≥ v.1)) = true) → ((!bif bif bif !b1 then true else decide (a < 0) then true else decide (b < 0) then true else decide (a ≥ v.1)) = true)),
  (((!bif bif bif !b1 then true else decide (a < 0) then true else decide (b < 0) then true else decide (a ≥ v.1)) = true) → ((0 : Nat) < 1)),
  (((!bif bif bif !b1 then true else decide (a < 0) then true else decide (b < 0) then true else decide (a ≥ v.1)) = true) → ((!bif bif bif !b1 then true else decide (a < 0) then true else decide (b < 0) then true else decide (a ≥ v.1)) = true)),
  (((!bif bif bif !b1 then true else decide (a < 0) then true else decide (b < 0) then true else decide (a ≥ v.1)) = true) → ((!bif bif bif !b1 then true else decide (a < 0) then true else decide (b < 0) then true else decide (a ≥ v.1)) = true)),
  (((bif bif bif !b1 then true else decide (a < 0) then true else decide (b < 0) then true else decide (a ≥ v.1)) = false) → ((!bif bif bif !b1 then true else decide (a < 0) then true else decide (b < 0) then true else decide (a ≥ v.1)) = true)),
  (((!bif bif bif bif !b1 then true else decide (a < 0) then true else decide (b < 0) then true else decide (a ≥ v.1) then true else decide (b ≥ v.1)) = true) → ((!bif bif bif bif !b1 then true else decide (a < 0) then true else decide (b < 0) then true else decide (a ≥ v.1) then true else decide (b ≥ v.1)) = true)),
  (((!bif bif bif bif !b1 then true else decide (a < 0) then true else decide (b < 0) then true else decide (a ≥ v.1) then true else decide (b ≥ v.1)) = true) → ((!bif bif bif bif !b1 then true else decide (a < 0) then true else decide (b < 0) then true else decide (a ≥ v.1) then true else decide (b ≥ v.1)) = true)),
  (((bif bif bif bif !b1 then true else decide (a < 0) then true else decide (b < 0) then true else decide (a ≥ v.1) then true else decide (b ≥ v.1)) = false) → ((!bif bif bif bif !b1 then true else decide (a < 0) then true else decide (b < 0) then true else decide (a ≥ v.1) then true else decide (b ≥ v.1)) = true)),
  (((!bif bif bif bif bif !b1 then true else decide (a < 0) then true else decide (b < 0) then true else decide (a ≥ v.1) then true else decide (b ≥ v.1) then true else a == b) = true) → ((!bif bif bif bif bif !b1 then true else decide (a < 0) then true else decide (b < 0) then true else decide (a ≥ v.1) then true else decide (b ≥ v.1) then true else a == b) = true)),
  (((!bif bif bif bif bif !b1 then true else decide (a < 0) then true else decide (b < 0) then true else decide (a ≥ v.1) then true else decide (b ≥ v.1) then true else a == b) = true) → ((0 : Nat) < 1)),
  (((!bif bif bif bif bif !b1 then true else decide (a < 0) then true else decide (b < 0) then true else decide (a ≥ v.1) then true else decide (b ≥ v.1) then true else a == b) = true) → ((!bif bif bif bif bif !b1 then true else decide (a < 0) then true else decide (b < 0) then true else decide (a ≥ v.1) then true else decide (b ≥ v.1) then true else a == b) = true)),
  (((!bif bif bif bif bif !b1 then true else decide (a < 0) then true else decide (b < 0) then true else decide (a ≥ v.1) then true else decide (b ≥ v.1) then true else a == b) = true) → ((!bif bif bif bif bif !b1 then true else decide (a < 0) then true else decide (b < 0) then true else decide (a ≥ v.1) then true else decide (b ≥ v.1) then true else a == b) = true)),
  (((bif bif bif bif bif !b1 then true else decide (a < 0) then true else decide (b < 0) then true else decide (a ≥ v.1) then true else decide (b ≥ v.1) then true else a == b) = false) → ((!bif bif bif bif bif !b1 then true else decide (a < 0) then true else decide (b < 0) then true else decide (a ≥ v.1) then true else decide (b ≥ v.1) then true else a == b) = true)),
  ((bif bif bif bif bif bif !b1 then true else decide (a < 0) then true else decide (b < 0) then true else decide (a ≥ v.1) then true else decide (b ≥ v.1) then true else a == b then true else decide ((↑v.2.1.1 : Int) ≥ 24)) = false),
  ((0 : Nat) < 1),
  Con Try.prog 108 0 [] [.agg [.p (.int .i64 v.1), .p (.seq true 2 v.2.1.1 (fun i => [.int .i64 ((v.2.1.2 i).1), .int .i64 ((v.2.1.2 i).2.1)]))], .agg [.p (.int .i64 (if false = true then if b > a then b else a else if b < a then b else a)), .p (.int .i64 (if true = true then if b > a then b else a else if b < a then b else a))]] [(0, ⟨false, 2, m, (fun i => [.p (.int .i64 ((r i).1)), .p (.int .i64 ((r i).2.1))])⟩)] (.agg [.p (.int .i64 v.1), .ar 2 0 0 m]),
  ((0 : Nat) < 1),
  ((true = true) → ((1 : Nat) = 1)),
  ((0 : Nat) < 1),
  ((v.1 : Int) = v.1),
  ((0 : Nat) = 0),
  ((m : Nat) = m),
  (true = true),
  ((2 : Nat) = 2),
  ((m : Nat) ≤ m),
  (∀ i : Nat, (((i : Nat) < m) → (All [] ∧ (([.p (.int .i64 ((r i).1)), .p (.int .i64 ((r i).2.1))] : List AV) = [.p (.int .i64 ((r' i).1)), .p (.int .i64 ((r' i).2.1))])))),
  (∀ i : Nat, (((i : Nat) < m) → All []))] := by kernel_rfl
theorem con_copyGraph (v : T_Graph) (hn : v.2.1.1 ≤ 1048576) : Con Try.prog 78 0 [] [graphA v] [(0, brOb v.2.1.1 v.2.1.2)] (.agg [.p (.int .i64 v.1), .ar 2 0 0 v.2.1.1]) := by
  refine con_start Try.func78 rfl (by kernel_rfl) rfl (fun c hc => ?_)
  refine path_ok mixed Try.func78 hc (bCi v) ?_
  simp only [All]
  repeat' (first | exact trivial | with_reducible apply And.intro)
  all_goals (first | omega | rfl | (intros; first | assumption | exact True.intro | rfl | exact absurd (show false = true by assumption) Bool.false_ne_true | ((repeat' (first | assumption | apply anda | apply notf)); done)) | (intro j hj; simp [All]; done) | (simp; try omega))
theorem con_l2Copy (v : T_Graph) (hn : v.2.1.1 ≤ 1048576) : Con Try.prog 59 0 [] [graphA v] [(0, brOb v.2.1.1 v.2.1.2)] (.agg [.p (.int .i64 v.1), .ar 2 0 0 v.2.1.1]) := by
  refine con_start Try.func59 rfl (by kernel_rfl) rfl (fun c hc => ?_)
  refine path_ok mixed Try.func59 hc (bCs v) ?_
  simp only [All]
  repeat' (first | exact trivial | with_reducible apply And.intro)
  all_goals (first | omega | rfl | (intros; first | assumption | exact True.intro | rfl | exact absurd (show false = true by assumption) Bool.false_ne_true | ((repeat' (first | assumption | apply anda | apply notf)); done)) | (intro j hj; simp [All]; done) | (simp; try omega))
def abB (v : T_Graph) (a b : Int) : Bool := isGraphF v && (inB a 0 (v.1 - 1) && (inB b 0 (v.1 - 1) && (!(a == b) && !((v.2.1.1 : Int) == 24))))
def abG (v : T_Graph) (a b : Int) : T_Graph := if abB v a b = true then (v.1, (v.2.1.1 + 1, srtB (v.2.1.1 + 1) (snoc v.2.1.1 v.2.1.2 (brX a b))), ()) else v
theorem abB_in {v : T_Graph} {a b : Int} (h : abB v a b = true) : isGraphF v = true ∧ (0 ≤ a ∧ a < v.1) ∧ (0 ≤ b ∧ b < v.1) ∧ a ≠ b ∧ v.2.1.1 < 24 := by
  simp only [abB, inB, Bool.and_eq_true, decide_eq_true_eq, Bool.not_eq_true', beq_eq_false_iff_ne, ne_eq] at h
  obtain ⟨hg, ⟨h1, h2⟩, ⟨h3, h4⟩, h5, h6⟩ := h
  have := graph_inR hg
  exact ⟨hg, ⟨h1, by omega⟩, ⟨h3, by omega⟩, h5, by omega⟩
theorem abG_n (v : T_Graph) (a b : Int) : (abG v a b).2.1.1 ≤ v.2.1.1 ∨ (abG v a b).2.1.1 ≤ 24 := by
  unfold abG
  split
  · rename_i h
    have := abB_in h
    right; show v.2.1.1 + 1 ≤ 24; omega
  · left; exact Nat.le_refl _
theorem con_AddBar_i (v : T_Graph) (hs : smS s_Graph v) (a b : Int) :
    Con Try.prog 63 0 [] [graphA v, .p (.int .i64 a), .p (.int .i64 b)] [(0, brOb (abG v a b).2.1.1 (abG v a b).2.1.2)] (.tup [.agg [.p (.int .i64 (abG v a b).1), .ar 2 0 0 (abG v a b).2.1.1], .p (.bool (abB v a b))]) := by
  have hn : v.2.1.1 ≤ 1048576 := hs.2.1.1
  have cc := con_copyGraph v hn
  have c1 := con_IsGraph_i v hs
  have c2 : isGraphF v = true → ∀ p, Con Try.prog 101 0 [] [graphA v, .p (.int .i64 p)] [] (.p (.bool (inB p 0 (v.1 - 1)))) := fun h p => by
    have := graph_inR h
    exact con_hasX v p this.1 this.2.1
  have hcd : (bif bif bif bif !isGraphF v then true else !inB a 0 (v.1 - 1) then true else !inB b 0 (v.1 - 1) then true else a == b then true else (v.2.1.1 : Int) == 24) = !abB v a b := by
    unfold abB
    cases isGraphF v <;> cases inB a 0 (v.1 - 1) <;> cases inB b 0 (v.1 - 1) <;> cases (a == b) <;> cases ((v.2.1.1 : Int) == 24) <;> rfl
  have c2a : (!!isGraphF v) = true → Con Try.prog 101 0 [] [graphA v, .p (.int .i64 a)] [] (.p (.bool (inB a 0 (v.1 - 1)))) := fun h => c2 (by simpa using h) a
  have c2b : (!bif !isGraphF v then true else !inB a 0 (v.1 - 1)) = true → Con Try.prog 101 0 [] [graphA v, .p (.int .i64 b)] [] (.p (.bool (inB b 0 (v.1 - 1)))) := fun h => c2 (by
    cases hb : isGraphF v with
    | true => rfl
    | false => rw [hb] at h; simp at h) b
  refine con_start Try.func63 rfl (by kernel_rfl) rfl (fun c hc => ?_)
  cases hb : abB v a b with
  | false =>
    rw [hb] at hcd
    have hcd' : (bif bif bif bif !isGraphF v then true else !inB a 0 (v.1 - 1) then true else !inB b 0 (v.1 - 1) then true else a == b then true else (v.2.1.1 : Int) == 24) = true := hcd
    rw [show abG v a b = v by simp [abG, hb]]
    refine path_ok mixed Try.func63 hc (bIf v a b (isGraphF v) (inB a 0 (v.1 - 1)) (inB b 0 (v.1 - 1))) ?_
    simp only [All]
    repeat' (first | exact trivial | with_reducible apply And.intro)
    all_goals (first | omega | rfl | (intros; first | assumption | exact True.intro | rfl | exact absurd (show false = true by assumption) Bool.false_ne_true | ((repeat' (first | assumption | apply anda | apply notf)); done)) | (exact cc) | (exact c1) | (exact c2a) | (exact c2b) | (exact hcd') | (intro j hj; simp [All]))
  | true =>
    rw [hb] at hcd
    have hcd' : (bif bif bif bif !isGraphF v then true else !inB a 0 (v.1 - 1) then true else !inB b 0 (v.1 - 1) then true else a == b then true else (v.2.1.1 : Int) == 24) = false := hcd
    have hin := abB_in hb
    rw [show abG v a b = (v.1, (v.2.1.1 + 1, srtB (v.2.1.1 + 1) (snoc v.2.1.1 v.2.1.2 (brX a b))), ()) by simp [abG, hb]]
    have cb := con_barX a b
    have h2 := con_sortBars (v.2.1.1 + 1) (snoc v.2.1.1 v.2.1.2 (brX a b)) (by omega)
    generalize brX a b = x at cb h2 ⊢
    generalize srtB (v.2.1.1 + 1) (snoc v.2.1.1 v.2.1.2 x) = r at h2 ⊢
    refine piece_ok mixed hc (bIa v a b (isGraphF v) (inB a 0 (v.1 - 1)) (inB b 0 (v.1 - 1)) x) ?_ (path_ok mixed Try.func63 hc (bIb v.1 (v.2.1.1 + 1) (snoc v.2.1.1 v.2.1.2 x) r) ?_)
    ·
      simp only [All]
      repeat' (first | exact trivial | with_reducible apply And.intro)
      all_goals (first | omega | rfl | (intros; first | assumption | exact True.intro | rfl | exact absurd (show false = true by assumption) Bool.false_ne_true | ((repeat' (first | assumption | apply anda | apply notf)); done)) | (exact cc) | (exact c1) | (exact c2a) | (exact c2b) | (exact hcd') | (exact cb) | (intro j hj; by_cases h' : j < v.2.1.1 <;> simp [h', snoc, cvtL, cvt, tg, tru, All]; done) | (intro j hj; simp [All]; done) | (simp; try omega))
    ·
      simp only [All]
      repeat' (first | exact trivial | with_reducible apply And.intro)
      all_goals (first | omega | rfl | (intros; first | assumption | exact True.intro | rfl | exact absurd (show false = true by assumption) Bool.false_ne_true | ((repeat' (first | assumption | apply anda | apply notf)); done)) | (exact h2) | (intro j hj; simp [All]; done) | (simp; try omega))
theorem con_AddBar_s (v : T_Graph) (hs : smS s_Graph v) (a b : Int) :
    Con Try.prog 60 0 [] [graphA v, .p (.int .i64 a), .p (.int .i64 b)] [(0, brOb (abG v a b).2.1.1 (abG v a b).2.1.2)] (.tup [.agg [.p (.int .i64 (abG v a b).1), .ar 2 0 0 (abG v a b).2.1.1], .p (.bool (abB v a b))]) := by
  have hn : v.2.1.1 ≤ 1048576 := hs.2.1.1
  have cc := con_l2Copy v hn
  have c1 := con_IsGraph_s v hs
  have hcd : (bif bif bif bif bif bif !isGraphF v then true else decide (a < 0) then true else decide (b < 0) then true else decide (a ≥ v.1) then true else decide (b ≥ v.1) then true else a == b then true else decide ((v.2.1.1 : Int) ≥ 24)) = !abB v a b := by
    unfold abB inB
    cases hg : isGraphF v with
    | false => rfl
    | true =>
      have := graph_inR hg
      have e1 : decide (a ≥ v.1) = !decide (a ≤ v.1 - 1) := by
        by_cases h : a ≥ v.1
        · have : ¬ a ≤ v.1 - 1 := by omega
          simp [h, this]
        · have : a ≤ v.1 - 1 := by omega
          simp [h, this]
      have e2 : decide (b ≥ v.1) = !decide (b ≤ v.1 - 1) := by
        by_cases h : b ≥ v.1
        · have : ¬ b ≤ v.1 - 1 := by omega
          simp [h, this]
        · have : b ≤ v.1 - 1 := by omega
          simp [h, this]
      have e3 : decide (a < 0) = !decide (0 ≤ a) := by
        by_cases h : a < 0
        · have : ¬ 0 ≤ a := by omega
          simp [h, this]
        · have : 0 ≤ a := by omega
          simp [h, this]
      have e4 : decide (b < 0) = !decide (0 ≤ b) := by
        by_cases h : b < 0
        · have : ¬ 0 ≤ b := by omega
          simp [h, this]
        · have : 0 ≤ b := by omega
          simp [h, this]
      have e5 : decide ((v.2.1.1 : Int) ≥ 24) = ((v.2.1.1 : Int) == 24) := by
        by_cases h : v.2.1.1 = 24
        · rw [h]; rfl
        · have h1 : ¬ (v.2.1.1 : Int) ≥ 24 := by omega
          have h2 : ¬ (v.2.1.1 : Int) = 24 := by omega
          simp only [h1, decide_false]
          exact (beq_eq_false_iff_ne.2 h2).symm
      rw [e1, e2, e3, e4, e5]
      cases decide (0 ≤ a) <;> cases decide (0 ≤ b) <;> cases decide (a ≤ v.1 - 1) <;> cases decide (b ≤ v.1 - 1) <;> cases (a == b) <;> cases ((v.2.1.1 : Int) == 24) <;> rfl
  refine con_start Try.func60 rfl (by kernel_rfl) rfl (fun c hc => ?_)
  cases hb : abB v a b with
  | false =>
    rw [hb] at hcd
    have hcd' : (bif bif bif bif bif bif !isGraphF v then true else decide (a < 0) then true else decide (b < 0) then true else decide (a ≥ v.1) then true else decide (b ≥ v.1) then true else a == b then true else decide ((v.2.1.1 : Int) ≥ 24)) = true := hcd
    rw [show abG v a b = v by simp [abG, hb]]
    refine path_ok mixed Try.func60 hc (bSf v a b (isGraphF v)) ?_
    simp only [All]
    repeat' (first | exact trivial | with_reducible apply And.intro)
    all_goals (first | omega | rfl | (intros; first | assumption | exact True.intro | rfl | exact absurd (show false = true by assumption) Bool.false_ne_true | ((repeat' (first | assumption | apply anda | apply notf)); done)) | (exact cc) | (exact c1) | (exact hcd') | (intro j hj; simp [All]))
  | true =>
    rw [hb] at hcd
    have hcd' : (bif bif bif bif bif bif !isGraphF v then true else decide (a < 0) then true else decide (b < 0) then true else decide (a ≥ v.1) then true else decide (b ≥ v.1) then true else a == b then true else decide ((v.2.1.1 : Int) ≥ 24)) = false := hcd
    have hin := abB_in hb
    have hgr := graph_inR hin.1
    rw [show abG v a b = (v.1, (v.2.1.1 + 1, srtB (v.2.1.1 + 1) (snoc v.2.1.1 v.2.1.2 (brX a b))), ()) by simp [abG, hb]]
    have cp := con_l2Put v.2.1.2 v.2.1.1 v.1.toNat (brX a b) hn
    have hN : ((v.1.toNat : Nat) : Int) = v.1 := by omega
    rw [grG, hN] at cp
    have hl := insR_list v.2.1.2 v.2.1.1 (brX a b) (goodB_sorted hgr.2.2.2)
    have hn' := insR_n v.2.1.2 v.2.1.1 (brX a b)
    rw [hn'] at cp hl
    rw [← lstB_snoc, ← lstB_srt] at hl
    have hrow := lstB_inj hl
    generalize srtB (v.2.1.1 + 1) (snoc v.2.1.1 v.2.1.2 (brX a b)) = r at hrow ⊢
    generalize (insR v.2.1.2 v.2.1.1 (brX a b)).2 = r0 at cp hrow
    refine path_ok mixed Try.func60 hc (bSt v a b (isGraphF v) (v.2.1.1 + 1) r0 r) ?_
    simp only [All]
    repeat' (first | exact trivial | with_reducible apply And.intro)
    all_goals (first | omega | rfl | (intros; first | assumption | exact True.intro | rfl | exact absurd (show false = true by assumption) Bool.false_ne_true | ((repeat' (first | assumption | apply anda | apply notf)); done)) | (exact c1) | (exact cp) | (exact hcd') | (intro j hj; simp [All]; done) | (intro j hj; rw [hrow j hj]; simp [cvtL, cvt, tg, tru, All]))
end Go.Proofs.Ytgdbnnmogddkaaa.Mach
namespace Go.Proofs.Ytgdbnnmogddkaaa.Mach
open Go
set_option linter.unusedVariables false
set_option linter.unusedSimpArgs false
def dblB (g : Nat → T_Bar) : Nat → Bool
  | 0 => false
  | k + 1 => dblB g k || (decide (1 ≤ k) && q1_BarS (g ((k : Int) - 1).toNat) (g k))
def simpleF (v : T_Graph) : Bool := !dblB v.2.1.2 v.2.1.1 && isGraphF v
def S86 (v : T_Graph) (k : Nat) : St :=
  ⟨[graphA v, .pt 2 0 0 0, .p .any, .p (.int .i64 k)] ++ List.replicate 21 anyA, [(0, boxG v)], 1⟩
def S88 (v : T_Graph) (k : Nat) : St :=
  ⟨[graphA v, .pt 2 0 0 0, .p .any, .p (.int .i64 k)] ++ List.replicate 19 anyA, [(0, boxG v)], 1⟩
theorem p86a (v : T_Graph) :
    pieceOb Try.prog 0 [.reg [oT, oT], .reg [oT], .head] [.code (bodyOf Try.f94)] (start Try.f94 [] 0 [graphA v]) [0] 1 (S86 v 1) =
    some ([.code (cAt (bodyOf Try.f94) [1, 0, 1, 0, 0]), .inLoop (cAt (bodyOf Try.f94) [1, 0, 1, 0, 0]), .inBlock 0, .code (cAt (bodyOf Try.f94) [1, 1])], [((v.1 : Int) = v.1),
  ((v.2.1.1 : Nat) = v.2.1.1),
  (∀ i : Nat, (((i : Nat) < v.2.1.1) → (([.int .i64 ((v.2.1.2 i).1), .int .i64 ((v.2.1.2 i).2.1)] : List PV) = [.int .i64 ((v.2.1.2 i).1), .int .i64 ((v.2.1.2 i).2.1)]))),
  ((0 : Nat) = 0),
  ((1 : Int) = (↑1 : Int)),
  ((([AV.p (PV.int IntKind.i64 v.1), graphL v.2.1].length) : Nat) = 2),
  ((1 : Nat) ≤ 1),
  ((1 : Nat) ≤ 1),
  ((v.1 : Int) = v.1),
  ((v.2.1.1 : Nat) = v.2.1.1),
  (∀ i : Nat, (((i : Nat) < v.2.1.1) → (([.int .i64 ((v.2.1.2 i).1), .int .i64 ((v.2.1.2 i).2.1)] : List PV) = [.int .i64 ((v.2.1.2 i).1), .int .i64 ((v.2.1.2 i).2.1)])))]) := by kernel_rfl
theorem p86b (v : T_Graph) (k : Nat) :
    pieceOb Try.prog 0 [.reg [oT, oT, oT, oT, oT], .dec true, .reg [oT, oT, oT, oT, oT, oT, oT, oT, oT, oT, oT, oT], .dec false, .reg [oT, oT, oT], .head] [.code (cAt (bodyOf Try.f94) [1, 0, 1, 0, 0]), .inLoop (cAt (bodyOf Try.f94) [1, 0, 1, 0, 0]), .inBlock 0, .code (cAt (bodyOf Try.f94) [1, 1])] (S86 v k) [0] 1 (S86 v (k + 1)) =
    some ([.code (cAt (bodyOf Try.f94) [1, 0, 1, 0, 0]), .inLoop (cAt (bodyOf Try.f94) [1, 0, 1, 0, 0]), .inBlock 0, .code (cAt (bodyOf Try.f94) [1, 1])], [((0 : Nat) < 1),
  ((decide ((↑k : Int) < (↑v.2.1.1 : Int))) = true),
  ((0 : Nat) < 1),
  (((-9223372036854775808) : Int) ≤ ((↑k : Int) - 1)),
  ((((↑k : Int) - 1) : Int) ≤ 9223372036854775807),
  ((0 : Int) ≤ ((↑k : Int) - 1)),
  ((((↑k : Int) - 1) : Int) < (↑v.2.1.1 : Int)),
  ((0 : Nat) < 1),
  ((0 : Int) ≤ (↑k : Int)),
  (((↑k : Int) : Int) < (↑v.2.1.1 : Int)),
  (((v.2.1.2 ((↑k : Int) - 1).toNat).1 == (v.2.1.2 k).1 && ((v.2.1.2 ((↑k : Int) - 1).toNat).2.1 == (v.2.1.2 k).2.1 && true)) = false),
  (((-9223372036854775808) : Int) ≤ ((↑k : Int) + 1)),
  ((((↑k : Int) + 1) : Int) ≤ 9223372036854775807),
  ((v.1 : Int) = v.1),
  ((v.2.1.1 : Nat) = v.2.1.1),
  (∀ i : Nat, (((i : Nat) < v.2.1.1) → (([.int .i64 ((v.2.1.2 i).1), .int .i64 ((v.2.1.2 i).2.1)] : List PV) = [.int .i64 ((v.2.1.2 i).1), .int .i64 ((v.2.1.2 i).2.1)]))),
  ((0 : Nat) = 0),
  ((((↑k : Int) + 1) : Int) = (↑(k + 1) : Int)),
  ((2 : Nat) = 2),
  ((1 : Nat) ≤ 1),
  ((1 : Nat) ≤ 1),
  ((v.1 : Int) = v.1),
  ((v.2.1.1 : Nat) = v.2.1.1),
  (∀ i : Nat, (((i : Nat) < v.2.1.1) → (([.int .i64 ((v.2.1.2 i).1), .int .i64 ((v.2.1.2 i).2.1)] : List PV) = [.int .i64 ((v.2.1.2 i).1), .int .i64 ((v.2.1.2 i).2.1)])))]) := by kernel_rfl
theorem p86c (v : T_Graph) (k : Nat) :
    pathOb Try.prog Try.f94 0 [.reg [oT, oT, oT, oT, oT], .dec true, .reg [oT, oT, oT, oT, oT, oT, oT, oT, oT, oT, oT, oT], .dec true, .reg [oT]] [.code (cAt (bodyOf Try.f94) [1, 0, 1, 0, 0]), .inLoop (cAt (bodyOf Try.f94) [1, 0, 1, 0, 0]), .inBlock 0, .code (cAt (bodyOf Try.f94) [1, 1])] (S86 v k) [] 1 [] (.p (.bool false)) =
    some [((0 : Nat) < 1),
  ((decide ((↑k : Int) < (↑v.2.1.1 : Int))) = true),
  ((0 : Nat) < 1),
  (((-9223372036854775808) : Int) ≤ ((↑k : Int) - 1)),
  ((((↑k : Int) - 1) : Int) ≤ 9223372036854775807),
  ((0 : Int) ≤ ((↑k : Int) - 1)),
  ((((↑k : Int) - 1) : Int) < (↑v.2.1.1 : Int)),
  ((0 : Nat) < 1),
  ((0 : Int) ≤ (↑k : Int)),
  (((↑k : Int) : Int) < (↑v.2.1.1 : Int)),
  (((v.2.1.2 ((↑k : Int) - 1).toNat).1 == (v.2.1.2 k).1 && ((v.2.1.2 ((↑k : Int) - 1).toNat).2.1 == (v.2.1.2 k).2.1 && true)) = true),
  (false = false)] := by kernel_rfl
theorem p86d (v : T_Graph) (k : Nat) :
    pathOb Try.prog Try.f94 0 [.reg [oT, oT, oT, oT, oT], .dec false, .reg [oT, ⟨true, (some ⟨[], [], 1, [], .p (.bool (isGraphF v))⟩), none⟩, oT]] [.code (cAt (bodyOf Try.f94) [1, 0, 1, 0, 0]), .inLoop (cAt (bodyOf Try.f94) [1, 0, 1, 0, 0]), .inBlock 0, .code (cAt (bodyOf Try.f94) [1, 1])] (S86 v k) [] 1 [] (.p (.bool (isGraphF v))) =
    some [((0 : Nat) < 1),
  ((decide ((↑k : Int) < (↑v.2.1.1 : Int))) = false),
  ((0 : Nat) < 1),
  Con Try.prog 73 0 [] [.agg [.p (.int .i64 v.1), .p (.seq true 2 v.2.1.1 (fun i => [.int .i64 ((v.2.1.2 i).1), .int .i64 ((v.2.1.2 i).2.1)]))]] [] (.p (.bool (isGraphF v))),
  ((isGraphF v) = (isGraphF v))] := by kernel_rfl
theorem p88a (v : T_Graph) :
    pieceOb Try.prog 0 [.reg [oT, oT], .reg [oT], .head] [.code (bodyOf Try.f100)] (start Try.f100 [] 0 [graphA v]) [0] 1 (S88 v 1) =
    some ([.code (cAt (bodyOf Try.f100) [1, 0, 1, 0, 0]), .inLoop (cAt (bodyOf Try.f100) [1, 0, 1, 0, 0]), .inBlock 0, .code (cAt (bodyOf Try.f100) [1, 1])], [((v.1 : Int) = v.1),
  ((v.2.1.1 : Nat) = v.2.1.1),
  (∀ i : Nat, (((i : Nat) < v.2.1.1) → (([.int .i64 ((v.2.1.2 i).1), .int .i64 ((v.2.1.2 i).2.1)] : List PV) = [.int .i64 ((v.2.1.2 i).1), .int .i64 ((v.2.1.2 i).2.1)]))),
  ((0 : Nat) = 0),
  ((1 : Int) = (↑1 : Int)),
  ((([AV.p (PV.int IntKind.i64 v.1), graphL v.2.1].length) : Nat) = 2),
  ((1 : Nat) ≤ 1),
  ((1 : Nat) ≤ 1),
  ((v.1 : Int) = v.1),
  ((v.2.1.1 : Nat) = v.2.1.1),
  (∀ i : Nat, (((i : Nat) < v.2.1.1) → (([.int .i64 ((v.2.1.2 i).1), .int .i64 ((v.2.1.2 i).2.1)] : List PV) = [.int .i64 ((v.2.1.2 i).1), .int .i64 ((v.2.1.2 i).2.1)])))]) := by kernel_rfl
theorem p88b (v : T_Graph) (k : Nat) :
    pieceOb Try.prog 0 [.reg [oT, oT, oT, oT, oT], .dec true, .reg [oT, oT, oT, oT, oT, oT, oT, oT, oT, oT, oT, oT], .dec false, .reg [oT, oT, oT], .head] [.code (cAt (bodyOf Try.f100) [1, 0, 1, 0, 0]), .inLoop (cAt (bodyOf Try.f100) [1, 0, 1, 0, 0]), .inBlock 0, .code (cAt (bodyOf Try.f100) [1, 1])] (S88 v k) [0] 1 (S88 v (k + 1)) =
    some ([.code (cAt (bodyOf Try.f100) [1, 0, 1, 0, 0]), .inLoop (cAt (bodyOf Try.f100) [1, 0, 1, 0, 0]), .inBlock 0, .code (cAt (bodyOf Try.f100) [1, 1])], [((0 : Nat) < 1),
  ((decide ((↑k : Int) < (↑v.2.1.1 : Int))) = true),
  ((0 : Nat) < 1),
  (((-9223372036854775808) : Int) ≤ ((↑k : Int) - 1)),
  ((((↑k : Int) - 1) : Int) ≤ 9223372036854775807),
  ((0 : Int) ≤ ((↑k : Int) - 1)),
  ((((↑k : Int) - 1) : Int) < (↑v.2.1.1 : Int)),
  ((0 : Nat) < 1),
  ((0 : Int) ≤ (↑k : Int)),
  (((↑k : Int) : Int) < (↑v.2.1.1 : Int)),
  (((v.2.1.2 ((↑k : Int) - 1).toNat).1 == (v.2.1.2 k).1 && ((v.2.1.2 ((↑k : Int) - 1).toNat).2.1 == (v.2.1.2 k).2.1 && true)) = false),
  (((-9223372036854775808) : Int) ≤ ((↑k : Int) + 1)),
  ((((↑k : Int) + 1) : Int) ≤ 9223372036854775807),
  ((v.1 : Int) = v.1),
  ((v.2.1.1 : Nat) = v.2.1.1),
  (∀ i : Nat, (((i : Nat) < v.2.1.1) → (([.int .i64 ((v.2.1.2 i).1), .int .i64 ((v.2.1.2 i).2.1)] : List PV) = [.int .i64 ((v.2.1.2 i).1), .int .i64 ((v.2.1.2 i).2.1)]))),
  ((0 : Nat) = 0),
  ((((↑k : Int) + 1) : Int) = (↑(k + 1) : Int)),
  ((2 : Nat) = 2),
  ((1 : Nat) ≤ 1),
  ((1 : Nat) ≤ 1),
  ((v.1 : Int) = v.1),
  ((v.2.1.1 : Nat) = v.2.1.1),
  (∀ i : Nat, (((i : Nat) < v.2.1.1) → (([.int .i64 ((v.2.1.2 i).1), .int .i64 ((v.2.1.2 i).2.1)] : List PV) = [.int .i64 ((v.2.1.2 i).1), .int .i64 ((v.2.1.2 i).2.1)])))]) := by kernel_rfl
theorem p88c (v : T_Graph) (k : Nat) :
    pathOb Try.prog Try.f100 0 [.reg [oT, oT, oT, oT, oT], .dec true, .reg [oT, oT, oT, oT, oT, oT, oT, oT, oT, oT, oT, oT], .dec true, .reg [oT]] [.code (cAt (bodyOf Try.f100) [1, 0, 1, 0, 0]), .inLoop (cAt (bodyOf Try.f100) [1, 0, 1, 0, 0]), .inBlock 0, .code (cAt (bodyOf Try.f100) [1, 1])] (S88 v k) [] 1 [] (.p (.bool true)) =
    some [((0 : Nat) < 1),
  ((decide ((↑k : Int) < (↑v.2.1.1 : Int))) = true),
  ((0 : Nat) < 1),
  (((-9223372036854775808) : Int) ≤ ((↑k : Int) - 1)),
  ((((↑k : Int) - 1) : Int) ≤ 9223372036854775807),
  ((0 : Int) ≤ ((↑k : Int) - 1)),
  ((((↑k : Int) - 1) : Int) < (↑v.2.1.1 : Int)),
  ((0 : Nat) < 1),
  ((0 : Int) ≤ (↑k : Int)),
  (((↑k : Int) : Int) < (↑v.2.1.1 : Int)),
  (((v.2.1.2 ((↑k : Int) - 1).toNat).1 == (v.2.1.2 k).1 && ((v.2.1.2 ((↑k : Int) - 1).toNat).2.1 == (v.2.1.2 k).2.1 && true)) = true),
  (true = true)] := by kernel_rfl
theorem p88d (v : T_Graph) (k : Nat) :
    pathOb Try.prog Try.f100 0 [.reg [oT, oT, oT, oT, oT], .dec false, .reg [oT]] [.code (cAt (bodyOf Try.f100) [1, 0, 1, 0, 0]), .inLoop (cAt (bodyOf Try.f100) [1, 0, 1, 0, 0]), .inBlock 0, .code (cAt (bodyOf Try.f100) [1, 1])] (S88 v k) [] 1 [] (.p (.bool false)) =
    some [((0 : Nat) < 1),
  ((decide ((↑k : Int) < (↑v.2.1.1 : Int))) = false),
  (false = false)] := by kernel_rfl
theorem p89 (v : T_Graph) (p : Int) :
    pathOb Try.prog Try.f101 0 [.reg [oT, oT], .reg [oT, oT, oT, oT, ⟨true, (some ⟨[], [], 1, [], .p (.bool (inB p 0 (v.1 - 1)))⟩), none⟩, oT]] [.code (bodyOf Try.f101)] (start Try.f101 [] 0 [graphA v, .p (.int .i64 p)]) [] 1 [] (.p (.bool (inB p 0 (v.1 - 1)))) =
    some [((0 : Nat) < 1),
  (((-9223372036854775808) : Int) ≤ (v.1 - 1)),
  (((v.1 - 1) : Int) ≤ 9223372036854775807),
  Con Try.prog 115 0 [] [.p (.int .i64 p), .p (.int .i64 0), .p (.int .i64 (v.1 - 1))] [] (.p (.bool (inB p 0 (v.1 - 1)))),
  ((inB p 0 (v.1 - 1)) = (inB p 0 (v.1 - 1)))] := by kernel_rfl
theorem dblB_hit (g : Nat → T_Bar) (k : Nat) (h1 : 1 ≤ k) (h : q1_BarS (g ((k : Int) - 1).toNat) (g k) = true) : ∀ n, k < n → dblB g n = true
  | 0, h' => by omega
  | n + 1, h' => by
    by_cases e : k = n
    · subst e; rw [dblB, h, decide_eq_true h1]; simp
    · simp [dblB, dblB_hit g k h1 h n (by omega)]
theorem con_l17Simple (v : T_Graph) (hs : smS s_Graph v) : Con Try.prog 94 0 [] [graphA v] [] (.p (.bool (simpleF v))) := by
  refine con_start Try.func94 rfl (by kernel_rfl) rfl (fun c hc => ?_)
  have hn : v.2.1.1 ≤ 1048576 := hs.2.1.1
  have lp : ∀ m k, 1 ≤ k → v.2.1.1 ≤ k + m → k ≤ 1048577 → dblB v.2.1.2 (min k v.2.1.1) = false → Run Try.prog c 94 [.code (cAt (bodyOf Try.f94) [1, 0, 1, 0, 0]), .inLoop (cAt (bodyOf Try.f94) [1, 0, 1, 0, 0]), .inBlock 0, .code (cAt (bodyOf Try.f94) [1, 1])] (S86 v k) (Post c [] (.p (.bool (simpleF v)))) := by
    intro m
    induction m with
    | zero =>
      intro k h1 hk hk2 hg
      have hd : decide ((k : Int) < (v.2.1.1 : Int)) = false := by simp; omega
      rw [show min k v.2.1.1 = v.2.1.1 by omega] at hg
      rw [show simpleF v = isGraphF v by simp [simpleF, hg]]
      refine path_ok mixed Try.func94 hc (p86d v k) ?_
      simp only [All]
      repeat' (first | exact trivial | with_reducible apply And.intro)
      all_goals (first | omega | rfl | (intros; first | assumption | exact True.intro | rfl | exact absurd (show false = true by assumption) Bool.false_ne_true | ((repeat' (first | assumption | apply anda | apply notf)); done)) | (exact con_IsGraph_s v hs))
    | succ m ih =>
      intro k h1 hk hk2 hg
      by_cases hkn : k < v.2.1.1
      · have hd : decide ((k : Int) < (v.2.1.1 : Int)) = true := by simp; omega
        rw [show min k v.2.1.1 = k by omega] at hg
        cases he : q1_BarS (v.2.1.2 ((k : Int) - 1).toNat) (v.2.1.2 k) with
        | true =>
          rw [show simpleF v = false by simp [simpleF, dblB_hit v.2.1.2 k h1 he v.2.1.1 hkn]]
          refine path_ok mixed Try.func94 hc (p86c v k) ?_
          simp only [All]
          repeat' (first | exact trivial | with_reducible apply And.intro)
          all_goals (first | omega | rfl | (intros; first | assumption | exact True.intro | rfl | exact absurd (show false = true by assumption) Bool.false_ne_true | ((repeat' (first | assumption | apply anda | apply notf)); done)) | (exact he))
        | false =>
          refine piece_ok mixed hc (p86b v k) ?_ (ih (k + 1) (by omega) (by omega) (by omega) (by rw [show min (k + 1) v.2.1.1 = k + 1 by omega]; rw [dblB, hg, he]; simp))
          simp only [All]
          repeat' (first | exact trivial | with_reducible apply And.intro)
          all_goals (first | omega | rfl | (intros; first | assumption | exact True.intro | rfl | exact absurd (show false = true by assumption) Bool.false_ne_true | ((repeat' (first | assumption | apply anda | apply notf)); done)) | (exact he) | (simp [All]))
      · have hd : decide ((k : Int) < (v.2.1.1 : Int)) = false := by simp; omega
        rw [show min k v.2.1.1 = v.2.1.1 by omega] at hg
        rw [show simpleF v = isGraphF v by simp [simpleF, hg]]
        refine path_ok mixed Try.func94 hc (p86d v k) ?_
        simp only [All]
        repeat' (first | exact trivial | with_reducible apply And.intro)
        all_goals (first | omega | rfl | (intros; first | assumption | exact True.intro | rfl | exact absurd (show false = true by assumption) Bool.false_ne_true | ((repeat' (first | assumption | apply anda | apply notf)); done)) | (exact con_IsGraph_s v hs))
  have h0 : dblB v.2.1.2 (min 1 v.2.1.1) = false := by
    by_cases h : v.2.1.1 = 0
    · rw [h]; rfl
    · rw [show min 1 v.2.1.1 = 1 by omega]; simp [dblB]
  refine piece_ok mixed hc (p86a v) ?_ (lp v.2.1.1 1 (by omega) (by omega) (by omega) h0)
  simp only [All]
  repeat' (first | exact trivial | with_reducible apply And.intro)
  all_goals (first | omega | rfl | (intros; first | assumption | exact True.intro | rfl | exact absurd (show false = true by assumption) Bool.false_ne_true | ((repeat' (first | assumption | apply anda | apply notf)); done)) | (simp [All]))
theorem con_hasDoubles (v : T_Graph) (hs : smS s_Graph v) : Con Try.prog 100 0 [] [graphA v] [] (.p (.bool (dblB v.2.1.2 v.2.1.1))) := by
  refine con_start Try.func100 rfl (by kernel_rfl) rfl (fun c hc => ?_)
  have hn : v.2.1.1 ≤ 1048576 := hs.2.1.1
  have lp : ∀ m k, 1 ≤ k → v.2.1.1 ≤ k + m → k ≤ 1048577 → dblB v.2.1.2 (min k v.2.1.1) = false → Run Try.prog c 100 [.code (cAt (bodyOf Try.f100) [1, 0, 1, 0, 0]), .inLoop (cAt (bodyOf Try.f100) [1, 0, 1, 0, 0]), .inBlock 0, .code (cAt (bodyOf Try.f100) [1, 1])] (S88 v k) (Post c [] (.p (.bool (dblB v.2.1.2 v.2.1.1)))) := by
    intro m
    induction m with
    | zero =>
      intro k h1 hk hk2 hg
      have hd : decide ((k : Int) < (v.2.1.1 : Int)) = false := by simp; omega
      rw [show min k v.2.1.1 = v.2.1.1 by omega] at hg
      rw [hg]
      refine path_ok mixed Try.func100 hc (p88d v k) ?_
      simp only [All]
      repeat' (first | exact trivial | with_reducible apply And.intro)
      all_goals (first | omega | rfl | (intros; first | assumption | exact True.intro | rfl | exact absurd (show false = true by assumption) Bool.false_ne_true | ((repeat' (first | assumption | apply anda | apply notf)); done)))
    | succ m ih =>
      intro k h1 hk hk2 hg
      by_cases hkn : k < v.2.1.1
      · have hd : decide ((k : Int) < (v.2.1.1 : Int)) = true := by simp; omega
        rw [show min k v.2.1.1 = k by omega] at hg
        cases he : q1_BarS (v.2.1.2 ((k : Int) - 1).toNat) (v.2.1.2 k) with
        | true =>
          rw [dblB_hit v.2.1.2 k h1 he v.2.1.1 hkn]
          refine path_ok mixed Try.func100 hc (p88c v k) ?_
          simp only [All]
          repeat' (first | exact trivial | with_reducible apply And.intro)
          all_goals (first | omega | rfl | (intros; first | assumption | exact True.intro | rfl | exact absurd (show false = true by assumption) Bool.false_ne_true | ((repeat' (first | assumption | apply anda | apply notf)); done)) | (exact he))
        | false =>
          refine piece_ok mixed hc (p88b v k) ?_ (ih (k + 1) (by omega) (by omega) (by omega) (by rw [show min (k + 1) v.2.1.1 = k + 1 by omega]; rw [dblB, hg, he]; simp))
          simp only [All]
          repeat' (first | exact trivial | with_reducible apply And.intro)
          all_goals (first | omega | rfl | (intros; first | assumption | exact True.intro | rfl | exact absurd (show false = true by assumption) Bool.false_ne_true | ((repeat' (first | assumption | apply anda | apply notf)); done)) | (exact he) | (simp [All]))
      · have hd : decide ((k : Int) < (v.2.1.1 : Int)) = false := by simp; omega
        rw [show min k v.2.1.1 = v.2.1.1 by omega] at hg
        rw [hg]
        refine path_ok mixed Try.func100 hc (p88d v k) ?_
        simp only [All]
        repeat' (first | exact trivial | with_reducible apply And.intro)
        all_goals (first | omega | rfl | (intros; first | assumption | exact True.intro | rfl | exact absurd (show false = true by assumption) Bool.false_ne_true | ((repeat' (first | assumption | apply anda | apply notf)); done)))
  have h0 : dblB v.2.1.2 (min 1 v.2.1.1) = false := by
    by_cases h : v.2.1.1 = 0
    · rw [h]; rfl
    · rw [show min 1 v.2.1.1 = 1 by omega]; simp [dblB]
  refine piece_ok mixed hc (p88a v) ?_ (lp v.2.1.1 1 (by omega) (by omega) (by omega) h0)
  simp only [All]
  repeat' (first | exact trivial | with_reducible apply And.intro)
  all_goals (first | omega | rfl | (intros; first | assumption | exact True.intro | rfl | exact absurd (show false = true by assumption) Bool.false_ne_true | ((repeat' (first | assumption | apply anda | apply notf)); done)) | (simp [All]))
theorem con_Graphhas (v : T_Graph) (p : Int) (h1 : 1 ≤ v.1) (h2 : v.1 ≤ 8) : Con Try.prog 101 0 [] [graphA v, .p (.int .i64 p)] [] (.p (.bool (inB p 0 (v.1 - 1)))) := by
  refine con_start Try.func101 rfl (by kernel_rfl) rfl (fun c hc => ?_)
  refine path_ok mixed Try.func101 hc (p89 v p) ?_
  simp only [All]
  repeat' (first | exact trivial | with_reducible apply And.intro)
  all_goals (first | omega | rfl | (intros; first | assumption | exact True.intro | rfl | exact absurd (show false = true by assumption) Bool.false_ne_true | ((repeat' (first | assumption | apply anda | apply notf)); done)) | (exact con_within _ _ _))
end Go.Proofs.Ytgdbnnmogddkaaa.Mach
namespace Go.Proofs.Ytgdbnnmogddkaaa.Mach
open Go
set_option linter.unusedVariables false
set_option linter.unusedSimpArgs false
def badP (N : Int) (g : Nat → Int) (k : Nat) : Bool :=
  bif bif decide (g k < 0) then true else decide (g k ≥ N) then true else bif decide ((k : Int) > 0) then decide (g ((k : Int) - 1).toNat ≥ g k) else false
def goodP (N : Int) (g : Nat → Int) : Nat → Bool
  | 0 => true
  | k + 1 => goodP N g k && !badP N g k
def bothP (p : T_IntS) (b : T_Bar) : Bool := bif hasI p.2 b.1 p.1 then hasI p.2 b.2.1 p.1 else false
def freeP (p : T_IntS) (g : Nat → T_Bar) : Nat → Bool
  | 0 => true
  | k + 1 => freeP p g k && !bothP p (g k)
def tailP (v : T_Pinned) : Bool :=
  bif bif bif simpleF v.1 then decide ((v.2.1.1 : Int) ≥ 2) else false then decide ((v.1.2.1.1 : Int) ≤ 15) else false then decide ((v.1.2.1.1 : Int) + 2 * (v.2.1.1 : Int) - 3 ≤ 24) else false
def pinnedF (v : T_Pinned) : Bool := goodP v.1.1 v.2.1.2 v.2.1.1 && (freeP v.2.1 v.1.2.1.2 v.1.2.1.1 && tailP v)
def pinA (v : T_Pinned) : AV := .agg [.p (.int .i64 v.1.1), graphL v.1.2.1, inL v.2.1]
def boxP (v : T_Pinned) : Ob := ⟨true, 3, 1, fun i => [.p (.int .i64 v.1.1), graphL v.1.2.1, inL v.2.1]⟩
def S56a (v : T_Pinned) (k : Nat) : St :=
  ⟨[pinA v, .pt 3 0 0 0, .p .any, .p (.int .i64 k)] ++ List.replicate 102 anyA, [(0, boxP v)], 1⟩
def S56b (v : T_Pinned) (k : Nat) : St :=
  ⟨[pinA v, .pt 3 0 0 0, .p .any, .p .any, .p (.int .i64 k)] ++ List.replicate 101 anyA, [(0, boxP v)], 1⟩
theorem p56a (v : T_Pinned) :
    pieceOb Try.prog 0 [.reg [oT, oT], .reg [oT], .head] [.code (bodyOf Try.f46)] (start Try.f46 [] 0 [pinA v]) [0] 1 (S56a v 0) =
    some ([.code (cAt (bodyOf Try.f46) [1, 0, 1, 0, 0]), .inLoop (cAt (bodyOf Try.f46) [1, 0, 1, 0, 0]), .inBlock 0, .code (cAt (bodyOf Try.f46) [1, 1])], [((v.1.1 : Int) = v.1.1),
  ((v.1.2.1.1 : Nat) = v.1.2.1.1),
  (∀ i : Nat, (((i : Nat) < v.1.2.1.1) → (([.int .i64 ((v.1.2.1.2 i).1), .int .i64 ((v.1.2.1.2 i).2.1)] : List PV) = [.int .i64 ((v.1.2.1.2 i).1), .int .i64 ((v.1.2.1.2 i).2.1)]))),
  ((v.2.1.1 : Nat) = v.2.1.1),
  (∀ i : Nat, (((i : Nat) < v.2.1.1) → (([.int .i64 (v.2.1.2 i)] : List PV) = [.int .i64 (v.2.1.2 i)]))),
  ((0 : Nat) = 0),
  ((0 : Int) = (↑0 : Int)),
  ((([AV.p (PV.int IntKind.i64 v.1.1), graphL v.1.2.1, inL v.2.1].length) : Nat) = 3),
  ((1 : Nat) ≤ 1),
  ((1 : Nat) ≤ 1),
  ((v.1.1 : Int) = v.1.1),
  ((v.1.2.1.1 : Nat) = v.1.2.1.1),
  (∀ i : Nat, (((i : Nat) < v.1.2.1.1) → (([.int .i64 ((v.1.2.1.2 i).1), .int .i64 ((v.1.2.1.2 i).2.1)] : List PV) = [.int .i64 ((v.1.2.1.2 i).1), .int .i64 ((v.1.2.1.2 i).2.1)]))),
  ((v.2.1.1 : Nat) = v.2.1.1),
  (∀ i : Nat, (((i : Nat) < v.2.1.1) → (([.int .i64 (v.2.1.2 i)] : List PV) = [.int .i64 (v.2.1.2 i)])))]) := by kernel_rfl
theorem p56b (v : T_Pinned) (k : Nat) :
    pieceOb Try.prog 0 [.reg [oT, oT, oT, oT, oT], .dec true, .reg [oT, oT, oT, oT, oT, oT, oT, oT, oT, oT, oT, oT, oT, oT, oT, oT, oT, oT, oT, oT, oT, oT, oT, oT, oT, oT, oT, oT, oT, oT, oT, oT, oT, oT, oT], .dec false, .reg [oT, oT, oT], .head] [.code (cAt (bodyOf Try.f46) [1, 0, 1, 0, 0]), .inLoop (cAt (bodyOf Try.f46) [1, 0, 1, 0, 0]), .inBlock 0, .code (cAt (bodyOf Try.f46) [1, 1])] (S56a v k) [0] 1 (S56a v (k + 1)) =
    some ([.code (cAt (bodyOf Try.f46) [1, 0, 1, 0, 0]), .inLoop (cAt (bodyOf Try.f46) [1, 0, 1, 0, 0]), .inBlock 0, .code (cAt (bodyOf Try.f46) [1, 1])], [((0 : Nat) < 1),
  ((decide ((↑k : Int) < (↑v.2.1.1 : Int))) = true),
  ((0 : Nat) < 1),
  ((0 : Int) ≤ (↑k : Int)),
  (((↑k : Int) : Int) < (↑v.2.1.1 : Int)),
  (((!decide (v.2.1.2 (↑k : Int).toNat < 0)) = true) → ((!decide (v.2.1.2 (↑k : Int).toNat < 0)) = true)),
  (((!decide (v.2.1.2 (↑k : Int).toNat < 0)) = true) → ((0 : Nat) < 1)),
  (((!decide (v.2.1.2 (↑k : Int).toNat < 0)) = true) → ((!decide (v.2.1.2 (↑k : Int).toNat < 0)) = true)),
  (((!decide (v.2.1.2 (↑k : Int).toNat < 0)) = true) → ((!decide (v.2.1.2 (↑k : Int).toNat < 0)) = true)),
  (((!decide (v.2.1.2 (↑k : Int).toNat < 0)) = true) → ((0 : Int) ≤ (↑k : Int))),
  (((!decide (v.2.1.2 (↑k : Int).toNat < 0)) = true) → (((↑k : Int) : Int) < (↑v.2.1.1 : Int))),
  (((!decide (v.2.1.2 (↑k : Int).toNat < 0)) = true) → ((!decide (v.2.1.2 (↑k : Int).toNat < 0)) = true)),
  (((!decide (v.2.1.2 (↑k : Int).toNat < 0)) = true) → ((!decide (v.2.1.2 (↑k : Int).toNat < 0)) = true)),
  (((!decide (v.2.1.2 (↑k : Int).toNat < 0)) = true) → ((!decide (v.2.1.2 (↑k : Int).toNat < 0)) = true)),
  (((!decide (v.2.1.2 (↑k : Int).toNat < 0)) = true) → ((0 : Nat) < 1)),
  (((!decide (v.2.1.2 (↑k : Int).toNat < 0)) = true) → ((!decide (v.2.1.2 (↑k : Int).toNat < 0)) = true)),
  (((!decide (v.2.1.2 (↑k : Int).toNat < 0)) = true) → ((!decide (v.2.1.2 (↑k : Int).toNat < 0)) = true)),
  (((decide (v.2.1.2 (↑k : Int).toNat < 0)) = false) → ((!decide (v.2.1.2 (↑k : Int).toNat < 0)) = true)),
  (((!bif decide (v.2.1.2 (↑k : Int).toNat < 0) then true else decide (v.2.1.2 (↑k : Int).toNat ≥ v.1.1)) = true) → ((!bif decide (v.2.1.2 (↑k : Int).toNat < 0) then true else decide (v.2.1.2 (↑k : Int).toNat ≥ v.1.1)) = true)),
  (((!bif decide (v.2.1.2 (↑k : Int).toNat < 0) then true else decide (v.2.1.2 (↑k : Int).toNat ≥ v.1.1)) = true) → ((!bif decide (v.2.1.2 (↑k : Int).toNat < 0) then true else decide (v.2.1.2 (↑k : Int).toNat ≥ v.1.1)) = true)),
  ((((!bif decide (v.2.1.2 (↑k : Int).toNat < 0) then true else decide (v.2.1.2 (↑k : Int).toNat ≥ v.1.1)) && decide ((↑k : Int) > 0)) = true) → (((!bif decide (v.2.1.2 (↑k : Int).toNat < 0) then true else decide (v.2.1.2 (↑k : Int).toNat ≥ v.1.1)) && decide ((↑k : Int) > 0)) = true)),
  ((((!bif decide (v.2.1.2 (↑k : Int).toNat < 0) then true else decide (v.2.1.2 (↑k : Int).toNat ≥ v.1.1)) && decide ((↑k : Int) > 0)) = true) → ((0 : Nat) < 1)),
  ((((!bif decide (v.2.1.2 (↑k : Int).toNat < 0) then true else decide (v.2.1.2 (↑k : Int).toNat ≥ v.1.1)) && decide ((↑k : Int) > 0)) = true) → (((!bif decide (v.2.1.2 (↑k : Int).toNat < 0) then true else decide (v.2.1.2 (↑k : Int).toNat ≥ v.1.1)) && decide ((↑k : Int) > 0)) = true)),
  ((((!bif decide (v.2.1.2 (↑k : Int).toNat < 0) then true else decide (v.2.1.2 (↑k : Int).toNat ≥ v.1.1)) && decide ((↑k : Int) > 0)) = true) → (((-9223372036854775808) : Int) ≤ ((↑k : Int) - 1))),
  ((((!bif decide (v.2.1.2 (↑k : Int).toNat < 0) then true else decide (v.2.1.2 (↑k : Int).toNat ≥ v.1.1)) && decide ((↑k : Int) > 0)) = true) → ((((↑k : Int) - 1) : Int) ≤ 9223372036854775807)),
  ((((!bif decide (v.2.1.2 (↑k : Int).toNat < 0) then true else decide (v.2.1.2 (↑k : Int).toNat ≥ v.1.1)) && decide ((↑k : Int) > 0)) = true) → (((!bif decide (v.2.1.2 (↑k : Int).toNat < 0) then true else decide (v.2.1.2 (↑k : Int).toNat ≥ v.1.1)) && decide ((↑k : Int) > 0)) = true)),
  ((((!bif decide (v.2.1.2 (↑k : Int).toNat < 0) then true else decide (v.2.1.2 (↑k : Int).toNat ≥ v.1.1)) && decide ((↑k : Int) > 0)) = true) → (((!bif decide (v.2.1.2 (↑k : Int).toNat < 0) then true else decide (v.2.1.2 (↑k : Int).toNat ≥ v.1.1)) && decide ((↑k : Int) > 0)) = true)),
  ((((!bif decide (v.2.1.2 (↑k : Int).toNat < 0) then true else decide (v.2.1.2 (↑k : Int).toNat ≥ v.1.1)) && decide ((↑k : Int) > 0)) = true) → ((0 : Int) ≤ ((↑k : Int) - 1))),
  ((((!bif decide (v.2.1.2 (↑k : Int).toNat < 0) then true else decide (v.2.1.2 (↑k : Int).toNat ≥ v.1.1)) && decide ((↑k : Int) > 0)) = true) → ((((↑k : Int) - 1) : Int) < (↑v.2.1.1 : Int))),
  ((((!bif decide (v.2.1.2 (↑k : Int).toNat < 0) then true else decide (v.2.1.2 (↑k : Int).toNat ≥ v.1.1)) && decide ((↑k : Int) > 0)) = true) → (((!bif decide (v.2.1.2 (↑k : Int).toNat < 0) then true else decide (v.2.1.2 (↑k : Int).toNat ≥ v.1.1)) && decide ((↑k : Int) > 0)) = true)),
  ((((!bif decide (v.2.1.2 (↑k : Int).toNat < 0) then true else decide (v.2.1.2 (↑k : Int).toNat ≥ v.1.1)) && decide ((↑k : Int) > 0)) = true) → (((!bif decide (v.2.1.2 (↑k : Int).toNat < 0) then true else decide (v.2.1.2 (↑k : Int).toNat ≥ v.1.1)) && decide ((↑k : Int) > 0)) = true)),
  ((((!bif decide (v.2.1.2 (↑k : Int).toNat < 0) then true else decide (v.2.1.2 (↑k : Int).toNat ≥ v.1.1)) && decide ((↑k : Int) > 0)) = true) → ((0 : Nat) < 1)),
  ((((!bif decide (v.2.1.2 (↑k : Int).toNat < 0) then true else decide (v.2.1.2 (↑k : Int).toNat ≥ v.1.1)) && decide ((↑k : Int) > 0)) = true) → (((!bif decide (v.2.1.2 (↑k : Int).toNat < 0) then true else decide (v.2.1.2 (↑k : Int).toNat ≥ v.1.1)) && decide ((↑k : Int) > 0)) = true)),
  ((((!bif decide (v.2.1.2 (↑k : Int).toNat < 0) then true else decide (v.2.1.2 (↑k : Int).toNat ≥ v.1.1)) && decide ((↑k : Int) > 0)) = true) → (((!bif decide (v.2.1.2 (↑k : Int).toNat < 0) then true else decide (v.2.1.2 (↑k : Int).toNat ≥ v.1.1)) && decide ((↑k : Int) > 0)) = true)),
  ((((!bif decide (v.2.1.2 (↑k : Int).toNat < 0) then true else decide (v.2.1.2 (↑k : Int).toNat ≥ v.1.1)) && decide ((↑k : Int) > 0)) = true) → ((0 : Int) ≤ (↑k : Int))),
  ((((!bif decide (v.2.1.2 (↑k : Int).toNat < 0) then true else decide (v.2.1.2 (↑k : Int).toNat ≥ v.1.1)) && decide ((↑k : Int) > 0)) = true) → (((↑k : Int) : Int) < (↑v.2.1.1 : Int))),
  ((((!bif decide (v.2.1.2 (↑k : Int).toNat < 0) then true else decide (v.2.1.2 (↑k : Int).toNat ≥ v.1.1)) && decide ((↑k : Int) > 0)) = true) → (((!bif decide (v.2.1.2 (↑k : Int).toNat < 0) then true else decide (v.2.1.2 (↑k : Int).toNat ≥ v.1.1)) && decide ((↑k : Int) > 0)) = true)),
  ((((!bif decide (v.2.1.2 (↑k : Int).toNat < 0) then true else decide (v.2.1.2 (↑k : Int).toNat ≥ v.1.1)) && decide ((↑k : Int) > 0)) = true) → (((!bif decide (v.2.1.2 (↑k : Int).toNat < 0) then true else decide (v.2.1.2 (↑k : Int).toNat ≥ v.1.1)) && decide ((↑k : Int) > 0)) = true)),
  ((((!bif decide (v.2.1.2 (↑k : Int).toNat < 0) then true else decide (v.2.1.2 (↑k : Int).toNat ≥ v.1.1)) && decide ((↑k : Int) > 0)) = true) → (((!bif decide (v.2.1.2 (↑k : Int).toNat < 0) then true else decide (v.2.1.2 (↑k : Int).toNat ≥ v.1.1)) && decide ((↑k : Int) > 0)) = true)),
  (((!bif decide (v.2.1.2 (↑k : Int).toNat < 0) then true else decide (v.2.1.2 (↑k : Int).toNat ≥ v.1.1)) = true) → ((!bif decide (v.2.1.2 (↑k : Int).toNat < 0) then true else decide (v.2.1.2 (↑k : Int).toNat ≥ v.1.1)) = true)),
  (((!bif decide (v.2.1.2 (↑k : Int).toNat < 0) then true else decide (v.2.1.2 (↑k : Int).toNat ≥ v.1.1)) = true) → (((decide ((↑k : Int) > 0)) = true) → (((!bif decide (v.2.1.2 (↑k : Int).toNat < 0) then true else decide (v.2.1.2 (↑k : Int).toNat ≥ v.1.1)) && decide ((↑k : Int) > 0)) = true))),
  (((bif decide (v.2.1.2 (↑k : Int).toNat < 0) then true else decide (v.2.1.2 (↑k : Int).toNat ≥ v.1.1)) = false) → ((!bif decide (v.2.1.2 (↑k : Int).toNat < 0) then true else decide (v.2.1.2 (↑k : Int).toNat ≥ v.1.1)) = true)),
  ((bif bif decide (v.2.1.2 (↑k : Int).toNat < 0) then true else decide (v.2.1.2 (↑k : Int).toNat ≥ v.1.1) then true else bif decide ((↑k : Int) > 0) then decide (v.2.1.2 ((↑k : Int) - 1).toNat ≥ v.2.1.2 (↑k : Int).toNat) else false) = false),
  (((-9223372036854775808) : Int) ≤ ((↑k : Int) + 1)),
  ((((↑k : Int) + 1) : Int) ≤ 9223372036854775807),
  ((v.1.1 : Int) = v.1.1),
  ((v.1.2.1.1 : Nat) = v.1.2.1.1),
  (∀ i : Nat, (((i : Nat) < v.1.2.1.1) → (([.int .i64 ((v.1.2.1.2 i).1), .int .i64 ((v.1.2.1.2 i).2.1)] : List PV) = [.int .i64 ((v.1.2.1.2 i).1), .int .i64 ((v.1.2.1.2 i).2.1)]))),
  ((v.2.1.1 : Nat) = v.2.1.1),
  (∀ i : Nat, (((i : Nat) < v.2.1.1) → (([.int .i64 (v.2.1.2 i)] : List PV) = [.int .i64 (v.2.1.2 i)]))),
  ((0 : Nat) = 0),
  ((((↑k : Int) + 1) : Int) = (↑(k + 1) : Int)),
  ((3 : Nat) = 3),
  ((1 : Nat) ≤ 1),
  ((1 : Nat) ≤ 1),
  ((v.1.1 : Int) = v.1.1),
  ((v.1.2.1.1 : Nat) = v.1.2.1.1),
  (∀ i : Nat, (((i : Nat) < v.1.2.1.1) → (([.int .i64 ((v.1.2.1.2 i).1), .int .i64 ((v.1.2.1.2 i).2.1)] : List PV) = [.int .i64 ((v.1.2.1.2 i).1), .int .i64 ((v.1.2.1.2 i).2.1)]))),
  ((v.2.1.1 : Nat) = v.2.1.1),
  (∀ i : Nat, (((i : Nat) < v.2.1.1) → (([.int .i64 (v.2.1.2 i)] : List PV) = [.int .i64 (v.2.1.2 i)])))]) := by kernel_rfl
theorem p56c (v : T_Pinned) (k : Nat) :
    pathOb Try.prog Try.f46 0 [.reg [oT, oT, oT, oT, oT], .dec true, .reg [oT, oT, oT, oT, oT, oT, oT, oT, oT, oT, oT, oT, oT, oT, oT, oT, oT, oT, oT, oT, oT, oT, oT, oT, oT, oT, oT, oT, oT, oT, oT, oT, oT, oT, oT], .dec true, .reg [oT]] [.code (cAt (bodyOf Try.f46) [1, 0, 1, 0, 0]), .inLoop (cAt (bodyOf Try.f46) [1, 0, 1, 0, 0]), .inBlock 0, .code (cAt (bodyOf Try.f46) [1, 1])] (S56a v k) [] 1 [] (.p (.bool false)) =
    some [((0 : Nat) < 1),
  ((decide ((↑k : Int) < (↑v.2.1.1 : Int))) = true),
  ((0 : Nat) < 1),
  ((0 : Int) ≤ (↑k : Int)),
  (((↑k : Int) : Int) < (↑v.2.1.1 : Int)),
  (((!decide (v.2.1.2 (↑k : Int).toNat < 0)) = true) → ((!decide (v.2.1.2 (↑k : Int).toNat < 0)) = true)),
  (((!decide (v.2.1.2 (↑k : Int).toNat < 0)) = true) → ((0 : Nat) < 1)),
  (((!decide (v.2.1.2 (↑k : Int).toNat < 0)) = true) → ((!decide (v.2.1.2 (↑k : Int).toNat < 0)) = true)),
  (((!decide (v.2.1.2 (↑k : Int).toNat < 0)) = true) → ((!decide (v.2.1.2 (↑k : Int).toNat < 0)) = true)),
  (((!decide (v.2.1.2 (↑k : Int).toNat < 0)) = true) → ((0 : Int) ≤ (↑k : Int))),
  (((!decide (v.2.1.2 (↑k : Int).toNat < 0)) = true) → (((↑k : Int) : Int) < (↑v.2.1.1 : Int))),
  (((!decide (v.2.1.2 (↑k : Int).toNat < 0)) = true) → ((!decide (v.2.1.2 (↑k : Int).toNat < 0)) = true)),
  (((!decide (v.2.1.2 (↑k : Int).toNat < 0)) = true) → ((!decide (v.2.1.2 (↑k : Int).toNat < 0)) = true)),
  (((!decide (v.2.1.2 (↑k : Int).toNat < 0)) = true) → ((!decide (v.2.1.2 (↑k : Int).toNat < 0)) = true)),
  (((!decide (v.2.1.2 (↑k : Int).toNat < 0)) = true) → ((0 : Nat) < 1)),
  (((!decide (v.2.1.2 (↑k : Int).toNat < 0)) = true) → ((!decide (v.2.1.2 (↑k : Int).toNat < 0)) = true)),
  (((!decide (v.2.1.2 (↑k : Int).toNat < 0)) = true) → ((!decide (v.2.1.2 (↑k : Int).toNat < 0)) = true)),
  (((decide (v.2.1.2 (↑k : Int).toNat < 0)) = false) → ((!decide (v.2.1.2 (↑k : Int).toNat < 0)) = true)),
  (((!bif decide (v.2.1.2 (↑k : Int).toNat < 0) then true else decide (v.2.1.2 (↑k : Int).toNat ≥ v.1.1)) = true) → ((!bif decide (v.2.1.2 (↑k : Int).toNat < 0) then true else decide (v.2.1.2 (↑k : Int).toNat ≥ v.1.1)) = true)),
  (((!bif decide (v.2.1.2 (↑k : Int).toNat < 0) then true else decide (v.2.1.2 (↑k : Int).toNat ≥ v.1.1)) = true) → ((!bif decide (v.2.1.2 (↑k : Int).toNat < 0) then true else decide (v.2.1.2 (↑k : Int).toNat ≥ v.1.1)) = true)),
  ((((!bif decide (v.2.1.2 (↑k : Int).toNat < 0) then true else decide (v.2.1.2 (↑k : Int).toNat ≥ v.1.1)) && decide ((↑k : Int) > 0)) = true) → (((!bif decide (v.2.1.2 (↑k : Int).toNat < 0) then true else decide (v.2.1.2 (↑k : Int).toNat ≥ v.1.1)) && decide ((↑k : Int) > 0)) = true)),
  ((((!bif decide (v.2.1.2 (↑k : Int).toNat < 0) then true else decide (v.2.1.2 (↑k : Int).toNat ≥ v.1.1)) && decide ((↑k : Int) > 0)) = true) → ((0 : Nat) < 1)),
  ((((!bif decide (v.2.1.2 (↑k : Int).toNat < 0) then true else decide (v.2.1.2 (↑k : Int).toNat ≥ v.1.1)) && decide ((↑k : Int) > 0)) = true) → (((!bif decide (v.2.1.2 (↑k : Int).toNat < 0) then true else decide (v.2.1.2 (↑k : Int).toNat ≥ v.1.1)) && decide ((↑k : Int) > 0)) = true)),
  ((((!bif decide (v.2.1.2 (↑k : Int).toNat < 0) then true else decide (v.2.1.2 (↑k : Int).toNat ≥ v.1.1)) && decide ((↑k : Int) > 0)) = true) → (((-9223372036854775808) : Int) ≤ ((↑k : Int) - 1))),
  ((((!bif decide (v.2.1.2 (↑k : Int).toNat < 0) then true else decide (v.2.1.2 (↑k : Int).toNat ≥ v.1.1)) && decide ((↑k : Int) > 0)) = true) → ((((↑k : Int) - 1) : Int) ≤ 9223372036854775807)),
  ((((!bif decide (v.2.1.2 (↑k : Int).toNat < 0) then true else decide (v.2.1.2 (↑k : Int).toNat ≥ v.1.1)) && decide ((↑k : Int) > 0)) = true) → (((!bif decide (v.2.1.2 (↑k : Int).toNat < 0) then true else decide (v.2.1.2 (↑k : Int).toNat ≥ v.1.1)) && decide ((↑k : Int) > 0)) = true)),
  ((((!bif decide (v.2.1.2 (↑k : Int).toNat < 0) then true else decide (v.2.1.2 (↑k : Int).toNat ≥ v.1.1)) && decide ((↑k : Int) > 0)) = true) → (((!bif decide (v.2.1.2 (↑k : Int).toNat < 0) then true else decide (v.2.1.2 (↑k : Int).toNat ≥ v.1.1)) && decide ((↑k : Int) > 0)) = true)),
  ((((!bif decide (v.2.1.2 (↑k : Int).toNat < 0) then true else decide (v.2.1.2 (↑k : Int).toNat ≥ v.1.1)) && decide ((↑k : Int) > 0)) = true) → ((0 : Int) ≤ ((↑k : Int) - 1))),
  ((((!bif decide (v.2.1.2 (↑k : Int).toNat < 0) then true else decide (v.2.1.2 (↑k : Int).toNat ≥ v.1.1)) && decide ((↑k : Int) > 0)) = true) → ((((↑k : Int) - 1) : Int) < (↑v.2.1.1 : Int))),
  ((((!bif decide (v.2.1.2 (↑k : Int).toNat < 0) then true else decide (v.2.1.2 (↑k : Int).toNat ≥ v.1.1)) && decide ((↑k : Int) > 0)) = true) → (((!bif decide (v.2.1.2 (↑k : Int).toNat < 0) then true else decide (v.2.1.2 (↑k : Int).toNat ≥ v.1.1)) && decide ((↑k : Int) > 0)) = true)),
  ((((!bif decide (v.2.1.2 (↑k : Int).toNat < 0) then true else decide (v.2.1.2 (↑k : Int).toNat ≥ v.1.1)) && decide ((↑k : Int) > 0)) = true) → (((!bif decide (v.2.1.2 (↑k : Int).toNat < 0) then true else decide (v.2.1.2 (↑k : Int).toNat ≥ v.1.1)) && decide ((↑k : Int) > 0)) = true)),
  ((((!bif decide (v.2.1.2 (↑k : Int).toNat < 0) then true else decide (v.2.1.2 (↑k : Int).toNat ≥ v.1.1)) && decide ((↑k : Int) > 0)) = true) → ((0 : Nat) < 1)),
  ((((!bif decide (v.2.1.2 (↑k : Int).toNat < 0) then true else decide (v.2.1.2 (↑k : Int).toNat ≥ v.1.1)) && decide ((↑k : Int) > 0)) = true) → (((!bif decide (v.2.1.2 (↑k : Int).toNat < 0) then true else decide (v.2.1.2 (↑k : Int).toNat ≥ v.1.1)) && decide ((↑k : Int) > 0)) = true)),
  ((((!bif decide (v.2.1.2 (↑k : Int).toNat < 0) then true else decide (v.2.1.2 (↑k : Int).toNat ≥ v.1.1)) && decide ((↑k : Int) > 0)) = true) → (((!bif decide (v.2.1.2 (↑k : Int).toNat < 0) then true else decide (v.2.1.2 (↑k : Int).toNat ≥ v.1.1)) && decide ((↑k : Int) > 0)) = true)),
  ((((!bif decide (v.2.1.2 (↑k : Int).toNat < 0) then true else decide (v.2.1.2 (↑k : Int).toNat ≥ v.1.1)) && decide ((↑k : Int) > 0)) = true) → ((0 : Int) ≤ (↑k : Int))),
  ((((!bif decide (v.2.1.2 (↑k : Int).toNat < 0) then true else decide (v.2.1.2 (↑k : Int).toNat ≥ v.1.1)) && decide ((↑k : Int) > 0)) = true) → (((↑k : Int) : Int) < (↑v.2.1.1 : Int))),
  ((((!bif decide (v.2.1.2 (↑k : Int).toNat < 0) then true else decide (v.2.1.2 (↑k : Int).toNat ≥ v.1.1)) && decide ((↑k : Int) > 0)) = true) → (((!bif decide (v.2.1.2 (↑k : Int).toNat < 0) then true else decide (v.2.1.2 (↑k : Int).toNat ≥ v.1.1)) && decide ((↑k : Int) > 0)) = true)),
  ((((!bif decide (v.2.1.2 (↑k : Int).toNat < 0) then true else decide (v.2.1.2 (↑k : Int).toNat ≥ v.1.1)) && decide ((↑k : Int) > 0)) = true) → (((!bif decide (v.2.1.2 (↑k : Int).toNat < 0) then true else decide (v.2.1.2 (↑k : Int).toNat ≥ v.1.1)) && decide ((↑k : Int) > 0)) = true)),
  ((((!bif decide (v.2.1.2 (↑k : Int).toNat < 0) then true else decide (v.2.1.2 (↑k : Int).toNat ≥ v.1.1)) && decide ((↑k : Int) > 0)) = true) → (((!bif decide (v.2.1.2 (↑k : Int).toNat < 0) then true else decide (v.2.1.2 (↑k : Int).toNat ≥ v.1.1)) && decide ((↑k : Int) > 0)) = true)),
  (((!bif decide (v.2.1.2 (↑k : Int).toNat < 0) then true else decide (v.2.1.2 (↑k : Int).toNat ≥ v.1.1)) = true) → ((!bif decide (v.2.1.2 (↑k : Int).toNat < 0) then true else decide (v.2.1.2 (↑k : Int).toNat ≥ v.1.1)) = true)),
  (((!bif decide (v.2.1.2 (↑k : Int).toNat < 0) then true else decide (v.2.1.2 (↑k : Int).toNat ≥ v.1.1)) = true) → (((decide ((↑k : Int) > 0)) = true) → (((!bif decide (v.2.1.2 (↑k : Int).toNat < 0) then true else decide (v.2.1.2 (↑k : Int).toNat ≥ v.1.1)) && decide ((↑k : Int) > 0)) = true))),
  (((bif decide (v.2.1.2 (↑k : Int).toNat < 0) then true else decide (v.2.1.2 (↑k : Int).toNat ≥ v.1.1)) = false) → ((!bif decide (v.2.1.2 (↑k : Int).toNat < 0) then true else decide (v.2.1.2 (↑k : Int).toNat ≥ v.1.1)) = true)),
  ((bif bif decide (v.2.1.2 (↑k : Int).toNat < 0) then true else decide (v.2.1.2 (↑k : Int).toNat ≥ v.1.1) then true else bif decide ((↑k : Int) > 0) then decide (v.2.1.2 ((↑k : Int) - 1).toNat ≥ v.2.1.2 (↑k : Int).toNat) else false) = true),
  (false = false)] := by kernel_rfl
theorem p56d (v : T_Pinned) (k : Nat) :
    pieceOb Try.prog 0 [.reg [oT, oT, oT, oT, oT], .dec false, .reg [oT], .head] [.code (cAt (bodyOf Try.f46) [1, 0, 1, 0, 0]), .inLoop (cAt (bodyOf Try.f46) [1, 0, 1, 0, 0]), .inBlock 0, .code (cAt (bodyOf Try.f46) [1, 1])] (S56a v k) [0] 1 (S56b v 0) =
    some ([.code (cAt (bodyOf Try.f46) [1, 1, 0, 1, 0, 0]), .inLoop (cAt (bodyOf Try.f46) [1, 1, 0, 1, 0, 0]), .inBlock 2, .code (cAt (bodyOf Try.f46) [1, 1, 1])], [((0 : Nat) < 1),
  ((decide ((↑k : Int) < (↑v.2.1.1 : Int))) = false),
  ((v.1.1 : Int) = v.1.1),
  ((v.1.2.1.1 : Nat) = v.1.2.1.1),
  (∀ i : Nat, (((i : Nat) < v.1.2.1.1) → (([.int .i64 ((v.1.2.1.2 i).1), .int .i64 ((v.1.2.1.2 i).2.1)] : List PV) = [.int .i64 ((v.1.2.1.2 i).1), .int .i64 ((v.1.2.1.2 i).2.1)]))),
  ((v.2.1.1 : Nat) = v.2.1.1),
  (∀ i : Nat, (((i : Nat) < v.2.1.1) → (([.int .i64 (v.2.1.2 i)] : List PV) = [.int .i64 (v.2.1.2 i)]))),
  ((0 : Nat) = 0),
  ((0 : Int) = (↑0 : Int)),
  ((3 : Nat) = 3),
  ((1 : Nat) ≤ 1),
  ((1 : Nat) ≤ 1),
  ((v.1.1 : Int) = v.1.1),
  ((v.1.2.1.1 : Nat) = v.1.2.1.1),
  (∀ i : Nat, (((i : Nat) < v.1.2.1.1) → (([.int .i64 ((v.1.2.1.2 i).1), .int .i64 ((v.1.2.1.2 i).2.1)] : List PV) = [.int .i64 ((v.1.2.1.2 i).1), .int .i64 ((v.1.2.1.2 i).2.1)]))),
  ((v.2.1.1 : Nat) = v.2.1.1),
  (∀ i : Nat, (((i : Nat) < v.2.1.1) → (([.int .i64 (v.2.1.2 i)] : List PV) = [.int .i64 (v.2.1.2 i)])))]) := by kernel_rfl
theorem p56e (v : T_Pinned) (k : Nat) :
    pieceOb Try.prog 0 [.reg [oT, oT, oT, oT, oT, oT], .dec true, .reg [oT, oT, oT, oT, oT, oT, oT, oT, oT, ⟨true, (some ⟨[], [], 1, [], .p (.bool (hasI v.2.1.2 (v.1.2.1.2 k).1 v.2.1.1))⟩), none⟩, oT, oT, oT, oT, oT, oT, oT, oT, oT, oT, ⟨true, (some ⟨[], [], 1, [], .p (.bool (hasI v.2.1.2 (v.1.2.1.2 k).2.1 v.2.1.1))⟩), none⟩, oT], .dec false, .reg [oT, oT, oT], .head] [.code (cAt (bodyOf Try.f46) [1, 1, 0, 1, 0, 0]), .inLoop (cAt (bodyOf Try.f46) [1, 1, 0, 1, 0, 0]), .inBlock 2, .code (cAt (bodyOf Try.f46) [1, 1, 1])] (S56b v k) [0] 1 (S56b v (k + 1)) =
    some ([.code (cAt (bodyOf Try.f46) [1, 1, 0, 1, 0, 0]), .inLoop (cAt (bodyOf Try.f46) [1, 1, 0, 1, 0, 0]), .inBlock 2, .code (cAt (bodyOf Try.f46) [1, 1, 1])], [((0 : Nat) < 1),
  ((decide ((↑k : Int) < (↑v.1.2.1.1 : Int))) = true),
  ((0 : Nat) < 1),
  ((0 : Nat) < 1),
  ((0 : Int) ≤ (↑k : Int)),
  (((↑k : Int) : Int) < (↑v.1.2.1.1 : Int)),
  Con Try.prog 93 0 [] [.p (.seq true 1 v.2.1.1 (fun i => [.int .i64 (v.2.1.2 i)])), .p (.int .i64 ((v.1.2.1.2 k).1))] [] (.p (.bool (hasI v.2.1.2 (v.1.2.1.2 k).1 v.2.1.1))),
  (((hasI v.2.1.2 (v.1.2.1.2 k).1 v.2.1.1) = true) → ((hasI v.2.1.2 (v.1.2.1.2 k).1 v.2.1.1) = true)),
  (((hasI v.2.1.2 (v.1.2.1.2 k).1 v.2.1.1) = true) → ((0 : Nat) < 1)),
  (((hasI v.2.1.2 (v.1.2.1.2 k).1 v.2.1.1) = true) → ((hasI v.2.1.2 (v.1.2.1.2 k).1 v.2.1.1) = true)),
  (((hasI v.2.1.2 (v.1.2.1.2 k).1 v.2.1.1) = true) → ((hasI v.2.1.2 (v.1.2.1.2 k).1 v.2.1.1) = true)),
  (((hasI v.2.1.2 (v.1.2.1.2 k).1 v.2.1.1) = true) → ((0 : Nat) < 1)),
  (((hasI v.2.1.2 (v.1.2.1.2 k).1 v.2.1.1) = true) → ((hasI v.2.1.2 (v.1.2.1.2 k).1 v.2.1.1) = true)),
  (((hasI v.2.1.2 (v.1.2.1.2 k).1 v.2.1.1) = true) → ((hasI v.2.1.2 (v.1.2.1.2 k).1 v.2.1.1) = true)),
  (((hasI v.2.1.2 (v.1.2.1.2 k).1 v.2.1.1) = true) → ((0 : Int) ≤ (↑k : Int))),
  (((hasI v.2.1.2 (v.1.2.1.2 k).1 v.2.1.1) = true) → (((↑k : Int) : Int) < (↑v.1.2.1.1 : Int))),
  (((hasI v.2.1.2 (v.1.2.1.2 k).1 v.2.1.1) = true) → ((hasI v.2.1.2 (v.1.2.1.2 k).1 v.2.1.1) = true)),
  (((hasI v.2.1.2 (v.1.2.1.2 k).1 v.2.1.1) = true) → ((hasI v.2.1.2 (v.1.2.1.2 k).1 v.2.1.1) = true)),
  (((hasI v.2.1.2 (v.1.2.1.2 k).1 v.2.1.1) = true) → ((hasI v.2.1.2 (v.1.2.1.2 k).1 v.2.1.1) = true)),
  (((hasI v.2.1.2 (v.1.2.1.2 k).1 v.2.1.1) = true) → ((hasI v.2.1.2 (v.1.2.1.2 k).1 v.2.1.1) = true)),
  (((hasI v.2.1.2 (v.1.2.1.2 k).1 v.2.1.1) = true) → Con Try.prog 93 0 [] [.p (.seq true 1 v.2.1.1 (fun i => [.int .i64 (v.2.1.2 i)])), .p (.int .i64 ((v.1.2.1.2 k).2.1))] [] (.p (.bool (hasI v.2.1.2 (v.1.2.1.2 k).2.1 v.2.1.1)))),
  (((hasI v.2.1.2 (v.1.2.1.2 k).1 v.2.1.1) = true) → ((hasI v.2.1.2 (v.1.2.1.2 k).1 v.2.1.1) = true)),
  ((bif hasI v.2.1.2 (v.1.2.1.2 k).1 v.2.1.1 then hasI v.2.1.2 (v.1.2.1.2 k).2.1 v.2.1.1 else false) = false),
  (((-9223372036854775808) : Int) ≤ ((↑k : Int) + 1)),
  ((((↑k : Int) + 1) : Int) ≤ 9223372036854775807),
  ((v.1.1 : Int) = v.1.1),
  ((v.1.2.1.1 : Nat) = v.1.2.1.1),
  (∀ i : Nat, (((i : Nat) < v.1.2.1.1) → (([.int .i64 ((v.1.2.1.2 i).1), .int .i64 ((v.1.2.1.2 i).2.1)] : List PV) = [.int .i64 ((v.1.2.1.2 i).1), .int .i64 ((v.1.2.1.2 i).2.1)]))),
  ((v.2.1.1 : Nat) = v.2.1.1),
  (∀ i : Nat, (((i : Nat) < v.2.1.1) → (([.int .i64 (v.2.1.2 i)] : List PV) = [.int .i64 (v.2.1.2 i)]))),
  ((0 : Nat) = 0),
  ((((↑k : Int) + 1) : Int) = (↑(k + 1) : Int)),
  ((3 : Nat) = 3),
  ((1 : Nat) ≤ 1),
  ((1 : Nat) ≤ 1),
  ((v.1.1 : Int) = v.1.1),
  ((v.1.2.1.1 : Nat) = v.1.2.1.1),
  (∀ i : Nat, (((i : Nat) < v.1.2.1.1) → (([.int .i64 ((v.1.2.1.2 i).1), .int .i64 ((v.1.2.1.2 i).2.1)] : List PV) = [.int .i64 ((v.1.2.1.2 i).1), .int .i64 ((v.1.2.1.2 i).2.1)]))),
  ((v.2.1.1 : Nat) = v.2.1.1),
  (∀ i : Nat, (((i : Nat) < v.2.1.1) → (([.int .i64 (v.2.1.2 i)] : List PV) = [.int .i64 (v.2.1.2 i)])))]) := by kernel_rfl
theorem p56f (v : T_Pinned) (k : Nat) :
    pathOb Try.prog Try.f46 0 [.reg [oT, oT, oT, oT, oT, oT], .dec true, .reg [oT, oT, oT, oT, oT, oT, oT, oT, oT, ⟨true, (some ⟨[], [], 1, [], .p (.bool (hasI v.2.1.2 (v.1.2.1.2 k).1 v.2.1.1))⟩), none⟩, oT, oT, oT, oT, oT, oT, oT, oT, oT, oT, ⟨true, (some ⟨[], [], 1, [], .p (.bool (hasI v.2.1.2 (v.1.2.1.2 k).2.1 v.2.1.1))⟩), none⟩, oT], .dec true, .reg [oT]] [.code (cAt (bodyOf Try.f46) [1, 1, 0, 1, 0, 0]), .inLoop (cAt (bodyOf Try.f46) [1, 1, 0, 1, 0, 0]), .inBlock 2, .code (cAt (bodyOf Try.f46) [1, 1, 1])] (S56b v k) [] 1 [] (.p (.bool false)) =
    some [((0 : Nat) < 1),
  ((decide ((↑k : Int) < (↑v.1.2.1.1 : Int))) = true),
  ((0 : Nat) < 1),
  ((0 : Nat) < 1),
  ((0 : Int) ≤ (↑k : Int)),
  (((↑k : Int) : Int) < (↑v.1.2.1.1 : Int)),
  Con Try.prog 93 0 [] [.p (.seq true 1 v.2.1.1 (fun i => [.int .i64 (v.2.1.2 i)])), .p (.int .i64 ((v.1.2.1.2 k).1))] [] (.p (.bool (hasI v.2.1.2 (v.1.2.1.2 k).1 v.2.1.1))),
  (((hasI v.2.1.2 (v.1.2.1.2 k).1 v.2.1.1) = true) → ((hasI v.2.1.2 (v.1.2.1.2 k).1 v.2.1.1) = true)),
  (((hasI v.2.1.2 (v.1.2.1.2 k).1 v.2.1.1) = true) → ((0 : Nat) < 1)),
  (((hasI v.2.1.2 (v.1.2.1.2 k).1 v.2.1.1) = true) → ((hasI v.2.1.2 (v.1.2.1.2 k).1 v.2.1.1) = true)),
  (((hasI v.2.1.2 (v.1.2.1.2 k).1 v.2.1.1) = true) → ((hasI v.2.1.2 (v.1.2.1.2 k).1 v.2.1.1) = true)),
  (((hasI v.2.1.2 (v.1.2.1.2 k).1 v.2.1.1) = true) → ((0 : Nat) < 1)),
  (((hasI v.2.1.2 (v.1.2.1.2 k).1 v.2.1.1) = true) → ((hasI v.2.1.2 (v.1.2.1.2 k).1 v.2.1.1) = true)),
  (((hasI v.2.1.2 (v.1.2.1.2 k).1 v.2.1.1) = true) → ((hasI v.2.1.2 (v.1.2.1.2 k).1 v.2.1.1) = true)),
  (((hasI v.2.1.2 (v.1.2.1.2 k).1 v.2.1.1) = true) → ((0 : Int) ≤ (↑k : Int))),
  (((hasI v.2.1.2 (v.1.2.1.2 k).1 v.2.1.1) = true) → (((↑k : Int) : Int) < (↑v.1.2.1.1 : Int))),
  (((hasI v.2.1.2 (v.1.2.1.2 k).1 v.2.1.1) = true) → ((hasI v.2.1.2 (v.1.2.1.2 k).1 v.2.1.1) = true)),
  (((hasI v.2.1.2 (v.1.2.1.2 k).1 v.2.1.1) = true) → ((hasI v.2.1.2 (v.1.2.1.2 k).1 v.2.1.1) = true)),
  (((hasI v.2.1.2 (v.1.2.1.2 k).1 v.2.1.1) = true) → ((hasI v.2.1.2 (v.1.2.1.2 k).1 v.2.1.1) = true)),
  (((hasI v.2.1.2 (v.1.2.1.2 k).1 v.2.1.1) = true) → ((hasI v.2.1.2 (v.1.2.1.2 k).1 v.2.1.1) = true)),
  (((hasI v.2.1.2 (v.1.2.1.2 k).1 v.2.1.1) = true) → Con Try.prog 93 0 [] [.p (.seq true 1 v.2.1.1 (fun i => [.int .i64 (v.2.1.2 i)])), .p (.int .i64 ((v.1.2.1.2 k).2.1))] [] (.p (.bool (hasI v.2.1.2 (v.1.2.1.2 k).2.1 v.2.1.1)))),
  (((hasI v.2.1.2 (v.1.2.1.2 k).1 v.2.1.1) = true) → ((hasI v.2.1.2 (v.1.2.1.2 k).1 v.2.1.1) = true)),
  ((bif hasI v.2.1.2 (v.1.2.1.2 k).1 v.2.1.1 then hasI v.2.1.2 (v.1.2.1.2 k).2.1 v.2.1.1 else false) = true),
  (false = false)] := by kernel_rfl
theorem p56g (v : T_Pinned) (k : Nat) :
    pathOb Try.prog Try.f46 0 [.reg [oT, oT, oT, oT, oT, oT], .dec false, .reg [oT, oT, ⟨true, (some ⟨[], [], 1, [], .p (.bool (simpleF v.1))⟩), none⟩, oT, oT, oT, oT, oT, oT, oT, oT, oT, oT, oT, oT, oT, oT, oT, oT, oT, oT, oT, oT, oT, oT, oT, oT, oT, oT, oT]] [.code (cAt (bodyOf Try.f46) [1, 1, 0, 1, 0, 0]), .inLoop (cAt (bodyOf Try.f46) [1, 1, 0, 1, 0, 0]), .inBlock 2, .code (cAt (bodyOf Try.f46) [1, 1, 1])] (S56b v k) [] 1 [] (.p (.bool (tailP v))) =
    some [((0 : Nat) < 1),
  ((decide ((↑k : Int) < (↑v.1.2.1.1 : Int))) = false),
  ((0 : Nat) < 1),
  Con Try.prog 94 0 [] [.agg [.p (.int .i64 v.1.1), .p (.seq true 2 v.1.2.1.1 (fun i => [.int .i64 ((v.1.2.1.2 i).1), .int .i64 ((v.1.2.1.2 i).2.1)]))]] [] (.p (.bool (simpleF v.1))),
  (((simpleF v.1) = true) → ((simpleF v.1) = true)),
  (((simpleF v.1) = true) → ((0 : Nat) < 1)),
  (((simpleF v.1) = true) → ((simpleF v.1) = true)),
  (((simpleF v.1) = true) → ((simpleF v.1) = true)),
  (((simpleF v.1) = true) → ((simpleF v.1) = true)),
  (((bif simpleF v.1 then decide ((↑v.2.1.1 : Int) ≥ 2) else false) = true) → ((bif simpleF v.1 then decide ((↑v.2.1.1 : Int) ≥ 2) else false) = true)),
  (((bif simpleF v.1 then decide ((↑v.2.1.1 : Int) ≥ 2) else false) = true) → ((bif simpleF v.1 then decide ((↑v.2.1.1 : Int) ≥ 2) else false) = true)),
  (((bif simpleF v.1 then decide ((↑v.2.1.1 : Int) ≥ 2) else false) = true) → ((0 : Nat) < 1)),
  (((bif simpleF v.1 then decide ((↑v.2.1.1 : Int) ≥ 2) else false) = true) → ((bif simpleF v.1 then decide ((↑v.2.1.1 : Int) ≥ 2) else false) = true)),
  (((bif simpleF v.1 then decide ((↑v.2.1.1 : Int) ≥ 2) else false) = true) → ((bif simpleF v.1 then decide ((↑v.2.1.1 : Int) ≥ 2) else false) = true)),
  (((bif simpleF v.1 then decide ((↑v.2.1.1 : Int) ≥ 2) else false) = true) → ((bif simpleF v.1 then decide ((↑v.2.1.1 : Int) ≥ 2) else false) = true)),
  (((bif bif simpleF v.1 then decide ((↑v.2.1.1 : Int) ≥ 2) else false then decide ((↑v.1.2.1.1 : Int) ≤ 15) else false) = true) → ((bif bif simpleF v.1 then decide ((↑v.2.1.1 : Int) ≥ 2) else false then decide ((↑v.1.2.1.1 : Int) ≤ 15) else false) = true)),
  (((bif bif simpleF v.1 then decide ((↑v.2.1.1 : Int) ≥ 2) else false then decide ((↑v.1.2.1.1 : Int) ≤ 15) else false) = true) → ((bif bif simpleF v.1 then decide ((↑v.2.1.1 : Int) ≥ 2) else false then decide ((↑v.1.2.1.1 : Int) ≤ 15) else false) = true)),
  (((bif bif simpleF v.1 then decide ((↑v.2.1.1 : Int) ≥ 2) else false then decide ((↑v.1.2.1.1 : Int) ≤ 15) else false) = true) → ((0 : Nat) < 1)),
  (((bif bif simpleF v.1 then decide ((↑v.2.1.1 : Int) ≥ 2) else false then decide ((↑v.1.2.1.1 : Int) ≤ 15) else false) = true) → ((bif bif simpleF v.1 then decide ((↑v.2.1.1 : Int) ≥ 2) else false then decide ((↑v.1.2.1.1 : Int) ≤ 15) else false) = true)),
  (((bif bif simpleF v.1 then decide ((↑v.2.1.1 : Int) ≥ 2) else false then decide ((↑v.1.2.1.1 : Int) ≤ 15) else false) = true) → ((bif bif simpleF v.1 then decide ((↑v.2.1.1 : Int) ≥ 2) else false then decide ((↑v.1.2.1.1 : Int) ≤ 15) else false) = true)),
  (((bif bif simpleF v.1 then decide ((↑v.2.1.1 : Int) ≥ 2) else false then decide ((↑v.1.2.1.1 : Int) ≤ 15) else false) = true) → ((0 : Nat) < 1)),
  (((bif bif simpleF v.1 then decide ((↑v.2.1.1 : Int) ≥ 2) else false then decide ((↑v.1.2.1.1 : Int) ≤ 15) else false) = true) → ((bif bif simpleF v.1 then decide ((↑v.2.1.1 : Int) ≥ 2) else false then decide ((↑v.1.2.1.1 : Int) ≤ 15) else false) = true)),
  (((bif bif simpleF v.1 then decide ((↑v.2.1.1 : Int) ≥ 2) else false then decide ((↑v.1.2.1.1 : Int) ≤ 15) else false) = true) → ((bif bif simpleF v.1 then decide ((↑v.2.1.1 : Int) ≥ 2) else false then decide ((↑v.1.2.1.1 : Int) ≤ 15) else false) = true)),
  (((bif bif simpleF v.1 then decide ((↑v.2.1.1 : Int) ≥ 2) else false then decide ((↑v.1.2.1.1 : Int) ≤ 15) else false) = true) → (((-9223372036854775808) : Int) ≤ (2 * (↑v.2.1.1 : Int)))),
  (((bif bif simpleF v.1 then decide ((↑v.2.1.1 : Int) ≥ 2) else false then decide ((↑v.1.2.1.1 : Int) ≤ 15) else false) = true) → (((2 * (↑v.2.1.1 : Int)) : Int) ≤ 9223372036854775807)),
  (((bif bif simpleF v.1 then decide ((↑v.2.1.1 : Int) ≥ 2) else false then decide ((↑v.1.2.1.1 : Int) ≤ 15) else false) = true) → ((bif bif simpleF v.1 then decide ((↑v.2.1.1 : Int) ≥ 2) else false then decide ((↑v.1.2.1.1 : Int) ≤ 15) else false) = true)),
  (((bif bif simpleF v.1 then decide ((↑v.2.1.1 : Int) ≥ 2) else false then decide ((↑v.1.2.1.1 : Int) ≤ 15) else false) = true) → ((bif bif simpleF v.1 then decide ((↑v.2.1.1 : Int) ≥ 2) else false then decide ((↑v.1.2.1.1 : Int) ≤ 15) else false) = true)),
  (((bif bif simpleF v.1 then decide ((↑v.2.1.1 : Int) ≥ 2) else false then decide ((↑v.1.2.1.1 : Int) ≤ 15) else false) = true) → (((-9223372036854775808) : Int) ≤ ((↑v.1.2.1.1 : Int) + 2 * (↑v.2.1.1 : Int)))),
  (((bif bif simpleF v.1 then decide ((↑v.2.1.1 : Int) ≥ 2) else false then decide ((↑v.1.2.1.1 : Int) ≤ 15) else false) = true) → ((((↑v.1.2.1.1 : Int) + 2 * (↑v.2.1.1 : Int)) : Int) ≤ 9223372036854775807)),
  (((bif bif simpleF v.1 then decide ((↑v.2.1.1 : Int) ≥ 2) else false then decide ((↑v.1.2.1.1 : Int) ≤ 15) else false) = true) → ((bif bif simpleF v.1 then decide ((↑v.2.1.1 : Int) ≥ 2) else false then decide ((↑v.1.2.1.1 : Int) ≤ 15) else false) = true)),
  (((bif bif simpleF v.1 then decide ((↑v.2.1.1 : Int) ≥ 2) else false then decide ((↑v.1.2.1.1 : Int) ≤ 15) else false) = true) → (((-9223372036854775808) : Int) ≤ ((↑v.1.2.1.1 : Int) + 2 * (↑v.2.1.1 : Int) - 3))),
  (((bif bif simpleF v.1 then decide ((↑v.2.1.1 : Int) ≥ 2) else false then decide ((↑v.1.2.1.1 : Int) ≤ 15) else false) = true) → ((((↑v.1.2.1.1 : Int) + 2 * (↑v.2.1.1 : Int) - 3) : Int) ≤ 9223372036854775807)),
  (((bif bif simpleF v.1 then decide ((↑v.2.1.1 : Int) ≥ 2) else false then decide ((↑v.1.2.1.1 : Int) ≤ 15) else false) = true) → ((bif bif simpleF v.1 then decide ((↑v.2.1.1 : Int) ≥ 2) else false then decide ((↑v.1.2.1.1 : Int) ≤ 15) else false) = true)),
  (((bif bif simpleF v.1 then decide ((↑v.2.1.1 : Int) ≥ 2) else false then decide ((↑v.1.2.1.1 : Int) ≤ 15) else false) = true) → ((bif bif simpleF v.1 then decide ((↑v.2.1.1 : Int) ≥ 2) else false then decide ((↑v.1.2.1.1 : Int) ≤ 15) else false) = true)),
  ((bif bif bif simpleF v.1 then decide ((↑v.2.1.1 : Int) ≥ 2) else false then decide ((↑v.1.2.1.1 : Int) ≤ 15) else false then decide ((↑v.1.2.1.1 : Int) + 2 * (↑v.2.1.1 : Int) - 3 ≤ 24) else false) = (tailP v))] := by kernel_rfl
theorem goodP_bad (N : Int) (g : Nat → Int) (k : Nat) (h : badP N g k = true) : ∀ n, k < n → goodP N g n = false
  | 0, h' => by omega
  | n + 1, h' => by
    by_cases e : k = n
    · subst e; rw [goodP, h]; simp
    · rw [goodP, goodP_bad N g k h n (by omega)]; simp
theorem freeP_bad (p : T_IntS) (g : Nat → T_Bar) (k : Nat) (h : bothP p (g k) = true) : ∀ n, k < n → freeP p g n = false
  | 0, h' => by omega
  | n + 1, h' => by
    by_cases e : k = n
    · subst e; rw [freeP, h]; simp
    · rw [freeP, freeP_bad p g k h n (by omega)]; simp
theorem con_IsPinned_s (v : T_Pinned) (hs : smS s_Pinned v) : Con Try.prog 46 0 [] [pinA v] [] (.p (.bool (pinnedF v))) := by
  refine con_start Try.func46 rfl (by kernel_rfl) rfl (fun c hc => ?_)
  have hg : smS s_Graph v.1 := hs.1
  have hnb : v.1.2.1.1 ≤ 1048576 := hs.1.2.1.1
  have hni : v.2.1.1 ≤ 1048576 := hs.2.1.1
  have lp2 : goodP v.1.1 v.2.1.2 v.2.1.1 = true → ∀ m k, k + m = v.1.2.1.1 → freeP v.2.1 v.1.2.1.2 k = true → Run Try.prog c 46 [.code (cAt (bodyOf Try.f46) [1, 1, 0, 1, 0, 0]), .inLoop (cAt (bodyOf Try.f46) [1, 1, 0, 1, 0, 0]), .inBlock 2, .code (cAt (bodyOf Try.f46) [1, 1, 1])] (S56b v k) (Post c [] (.p (.bool (pinnedF v)))) := by
    intro hgood m
    induction m with
    | zero =>
      intro k hk hf
      rw [show pinnedF v = tailP v by rw [pinnedF, hgood, show v.1.2.1.1 = k by omega, hf]; rfl]
      have hd : decide ((k : Int) < (v.1.2.1.1 : Int)) = false := by simp; omega
      refine path_ok mixed Try.func46 hc (p56g v k) ?_
      simp only [All]
      repeat' (first | exact trivial | with_reducible apply And.intro)
      all_goals (first | omega | rfl | (intros; first | assumption | exact True.intro | rfl | exact absurd (show false = true by assumption) Bool.false_ne_true | ((repeat' (first | assumption | apply anda | apply notf)); done)) | (exact con_l17Simple v.1 hg))
    | succ m ih =>
      intro k hk hf
      have hd : decide ((k : Int) < (v.1.2.1.1 : Int)) = true := by simp; omega
      cases he : bothP v.2.1 (v.1.2.1.2 k) with
      | true =>
        rw [show pinnedF v = false by rw [pinnedF, freeP_bad v.2.1 v.1.2.1.2 k he v.1.2.1.1 (by omega)]; simp]
        refine path_ok mixed Try.func46 hc (p56f v k) ?_
        simp only [All]
        repeat' (first | exact trivial | with_reducible apply And.intro)
        all_goals (first | omega | rfl | (intros; first | assumption | exact True.intro | rfl | exact absurd (show false = true by assumption) Bool.false_ne_true | ((repeat' (first | assumption | apply anda | apply notf)); done)) | (intros; exact con_l2Has v.2.1 _ hni) | (exact he))
      | false =>
        refine piece_ok mixed hc (p56e v k) ?_ (ih (k + 1) (by omega) (by rw [freeP, hf, he]; rfl))
        simp only [All]
        repeat' (first | exact trivial | with_reducible apply And.intro)
        all_goals (first | omega | rfl | (intros; first | assumption | exact True.intro | rfl | exact absurd (show false = true by assumption) Bool.false_ne_true | ((repeat' (first | assumption | apply anda | apply notf)); done)) | (intros; exact con_l2Has v.2.1 _ hni) | (exact he) | (simp [All]))
  have lp1 : ∀ m k, k + m = v.2.1.1 → goodP v.1.1 v.2.1.2 k = true → Run Try.prog c 46 [.code (cAt (bodyOf Try.f46) [1, 0, 1, 0, 0]), .inLoop (cAt (bodyOf Try.f46) [1, 0, 1, 0, 0]), .inBlock 0, .code (cAt (bodyOf Try.f46) [1, 1])] (S56a v k) (Post c [] (.p (.bool (pinnedF v)))) := by
    intro m
    induction m with
    | zero =>
      intro k hk hgd
      have hd : decide ((k : Int) < (v.2.1.1 : Int)) = false := by simp; omega
      refine piece_ok mixed hc (p56d v k) ?_ (lp2 (by rw [show v.2.1.1 = k by omega]; exact hgd) v.1.2.1.1 0 (by omega) rfl)
      simp only [All]
      repeat' (first | exact trivial | with_reducible apply And.intro)
      all_goals (first | omega | rfl | (intros; first | assumption | exact True.intro | rfl | exact absurd (show false = true by assumption) Bool.false_ne_true | ((repeat' (first | assumption | apply anda | apply notf)); done)) | (simp [All]))
    | succ m ih =>
      intro k hk hgd
      have hkn : k < v.2.1.1 := by omega
      have hd : decide ((k : Int) < (v.2.1.1 : Int)) = true := by simp; omega
      cases he : badP v.1.1 v.2.1.2 k with
      | true =>
        rw [show pinnedF v = false by rw [pinnedF, goodP_bad _ _ k he v.2.1.1 (by omega)]; rfl]
        refine path_ok mixed Try.func46 hc (p56c v k) ?_
        simp only [All]
        repeat' (first | exact trivial | with_reducible apply And.intro)
        all_goals (first | omega | rfl | (intros; first | assumption | exact True.intro | rfl | exact absurd (show false = true by assumption) Bool.false_ne_true | ((repeat' (first | assumption | apply anda | apply notf)); done)) | (exact he) | (intro h; have := idx_lt h hkn; omega))
      | false =>
        refine piece_ok mixed hc (p56b v k) ?_ (ih (k + 1) (by omega) (by rw [goodP, hgd, he]; rfl))
        simp only [All]
        repeat' (first | exact trivial | with_reducible apply And.intro)
        all_goals (first | omega | rfl | (intros; first | assumption | exact True.intro | rfl | exact absurd (show false = true by assumption) Bool.false_ne_true | ((repeat' (first | assumption | apply anda | apply notf)); done)) | (exact he) | (intro h; have := idx_lt h hkn; omega) | (simp [All]))
  refine piece_ok mixed hc (p56a v) ?_ (lp1 v.2.1.1 0 (by omega) rfl)
  simp only [All]
  repeat' (first | exact trivial | with_reducible apply And.intro)
  all_goals (first | omega | rfl | (intros; first | assumption | exact True.intro | rfl | exact absurd (show false = true by assumption) Bool.false_ne_true | ((repeat' (first | assumption | apply anda | apply notf)); done)) | (simp [All]))
end Go.Proofs.Ytgdbnnmogddkaaa.Mach
