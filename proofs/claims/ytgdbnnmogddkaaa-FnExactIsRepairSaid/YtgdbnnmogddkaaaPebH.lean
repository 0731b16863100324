/- The pebble game of the reference: gathering, a new game, the rank in the plane. Conditions: as each theorem says. -/
import Derived.Test.YtgdbnnmogddkaaaPebG
import Derived.Test.YtgdbnnmogddkaaaGraph
namespace Go.Proofs.Ytgdbnnmogddkaaa.Mach
open Go
set_option linter.unusedVariables false
set_option linter.unusedSimpArgs false

def SH (g : Nat → T_Bar) (nb N m : Nat) (F0 T0 F T Q : Nat → Int) (a b want : Int) : St :=
  ⟨[grG g nb N, pebD N m F0 T0 Q, .p (.int .i64 a), .p (.int .i64 b), .p (.int .i64 want), .pt 2 0 0 0, .pt 3 1 0 0, .p .any, .p .any, .p .any, .pt 3 2 0 0, .p .any, .pt 3 3 0 0] ++ List.replicate 40 anyA,
   [(0, bxG g nb N), (1, bxD N m F0 T0 Q), (2, bx0), (3, bxP N m 4), (4, iOb N F), (5, iOb m T), (6, iOb m Q)], 7⟩
def SNc (g : Nat → T_Bar) (nb N k : Nat) : St :=
  ⟨[.p .any, .p (.int .i64 k), .pt 2 0 0 0, .p .any, .pt 3 1 0 0, .p .any, .pt 3 2 0 0] ++ List.replicate 27 anyA,
   [(0, bxG g nb N), (1, bx0), (2, ⟨true, 3, 1, fun _ => [.ar 1 3 0 0, .ar 1 4 0 0, .ar 1 5 0 0]⟩), (3, iOb 0 (fun _ => k)), (4, iOb 0 (fun _ => 0)), (5, iOb 0 (fun _ => 0))], 6⟩
def SN0 (g : Nat → T_Bar) (nb N k i : Nat) : St :=
  ⟨[.p .any, .p (.int .i64 k), .pt 2 0 0 0, .p .any, .pt 3 1 0 0, .p .any, .pt 3 2 0 0, .p (.int .i64 i)] ++ List.replicate 26 anyA,
   [(0, bxG g nb N), (1, bx0), (2, ⟨true, 3, 1, fun _ => [.ar 1 3 0 i, .ar 1 4 0 0, .ar 1 5 0 0]⟩), (3, iOb i (fun _ => k)), (4, iOb 0 (fun _ => 0)), (5, iOb 0 (fun _ => 0))], 6⟩
def SR (g : Nat → T_Bar) (nb N m i : Nat) (F T Q : Nat → Int) : St :=
  ⟨[grG g nb N, .pt 2 0 0 0, .p .any, .pt 3 1 0 0, .p .any, .p (.int .i64 m), .p (.int .i64 i)] ++ List.replicate 77 anyA,
   [(0, bxG g nb N), (1, bxP N m 2), (2, iOb N F), (3, iOb m T), (4, iOb m Q)], 5⟩

theorem qHz (g : Nat → T_Bar) (nb N m : Nat) (F T Q : Nat → Int) (a b want : Int) :
    pieceOb Try.prog 0 [.reg [oT, oT, oT, oT], .reg [oT, ⟨true, (some ⟨[], [], 1, pebR N m F T Q, pebO N m 0⟩), none⟩, oT, oT], .head] [.code (bodyOf Try.f138)] (start Try.f138 [] 0 [grG g nb N, pebD N m F T Q, .p (.int .i64 a), .p (.int .i64 b), .p (.int .i64 want)]) [0, 32, 64, 192, 160, 161, 162] 1 (SH g nb N m F T F T Q a b want) =
    some ([.code (cAt (bodyOf Try.f138) [1, 1, 0, 0, 0]), .inLoop (cAt (bodyOf Try.f138) [1, 1, 0, 0, 0]), .inBlock 0, .code (cAt (bodyOf Try.f138) [1, 1, 1])], [((0 : Nat) < 1),
  Con (Try.prog) 156 0 [] [.agg [.p (.seq true 1 (N) (fun i => [.int .i64 (F i)])), .p (.seq true 1 (m) (fun i => [.int .i64 (T i)])), .p (.seq true 1 (m) (fun i => [.int .i64 (Q i)]))]] [(0, ⟨false, 1, (N), (fun i => [.p (.int .i64 (F i))])⟩), (1, ⟨false, 1, (m), (fun i => [.p (.int .i64 (T i))])⟩), (2, ⟨false, 1, (m), (fun i => [.p (.int .i64 (Q i))])⟩)] (.agg [.ar 1 0 0 (N), .ar 1 1 0 (m), .ar 1 2 0 (m)]),
  ((0 : Nat) < 1),
  (((true) = true) → ((1 : Nat) = 1)),
  ((((↑N : Int)) : Int) = ((↑N : Int))),
  (((nb) : Nat) = (nb)),
  (∀ i : Nat, ((((i) : Nat) < (nb)) → (([.int .i64 ((g i).fst), .int .i64 ((g i).snd.fst)] : List PV) = [.int .i64 ((g i).fst), .int .i64 ((g i).snd.fst)]))),
  (((N) : Nat) = (N)),
  (∀ i : Nat, ((((i) : Nat) < (N)) → (([.int .i64 (F i)] : List PV) = [.int .i64 (F i)]))),
  (((m) : Nat) = (m)),
  (∀ i : Nat, ((((i) : Nat) < (m)) → (([.int .i64 (T i)] : List PV) = [.int .i64 (T i)]))),
  (((m) : Nat) = (m)),
  (∀ i : Nat, ((((i) : Nat) < (m)) → (([.int .i64 (Q i)] : List PV) = [.int .i64 (Q i)]))),
  (((a) : Int) = (a)),
  (((b) : Int) = (b)),
  (((want) : Int) = (want)),
  ((0 : Nat) = 0),
  ((0 : Nat) = 0),
  ((0 : Nat) = 0),
  ((0 : Nat) = 0),
  ((([AV.p (PV.int IntKind.i64 (↑N : Int)), brL g nb].length) : Nat) = 2),
  ((1 : Nat) ≤ 1),
  ((1 : Nat) ≤ 1),
  ((((↑N : Int)) : Int) = ((↑N : Int))),
  (((nb) : Nat) = (nb)),
  (∀ i : Nat, ((((i) : Nat) < (nb)) → (([.int .i64 ((g i).fst), .int .i64 ((g i).snd.fst)] : List PV) = [.int .i64 ((g i).fst), .int .i64 ((g i).snd.fst)]))),
  ((([inD N F, inD m T, inD m Q].length) : Nat) = 3),
  ((1 : Nat) ≤ 1),
  ((1 : Nat) ≤ 1),
  (((N) : Nat) = (N)),
  (∀ i : Nat, ((((i) : Nat) < (N)) → (([.int .i64 (F i)] : List PV) = [.int .i64 (F i)]))),
  (((m) : Nat) = (m)),
  (∀ i : Nat, ((((i) : Nat) < (m)) → (([.int .i64 (T i)] : List PV) = [.int .i64 (T i)]))),
  (((m) : Nat) = (m)),
  (∀ i : Nat, ((((i) : Nat) < (m)) → (([.int .i64 (Q i)] : List PV) = [.int .i64 (Q i)]))),
  ((((List.map (fun v => AV.p (absV v)) [Value.slice none 0 0, Value.slice none 0 0, Value.slice none 0 0]).length) : Nat) = 3),
  ((1 : Nat) ≤ 1),
  ((1 : Nat) ≤ 1),
  ((((List.map (fun v => AV.p (absV v)) [Value.slice none 0 0, Value.slice none 0 0, Value.slice none 0 0]).length) : Nat) = 3),
  ((1 : Nat) ≤ 1),
  ((1 : Nat) ≤ 1),
  ((0 : Nat) = 0),
  (((N) : Nat) = (N)),
  ((0 : Nat) = 0),
  (((m) : Nat) = (m)),
  ((0 : Nat) = 0),
  (((m) : Nat) = (m)),
  ((1 : Nat) = 1),
  (((N) : Nat) ≤ (N)),
  (∀ i : Nat, ((((i) : Nat) < (N)) → (All [] ∧ (([.p (.int .i64 (F i))] : List AV) = [.p (.int .i64 (F i))])))),
  ((1 : Nat) = 1),
  (((m) : Nat) ≤ (m)),
  (∀ i : Nat, ((((i) : Nat) < (m)) → (All [] ∧ (([.p (.int .i64 (T i))] : List AV) = [.p (.int .i64 (T i))])))),
  ((1 : Nat) = 1),
  (((m) : Nat) ≤ (m)),
  (∀ i : Nat, ((((i) : Nat) < (m)) → (All [] ∧ (([.p (.int .i64 (Q i))] : List AV) = [.p (.int .i64 (Q i))]))))]) := by kernel_rfl
theorem qHa (g : Nat → T_Bar) (nb N m : Nat) (F0 T0 F T Q F1 T1 : Nat → Int) (a b want : Int) :
    pieceOb Try.prog 0 [.reg [oT, oT, oT, oT, oT, oT, oT, oT, oT, oT, oT, oT, oT], .dec true, .reg [oT, oT, oT, oT, ⟨true, (some ⟨[4, 5, 6], [], 1, pebR3 N m F T Q F1 T1 Q, .tup [pebO N m 3, .p (.bool true)]⟩), none⟩, oT, oT, oT, oT, oT, oT], .reg [oT, oT], .dec false, .reg [oT, oT], .dec false, .reg [oT, oT], .head] [.code (cAt (bodyOf Try.f138) [1, 1, 0, 0, 0]), .inLoop (cAt (bodyOf Try.f138) [1, 1, 0, 0, 0]), .inBlock 0, .code (cAt (bodyOf Try.f138) [1, 1, 1])] (SH g nb N m F0 T0 F T Q a b want) [0, 1, 2, 3, 551, 552, 553] 1 (SH g nb N m F0 T0 F1 T1 Q a b want) =
    some ([.code (cAt (bodyOf Try.f138) [1, 1, 0, 0, 0]), .inLoop (cAt (bodyOf Try.f138) [1, 1, 0, 0, 0]), .inBlock 0, .code (cAt (bodyOf Try.f138) [1, 1, 1])], [((0 : Nat) < 1),
  ((0 : Int) ≤ (a)),
  (((a) : Int) < ((↑N : Int))),
  (((a.toNat) : Nat) < (N)),
  ((0 : Nat) < 1),
  ((0 : Int) ≤ (b)),
  (((b) : Int) < ((↑N : Int))),
  (((b.toNat) : Nat) < (N)),
  (((-9223372036854775808) : Int) ≤ (F a.toNat + F b.toNat)),
  (((F a.toNat + F b.toNat) : Int) ≤ 9223372036854775807),
  ((decide (F (a.toNat + 0) + F (b.toNat + 0) < want)) = true),
  ((0 : Nat) < 1),
  ((0 : Nat) < 1),
  (∀ i : Nat, ((((i) : Nat) < (N)) → All [])),
  (∀ i : Nat, ((((i) : Nat) < (m)) → All [])),
  (∀ i : Nat, ((((i) : Nat) < (m)) → All [])),
  Con (Try.prog) 157 3 [(0, ⟨false, 1, (N), (fun i => [.p (.int .i64 (F i))])⟩), (1, ⟨false, 1, (m), (fun i => [.p (.int .i64 (T i))])⟩), (2, ⟨false, 1, (m), (fun i => [.p (.int .i64 (Q i))])⟩)] [.agg [.p (.int .i64 ((↑N : Int))), .p (.seq true 2 (nb) (fun i => [.int .i64 ((g i).fst), .int .i64 ((g i).snd.fst)]))], .agg [.ar 1 0 0 (N), .ar 1 1 0 (m), .ar 1 2 0 (m)], .p (.int .i64 (a)), .p (.int .i64 (b))] [(0, ⟨false, 1, (N), (fun i => [.p (.int .i64 (F i))])⟩), (1, ⟨false, 1, (m), (fun i => [.p (.int .i64 (T i))])⟩), (2, ⟨false, 1, (m), (fun i => [.p (.int .i64 (Q i))])⟩), (3, ⟨false, 1, (N), (fun i => [.p (.int .i64 (F1 i))])⟩), (4, ⟨false, 1, (m), (fun i => [.p (.int .i64 (T1 i))])⟩), (5, ⟨false, 1, (m), (fun i => [.p (.int .i64 (Q i))])⟩)] (.tup [.agg [.ar 1 3 0 (N), .ar 1 4 0 (m), .ar 1 5 0 (m)], .p (.bool true)]),
  ((0 : Nat) < 1),
  (((true) = true) → ((1 : Nat) = 1)),
  ((!true) = false),
  ((!true) = false),
  ((0 : Nat) < 1),
  ((0 : Nat) < 1),
  (((true) = true) → ((1 : Nat) = 1)),
  ((((↑N : Int)) : Int) = ((↑N : Int))),
  (((nb) : Nat) = (nb)),
  (∀ i : Nat, ((((i) : Nat) < (nb)) → (([.int .i64 ((g i).fst), .int .i64 ((g i).snd.fst)] : List PV) = [.int .i64 ((g i).fst), .int .i64 ((g i).snd.fst)]))),
  (((N) : Nat) = (N)),
  (∀ i : Nat, ((((i) : Nat) < (N)) → (([.int .i64 (F0 i)] : List PV) = [.int .i64 (F0 i)]))),
  (((m) : Nat) = (m)),
  (∀ i : Nat, ((((i) : Nat) < (m)) → (([.int .i64 (T0 i)] : List PV) = [.int .i64 (T0 i)]))),
  (((m) : Nat) = (m)),
  (∀ i : Nat, ((((i) : Nat) < (m)) → (([.int .i64 (Q i)] : List PV) = [.int .i64 (Q i)]))),
  (((a) : Int) = (a)),
  (((b) : Int) = (b)),
  (((want) : Int) = (want)),
  ((0 : Nat) = 0),
  ((0 : Nat) = 0),
  ((0 : Nat) = 0),
  ((0 : Nat) = 0),
  ((2 : Nat) = 2),
  ((1 : Nat) ≤ 1),
  ((1 : Nat) ≤ 1),
  ((((↑N : Int)) : Int) = ((↑N : Int))),
  (((nb) : Nat) = (nb)),
  (∀ i : Nat, ((((i) : Nat) < (nb)) → (([.int .i64 ((g i).fst), .int .i64 ((g i).snd.fst)] : List PV) = [.int .i64 ((g i).fst), .int .i64 ((g i).snd.fst)]))),
  ((3 : Nat) = 3),
  ((1 : Nat) ≤ 1),
  ((1 : Nat) ≤ 1),
  (((N) : Nat) = (N)),
  (∀ i : Nat, ((((i) : Nat) < (N)) → (([.int .i64 (F0 i)] : List PV) = [.int .i64 (F0 i)]))),
  (((m) : Nat) = (m)),
  (∀ i : Nat, ((((i) : Nat) < (m)) → (([.int .i64 (T0 i)] : List PV) = [.int .i64 (T0 i)]))),
  (((m) : Nat) = (m)),
  (∀ i : Nat, ((((i) : Nat) < (m)) → (([.int .i64 (Q i)] : List PV) = [.int .i64 (Q i)]))),
  ((3 : Nat) = 3),
  ((1 : Nat) ≤ 1),
  ((1 : Nat) ≤ 1),
  ((3 : Nat) = 3),
  ((1 : Nat) ≤ 1),
  ((1 : Nat) ≤ 1),
  ((0 : Nat) = 0),
  (((N) : Nat) = (N)),
  ((0 : Nat) = 0),
  (((m) : Nat) = (m)),
  ((0 : Nat) = 0),
  (((m) : Nat) = (m)),
  ((1 : Nat) = 1),
  (((N) : Nat) ≤ (N)),
  (∀ i : Nat, ((((i) : Nat) < (N)) → (All [] ∧ (([.p (.int .i64 (F1 i))] : List AV) = [.p (.int .i64 (F1 i))])))),
  ((1 : Nat) = 1),
  (((m) : Nat) ≤ (m)),
  (∀ i : Nat, ((((i) : Nat) < (m)) → (All [] ∧ (([.p (.int .i64 (T1 i))] : List AV) = [.p (.int .i64 (T1 i))])))),
  ((1 : Nat) = 1),
  (((m) : Nat) ≤ (m)),
  (∀ i : Nat, ((((i) : Nat) < (m)) → (All [] ∧ (([.p (.int .i64 (Q i))] : List AV) = [.p (.int .i64 (Q i))]))))]) := by kernel_rfl
theorem qHb (g : Nat → T_Bar) (nb N m : Nat) (F0 T0 F T Q F1 T1 : Nat → Int) (a b want : Int) :
    pieceOb Try.prog 0 [.reg [oT, oT, oT, oT, oT, oT, oT, oT, oT, oT, oT, oT, oT], .dec true, .reg [oT, oT, oT, oT, ⟨true, (some ⟨[4, 5, 6], [], 1, pebR N m F T Q, .tup [pebO N m 0, .p (.bool false)]⟩), none⟩, oT, oT, oT, oT, oT, oT], .reg [oT, oT], .dec true, .reg [oT, oT, oT, oT, ⟨true, (some ⟨[4, 5, 6], [], 1, pebR3 N m F T Q F1 T1 Q, .tup [pebO N m 3, .p (.bool true)]⟩), none⟩, oT, oT, oT, oT, oT], .reg [oT, oT], .dec false, .reg [oT, oT], .head] [.code (cAt (bodyOf Try.f138) [1, 1, 0, 0, 0]), .inLoop (cAt (bodyOf Try.f138) [1, 1, 0, 0, 0]), .inBlock 0, .code (cAt (bodyOf Try.f138) [1, 1, 1])] (SH g nb N m F0 T0 F T Q a b want) [0, 1, 2, 3, 967, 968, 969] 1 (SH g nb N m F0 T0 F1 T1 Q a b want) =
    some ([.code (cAt (bodyOf Try.f138) [1, 1, 0, 0, 0]), .inLoop (cAt (bodyOf Try.f138) [1, 1, 0, 0, 0]), .inBlock 0, .code (cAt (bodyOf Try.f138) [1, 1, 1])], [((0 : Nat) < 1),
  ((0 : Int) ≤ (a)),
  (((a) : Int) < ((↑N : Int))),
  (((a.toNat) : Nat) < (N)),
  ((0 : Nat) < 1),
  ((0 : Int) ≤ (b)),
  (((b) : Int) < ((↑N : Int))),
  (((b.toNat) : Nat) < (N)),
  (((-9223372036854775808) : Int) ≤ (F a.toNat + F b.toNat)),
  (((F a.toNat + F b.toNat) : Int) ≤ 9223372036854775807),
  ((decide (F (a.toNat + 0) + F (b.toNat + 0) < want)) = true),
  ((0 : Nat) < 1),
  ((0 : Nat) < 1),
  (∀ i : Nat, ((((i) : Nat) < (N)) → All [])),
  (∀ i : Nat, ((((i) : Nat) < (m)) → All [])),
  (∀ i : Nat, ((((i) : Nat) < (m)) → All [])),
  Con (Try.prog) 157 3 [(0, ⟨false, 1, (N), (fun i => [.p (.int .i64 (F i))])⟩), (1, ⟨false, 1, (m), (fun i => [.p (.int .i64 (T i))])⟩), (2, ⟨false, 1, (m), (fun i => [.p (.int .i64 (Q i))])⟩)] [.agg [.p (.int .i64 ((↑N : Int))), .p (.seq true 2 (nb) (fun i => [.int .i64 ((g i).fst), .int .i64 ((g i).snd.fst)]))], .agg [.ar 1 0 0 (N), .ar 1 1 0 (m), .ar 1 2 0 (m)], .p (.int .i64 (a)), .p (.int .i64 (b))] [(0, ⟨false, 1, (N), (fun i => [.p (.int .i64 (F i))])⟩), (1, ⟨false, 1, (m), (fun i => [.p (.int .i64 (T i))])⟩), (2, ⟨false, 1, (m), (fun i => [.p (.int .i64 (Q i))])⟩)] (.tup [.agg [.ar 1 0 0 (N), .ar 1 1 0 (m), .ar 1 2 0 (m)], .p (.bool false)]),
  ((0 : Nat) < 1),
  (((true) = true) → ((1 : Nat) = 1)),
  ((!false) = true),
  ((0 : Nat) < 1),
  ((0 : Nat) < 1),
  (∀ i : Nat, ((((i) : Nat) < (N)) → All [])),
  (∀ i : Nat, ((((i) : Nat) < (m)) → All [])),
  (∀ i : Nat, ((((i) : Nat) < (m)) → All [])),
  Con (Try.prog) 157 3 [(0, ⟨false, 1, (N), (fun i => [.p (.int .i64 (F i))])⟩), (1, ⟨false, 1, (m), (fun i => [.p (.int .i64 (T i))])⟩), (2, ⟨false, 1, (m), (fun i => [.p (.int .i64 (Q i))])⟩)] [.agg [.p (.int .i64 ((↑N : Int))), .p (.seq true 2 (nb) (fun i => [.int .i64 ((g i).fst), .int .i64 ((g i).snd.fst)]))], .agg [.ar 1 0 0 (N), .ar 1 1 0 (m), .ar 1 2 0 (m)], .p (.int .i64 (b)), .p (.int .i64 (a))] [(0, ⟨false, 1, (N), (fun i => [.p (.int .i64 (F i))])⟩), (1, ⟨false, 1, (m), (fun i => [.p (.int .i64 (T i))])⟩), (2, ⟨false, 1, (m), (fun i => [.p (.int .i64 (Q i))])⟩), (3, ⟨false, 1, (N), (fun i => [.p (.int .i64 (F1 i))])⟩), (4, ⟨false, 1, (m), (fun i => [.p (.int .i64 (T1 i))])⟩), (5, ⟨false, 1, (m), (fun i => [.p (.int .i64 (Q i))])⟩)] (.tup [.agg [.ar 1 3 0 (N), .ar 1 4 0 (m), .ar 1 5 0 (m)], .p (.bool true)]),
  ((0 : Nat) < 1),
  (((true) = true) → ((1 : Nat) = 1)),
  ((!true) = false),
  ((0 : Nat) < 1),
  ((0 : Nat) < 1),
  (((true) = true) → ((1 : Nat) = 1)),
  ((((↑N : Int)) : Int) = ((↑N : Int))),
  (((nb) : Nat) = (nb)),
  (∀ i : Nat, ((((i) : Nat) < (nb)) → (([.int .i64 ((g i).fst), .int .i64 ((g i).snd.fst)] : List PV) = [.int .i64 ((g i).fst), .int .i64 ((g i).snd.fst)]))),
  (((N) : Nat) = (N)),
  (∀ i : Nat, ((((i) : Nat) < (N)) → (([.int .i64 (F0 i)] : List PV) = [.int .i64 (F0 i)]))),
  (((m) : Nat) = (m)),
  (∀ i : Nat, ((((i) : Nat) < (m)) → (([.int .i64 (T0 i)] : List PV) = [.int .i64 (T0 i)]))),
  (((m) : Nat) = (m)),
  (∀ i : Nat, ((((i) : Nat) < (m)) → (([.int .i64 (Q i)] : List PV) = [.int .i64 (Q i)]))),
  (((a) : Int) = (a)),
  (((b) : Int) = (b)),
  (((want) : Int) = (want)),
  ((0 : Nat) = 0),
  ((0 : Nat) = 0),
  ((0 : Nat) = 0),
  ((0 : Nat) = 0),
  ((2 : Nat) = 2),
  ((1 : Nat) ≤ 1),
  ((1 : Nat) ≤ 1),
  ((((↑N : Int)) : Int) = ((↑N : Int))),
  (((nb) : Nat) = (nb)),
  (∀ i : Nat, ((((i) : Nat) < (nb)) → (([.int .i64 ((g i).fst), .int .i64 ((g i).snd.fst)] : List PV) = [.int .i64 ((g i).fst), .int .i64 ((g i).snd.fst)]))),
  ((3 : Nat) = 3),
  ((1 : Nat) ≤ 1),
  ((1 : Nat) ≤ 1),
  (((N) : Nat) = (N)),
  (∀ i : Nat, ((((i) : Nat) < (N)) → (([.int .i64 (F0 i)] : List PV) = [.int .i64 (F0 i)]))),
  (((m) : Nat) = (m)),
  (∀ i : Nat, ((((i) : Nat) < (m)) → (([.int .i64 (T0 i)] : List PV) = [.int .i64 (T0 i)]))),
  (((m) : Nat) = (m)),
  (∀ i : Nat, ((((i) : Nat) < (m)) → (([.int .i64 (Q i)] : List PV) = [.int .i64 (Q i)]))),
  ((3 : Nat) = 3),
  ((1 : Nat) ≤ 1),
  ((1 : Nat) ≤ 1),
  ((3 : Nat) = 3),
  ((1 : Nat) ≤ 1),
  ((1 : Nat) ≤ 1),
  ((0 : Nat) = 0),
  (((N) : Nat) = (N)),
  ((0 : Nat) = 0),
  (((m) : Nat) = (m)),
  ((0 : Nat) = 0),
  (((m) : Nat) = (m)),
  ((1 : Nat) = 1),
  (((N) : Nat) ≤ (N)),
  (∀ i : Nat, ((((i) : Nat) < (N)) → (All [] ∧ (([.p (.int .i64 (F1 i))] : List AV) = [.p (.int .i64 (F1 i))])))),
  ((1 : Nat) = 1),
  (((m) : Nat) ≤ (m)),
  (∀ i : Nat, ((((i) : Nat) < (m)) → (All [] ∧ (([.p (.int .i64 (T1 i))] : List AV) = [.p (.int .i64 (T1 i))])))),
  ((1 : Nat) = 1),
  (((m) : Nat) ≤ (m)),
  (∀ i : Nat, ((((i) : Nat) < (m)) → (All [] ∧ (([.p (.int .i64 (Q i))] : List AV) = [.p (.int .i64 (Q i))]))))]) := by kernel_rfl
theorem qHc (g : Nat → T_Bar) (nb N m : Nat) (F0 T0 F T Q : Nat → Int) (a b want : Int) :
    pathOb Try.prog Try.f138 0 [.reg [oT, oT, oT, oT, oT, oT, oT, oT, oT, oT, oT, oT, oT], .dec true, .reg [oT, oT, oT, oT, ⟨true, (some ⟨[4, 5, 6], [], 1, pebR N m F T Q, .tup [pebO N m 0, .p (.bool false)]⟩), none⟩, oT, oT, oT, oT, oT, oT], .reg [oT, oT], .dec true, .reg [oT, oT, oT, oT, ⟨true, (some ⟨[4, 5, 6], [], 1, pebR N m F T Q, .tup [pebO N m 0, .p (.bool false)]⟩), none⟩, oT, oT, oT, oT, oT], .reg [oT, oT], .dec true, .reg [oT, oT, oT]] [.code (cAt (bodyOf Try.f138) [1, 1, 0, 0, 0]), .inLoop (cAt (bodyOf Try.f138) [1, 1, 0, 0, 0]), .inBlock 0, .code (cAt (bodyOf Try.f138) [1, 1, 1])] (SH g nb N m F0 T0 F T Q a b want) [4, 5, 6] 1 (pebR N m F T Q) (.tup [pebO N m 0, .p (.bool false)]) =
    some [((0 : Nat) < 1),
  ((0 : Int) ≤ (a)),
  (((a) : Int) < ((↑N : Int))),
  (((a.toNat) : Nat) < (N)),
  ((0 : Nat) < 1),
  ((0 : Int) ≤ (b)),
  (((b) : Int) < ((↑N : Int))),
  (((b.toNat) : Nat) < (N)),
  (((-9223372036854775808) : Int) ≤ (F a.toNat + F b.toNat)),
  (((F a.toNat + F b.toNat) : Int) ≤ 9223372036854775807),
  ((decide (F (a.toNat + 0) + F (b.toNat + 0) < want)) = true),
  ((0 : Nat) < 1),
  ((0 : Nat) < 1),
  (∀ i : Nat, ((((i) : Nat) < (N)) → All [])),
  (∀ i : Nat, ((((i) : Nat) < (m)) → All [])),
  (∀ i : Nat, ((((i) : Nat) < (m)) → All [])),
  Con (Try.prog) 157 3 [(0, ⟨false, 1, (N), (fun i => [.p (.int .i64 (F i))])⟩), (1, ⟨false, 1, (m), (fun i => [.p (.int .i64 (T i))])⟩), (2, ⟨false, 1, (m), (fun i => [.p (.int .i64 (Q i))])⟩)] [.agg [.p (.int .i64 ((↑N : Int))), .p (.seq true 2 (nb) (fun i => [.int .i64 ((g i).fst), .int .i64 ((g i).snd.fst)]))], .agg [.ar 1 0 0 (N), .ar 1 1 0 (m), .ar 1 2 0 (m)], .p (.int .i64 (a)), .p (.int .i64 (b))] [(0, ⟨false, 1, (N), (fun i => [.p (.int .i64 (F i))])⟩), (1, ⟨false, 1, (m), (fun i => [.p (.int .i64 (T i))])⟩), (2, ⟨false, 1, (m), (fun i => [.p (.int .i64 (Q i))])⟩)] (.tup [.agg [.ar 1 0 0 (N), .ar 1 1 0 (m), .ar 1 2 0 (m)], .p (.bool false)]),
  ((0 : Nat) < 1),
  (((true) = true) → ((1 : Nat) = 1)),
  ((!false) = true),
  ((0 : Nat) < 1),
  ((0 : Nat) < 1),
  (∀ i : Nat, ((((i) : Nat) < (N)) → All [])),
  (∀ i : Nat, ((((i) : Nat) < (m)) → All [])),
  (∀ i : Nat, ((((i) : Nat) < (m)) → All [])),
  Con (Try.prog) 157 3 [(0, ⟨false, 1, (N), (fun i => [.p (.int .i64 (F i))])⟩), (1, ⟨false, 1, (m), (fun i => [.p (.int .i64 (T i))])⟩), (2, ⟨false, 1, (m), (fun i => [.p (.int .i64 (Q i))])⟩)] [.agg [.p (.int .i64 ((↑N : Int))), .p (.seq true 2 (nb) (fun i => [.int .i64 ((g i).fst), .int .i64 ((g i).snd.fst)]))], .agg [.ar 1 0 0 (N), .ar 1 1 0 (m), .ar 1 2 0 (m)], .p (.int .i64 (b)), .p (.int .i64 (a))] [(0, ⟨false, 1, (N), (fun i => [.p (.int .i64 (F i))])⟩), (1, ⟨false, 1, (m), (fun i => [.p (.int .i64 (T i))])⟩), (2, ⟨false, 1, (m), (fun i => [.p (.int .i64 (Q i))])⟩)] (.tup [.agg [.ar 1 0 0 (N), .ar 1 1 0 (m), .ar 1 2 0 (m)], .p (.bool false)]),
  ((0 : Nat) < 1),
  (((true) = true) → ((1 : Nat) = 1)),
  ((!false) = true),
  ((0 : Nat) < 1),
  ((0 : Nat) < 1),
  (((true) = true) → ((1 : Nat) = 1)),
  ((0 : Nat) < 1),
  ((0 : Nat) = 0),
  (((N) : Nat) = (N)),
  ((0 : Nat) = 0),
  (((m) : Nat) = (m)),
  ((0 : Nat) = 0),
  (((m) : Nat) = (m)),
  (false = false),
  ((1 : Nat) = 1),
  (((N) : Nat) ≤ (N)),
  (∀ i : Nat, ((((i) : Nat) < (N)) → (All [] ∧ (([.p (.int .i64 (F i))] : List AV) = [.p (.int .i64 (F i))])))),
  ((1 : Nat) = 1),
  (((m) : Nat) ≤ (m)),
  (∀ i : Nat, ((((i) : Nat) < (m)) → (All [] ∧ (([.p (.int .i64 (T i))] : List AV) = [.p (.int .i64 (T i))])))),
  ((1 : Nat) = 1),
  (((m) : Nat) ≤ (m)),
  (∀ i : Nat, ((((i) : Nat) < (m)) → (All [] ∧ (([.p (.int .i64 (Q i))] : List AV) = [.p (.int .i64 (Q i))])))),
  (∀ i : Nat, ((((i) : Nat) < (N)) → All [])),
  (∀ i : Nat, ((((i) : Nat) < (m)) → All [])),
  (∀ i : Nat, ((((i) : Nat) < (m)) → All []))] := by kernel_rfl
theorem qHd (g : Nat → T_Bar) (nb N m : Nat) (F0 T0 F T Q : Nat → Int) (a b want : Int) :
    pathOb Try.prog Try.f138 0 [.reg [oT, oT, oT, oT, oT, oT, oT, oT, oT, oT, oT, oT, oT], .dec false, .reg [oT, oT, oT]] [.code (cAt (bodyOf Try.f138) [1, 1, 0, 0, 0]), .inLoop (cAt (bodyOf Try.f138) [1, 1, 0, 0, 0]), .inBlock 0, .code (cAt (bodyOf Try.f138) [1, 1, 1])] (SH g nb N m F0 T0 F T Q a b want) [4, 5, 6] 1 (pebR N m F T Q) (.tup [pebO N m 0, .p (.bool true)]) =
    some [((0 : Nat) < 1),
  ((0 : Int) ≤ (a)),
  (((a) : Int) < ((↑N : Int))),
  (((a.toNat) : Nat) < (N)),
  ((0 : Nat) < 1),
  ((0 : Int) ≤ (b)),
  (((b) : Int) < ((↑N : Int))),
  (((b.toNat) : Nat) < (N)),
  (((-9223372036854775808) : Int) ≤ (F a.toNat + F b.toNat)),
  (((F a.toNat + F b.toNat) : Int) ≤ 9223372036854775807),
  ((decide (F (a.toNat + 0) + F (b.toNat + 0) < want)) = false),
  ((0 : Nat) < 1),
  ((0 : Nat) < 1),
  (((true) = true) → ((1 : Nat) = 1)),
  ((0 : Nat) < 1),
  ((0 : Nat) = 0),
  (((N) : Nat) = (N)),
  ((0 : Nat) = 0),
  (((m) : Nat) = (m)),
  ((0 : Nat) = 0),
  (((m) : Nat) = (m)),
  (true = true),
  ((1 : Nat) = 1),
  (((N) : Nat) ≤ (N)),
  (∀ i : Nat, ((((i) : Nat) < (N)) → (All [] ∧ (([.p (.int .i64 (F i))] : List AV) = [.p (.int .i64 (F i))])))),
  ((1 : Nat) = 1),
  (((m) : Nat) ≤ (m)),
  (∀ i : Nat, ((((i) : Nat) < (m)) → (All [] ∧ (([.p (.int .i64 (T i))] : List AV) = [.p (.int .i64 (T i))])))),
  ((1 : Nat) = 1),
  (((m) : Nat) ≤ (m)),
  (∀ i : Nat, ((((i) : Nat) < (m)) → (All [] ∧ (([.p (.int .i64 (Q i))] : List AV) = [.p (.int .i64 (Q i))])))),
  (∀ i : Nat, ((((i) : Nat) < (N)) → All [])),
  (∀ i : Nat, ((((i) : Nat) < (m)) → All [])),
  (∀ i : Nat, ((((i) : Nat) < (m)) → All []))] := by kernel_rfl
theorem qNz (g : Nat → T_Bar) (N k : Nat) :
    pieceOb Try.prog 0 [.reg [oT, oT, oT], .reg [oT, oT, oT, oT, oT, oT], .head] [.code (bodyOf Try.f137)] (start Try.f137 [] 0 [.agg [.p (.int .i64 N), .p .nil], .p (.int .i64 k)]) [0, 32, 224, 96, 128, 160] 1 (SNc g 0 N k) =
    some ([.code (cAt (bodyOf Try.f137) [1, 1, 0, 0]), .code (cAt (bodyOf Try.f137) [1, 1, 0, 1]), .code (cAt (bodyOf Try.f137) [1, 1, 1])], [((0 : Nat) < 1),
  (((true) = true) → ((1 : Nat) = 1)),
  ((((↑k : Int)) : Int) = ((↑k : Int))),
  ((0 : Nat) = 0),
  ((0 : Nat) = 0),
  ((0 : Nat) = 0),
  ((([AV.p (PV.int IntKind.i64 (↑N : Int)), AV.p PV.nil].length) : Nat) = 2),
  ((1 : Nat) ≤ 1),
  ((1 : Nat) ≤ 1),
  ((((↑N : Int)) : Int) = ((↑N : Int))),
  ((0 : Nat) = 0),
  ((((List.map (fun v => AV.p (absV v)) [Value.slice none 0 0, Value.slice none 0 0, Value.slice none 0 0]).length) : Nat) = 3),
  ((1 : Nat) ≤ 1),
  ((1 : Nat) ≤ 1),
  ((((List.map (fun v => AV.p (absV v)) [Value.slice none 0 0, Value.slice none 0 0, Value.slice none 0 0]).length) : Nat) = 3),
  ((1 : Nat) ≤ 1),
  ((1 : Nat) ≤ 1),
  ((0 : Nat) = 0),
  ((0 : Nat) = 0),
  ((0 : Nat) = 0),
  ((0 : Nat) = 0),
  ((0 : Nat) = 0),
  ((0 : Nat) = 0),
  ((1 : Nat) = 1),
  ((0 : Nat) ≤ 0),
  (∀ i : Nat, ((((i) : Nat) < 0) → (All [] ∧ (([.p .any] : List AV) = [.p (.int .i64 ((↑k : Int)))])))),
  ((1 : Nat) = 1),
  ((0 : Nat) ≤ 0),
  (∀ i : Nat, ((((i) : Nat) < 0) → (All [] ∧ (([.p .any] : List AV) = [.p (.int .i64 0)])))),
  ((1 : Nat) = 1),
  ((0 : Nat) ≤ 0),
  (∀ i : Nat, ((((i) : Nat) < 0) → (All [] ∧ (([.p .any] : List AV) = [.p (.int .i64 0)]))))]) := by kernel_rfl
theorem qNy (g : Nat → T_Bar) (nb N k : Nat) :
    pieceOb Try.prog 0 [.reg [oT, oT, oT], .reg [oT, oT, oT, oT, oT, oT], .head] [.code (bodyOf Try.f137)] (start Try.f137 [] 0 [grG g nb N, .p (.int .i64 k)]) [0, 32, 224, 96, 128, 160] 1 (SNc g nb N k) =
    some ([.code (cAt (bodyOf Try.f137) [1, 1, 0, 0]), .code (cAt (bodyOf Try.f137) [1, 1, 0, 1]), .code (cAt (bodyOf Try.f137) [1, 1, 1])], [((0 : Nat) < 1),
  (((true) = true) → ((1 : Nat) = 1)),
  ((((↑k : Int)) : Int) = ((↑k : Int))),
  ((0 : Nat) = 0),
  ((0 : Nat) = 0),
  ((0 : Nat) = 0),
  ((([AV.p (PV.int IntKind.i64 (↑N : Int)), brL g nb].length) : Nat) = 2),
  ((1 : Nat) ≤ 1),
  ((1 : Nat) ≤ 1),
  ((((↑N : Int)) : Int) = ((↑N : Int))),
  (((nb) : Nat) = (nb)),
  (∀ i : Nat, ((((i) : Nat) < (nb)) → (([.int .i64 ((g i).fst), .int .i64 ((g i).snd.fst)] : List PV) = [.int .i64 ((g i).fst), .int .i64 ((g i).snd.fst)]))),
  ((((List.map (fun v => AV.p (absV v)) [Value.slice none 0 0, Value.slice none 0 0, Value.slice none 0 0]).length) : Nat) = 3),
  ((1 : Nat) ≤ 1),
  ((1 : Nat) ≤ 1),
  ((((List.map (fun v => AV.p (absV v)) [Value.slice none 0 0, Value.slice none 0 0, Value.slice none 0 0]).length) : Nat) = 3),
  ((1 : Nat) ≤ 1),
  ((1 : Nat) ≤ 1),
  ((0 : Nat) = 0),
  ((0 : Nat) = 0),
  ((0 : Nat) = 0),
  ((0 : Nat) = 0),
  ((0 : Nat) = 0),
  ((0 : Nat) = 0),
  ((1 : Nat) = 1),
  ((0 : Nat) ≤ 0),
  (∀ i : Nat, ((((i) : Nat) < 0) → (All [] ∧ (([.p .any] : List AV) = [.p (.int .i64 ((↑k : Int)))])))),
  ((1 : Nat) = 1),
  ((0 : Nat) ≤ 0),
  (∀ i : Nat, ((((i) : Nat) < 0) → (All [] ∧ (([.p .any] : List AV) = [.p (.int .i64 0)])))),
  ((1 : Nat) = 1),
  ((0 : Nat) ≤ 0),
  (∀ i : Nat, ((((i) : Nat) < 0) → (All [] ∧ (([.p .any] : List AV) = [.p (.int .i64 0)]))))]) := by kernel_rfl
theorem qNa (g : Nat → T_Bar) (nb N k : Nat) :
    pieceOb Try.prog 0 [.reg [oT, ⟨true, (some ⟨[], [], 1, [], .p (.bool true)⟩), none⟩, oT, oT, oT, ⟨true, (some ⟨[], [], 1, [], .p (.bool true)⟩), none⟩, oT, oT], .dec false, .reg [oT], .head] [.code (cAt (bodyOf Try.f137) [1, 1, 0, 0]), .code (cAt (bodyOf Try.f137) [1, 1, 0, 1]), .code (cAt (bodyOf Try.f137) [1, 1, 1])] (SNc g nb N k) [0, 1, 2, 3, 4, 5] 1 (SN0 g nb N k 0) =
    some ([.code (cAt (bodyOf Try.f137) [1, 1, 1, 0, 1, 0, 0]), .inLoop (cAt (bodyOf Try.f137) [1, 1, 1, 0, 1, 0, 0]), .inBlock 0, .code (cAt (bodyOf Try.f137) [1, 1, 1, 1])], [((0 : Nat) < 1),
  Con (Try.prog) 73 0 [] [.agg [.p (.int .i64 ((↑N : Int))), .p (.seq true 2 (nb) (fun i => [.int .i64 ((g i).fst), .int .i64 ((g i).snd.fst)]))]] [] (.p (.bool true)),
  (((!!true) = true) → ((!!true) = true)),
  (((!!true) = true) → Con (Try.prog) 112 0 [] [.p (.int .i64 ((↑k : Int))), .p (.int .i64 1), .p (.int .i64 3)] [] (.p (.bool true))),
  (((!!true) = true) → ((!!true) = true)),
  (((!true) = false) → ((!!true) = true)),
  ((bif !true then true else !true) = false),
  ((((↑k : Int)) : Int) = ((↑k : Int))),
  ((0 : Nat) = 0),
  ((0 : Nat) = 0),
  ((0 : Nat) = 0),
  ((0 : Int) = ((↑0 : Int))),
  ((2 : Nat) = 2),
  ((1 : Nat) ≤ 1),
  ((1 : Nat) ≤ 1),
  ((((↑N : Int)) : Int) = ((↑N : Int))),
  (((nb) : Nat) = (nb)),
  (∀ i : Nat, ((((i) : Nat) < (nb)) → (([.int .i64 ((g i).fst), .int .i64 ((g i).snd.fst)] : List PV) = [.int .i64 ((g i).fst), .int .i64 ((g i).snd.fst)]))),
  ((3 : Nat) = 3),
  ((1 : Nat) ≤ 1),
  ((1 : Nat) ≤ 1),
  ((3 : Nat) = 3),
  ((1 : Nat) ≤ 1),
  ((1 : Nat) ≤ 1),
  ((0 : Nat) = 0),
  ((0 : Nat) = 0),
  ((0 : Nat) = 0),
  ((0 : Nat) = 0),
  ((0 : Nat) = 0),
  ((0 : Nat) = 0),
  ((1 : Nat) = 1),
  ((0 : Nat) ≤ 0),
  (∀ i : Nat, ((((i) : Nat) < 0) → (All [] ∧ (([.p (.int .i64 ((↑k : Int)))] : List AV) = [.p (.int .i64 ((↑k : Int)))])))),
  ((1 : Nat) = 1),
  ((0 : Nat) ≤ 0),
  (∀ i : Nat, ((((i) : Nat) < 0) → (All [] ∧ (([.p (.int .i64 0)] : List AV) = [.p (.int .i64 0)])))),
  ((1 : Nat) = 1),
  ((0 : Nat) ≤ 0),
  (∀ i : Nat, ((((i) : Nat) < 0) → (All [] ∧ (([.p (.int .i64 0)] : List AV) = [.p (.int .i64 0)]))))]) := by kernel_rfl
theorem qNl (g : Nat → T_Bar) (nb N k i : Nat) :
    pieceOb Try.prog 0 [.reg [oT, oT, oT, oT], .dec true, .reg [oT, oT, oT, oT, oT, oT, oT], .reg [oT, oT, oT], .head] [.code (cAt (bodyOf Try.f137) [1, 1, 1, 0, 1, 0, 0]), .inLoop (cAt (bodyOf Try.f137) [1, 1, 1, 0, 1, 0, 0]), .inBlock 0, .code (cAt (bodyOf Try.f137) [1, 1, 1, 1])] (SN0 g nb N k i) [0, 1, 2, 262, 4, 5] 1 (SN0 g nb N k (i + 1)) =
    some ([.code (cAt (bodyOf Try.f137) [1, 1, 1, 0, 1, 0, 0]), .inLoop (cAt (bodyOf Try.f137) [1, 1, 1, 0, 1, 0, 0]), .inBlock 0, .code (cAt (bodyOf Try.f137) [1, 1, 1, 1])], [((0 : Nat) < 1),
  ((decide ((↑i : Int) < (↑N : Int))) = true),
  ((0 : Nat) < 1),
  ((1 : Nat) ≤ 1),
  (((i) : Nat) ≤ (i)),
  ((((i + 1) * 8) : Nat) ≤ 140737488355328),
  (((i + 1) : Nat) ≤ 9223372036854775807),
  ((0 : Nat) < 1),
  (((true) = true) → ((1 : Nat) = 1)),
  (((-9223372036854775808) : Int) ≤ ((↑i : Int) + 1)),
  ((((↑i : Int) + 1) : Int) ≤ 9223372036854775807),
  ((((↑k : Int)) : Int) = ((↑k : Int))),
  ((0 : Nat) = 0),
  ((0 : Nat) = 0),
  ((0 : Nat) = 0),
  ((((↑i : Int) + 1) : Int) = ((↑(i + 1) : Int))),
  ((2 : Nat) = 2),
  ((1 : Nat) ≤ 1),
  ((1 : Nat) ≤ 1),
  ((((↑N : Int)) : Int) = ((↑N : Int))),
  (((nb) : Nat) = (nb)),
  (∀ i_1 : Nat, ((((i_1) : Nat) < (nb)) → (([.int .i64 ((g i_1).fst), .int .i64 ((g i_1).snd.fst)] : List PV) = [.int .i64 ((g i_1).fst), .int .i64 ((g i_1).snd.fst)]))),
  ((3 : Nat) = 3),
  ((1 : Nat) ≤ 1),
  ((1 : Nat) ≤ 1),
  ((3 : Nat) = 3),
  ((1 : Nat) ≤ 1),
  ((1 : Nat) ≤ 1),
  ((0 : Nat) = 0),
  (((i + 1) : Nat) = (i + 1)),
  ((0 : Nat) = 0),
  ((0 : Nat) = 0),
  ((0 : Nat) = 0),
  ((0 : Nat) = 0),
  ((1 : Nat) = 1),
  (((i + 1) : Nat) ≤ (i + 1)),
  (∀ i_1 : Nat, ((((i_1) : Nat) < (i + 1)) → (All (cvtL false [(2, ⟨true, 3, 1, (fun i_2 => [.ar 1 262 0 (i + 1), .ar 1 4 0 0, .ar 1 5 0 0])⟩), (262, ⟨false, 1, (i + 1), (fun i_2 => (if (i_2 < i) then [.p (.int .i64 ((↑k : Int)))] else [.p (.int .i64 ((↑k : Int)))]))⟩), (230, ⟨false, 1, 1, (fun i_2 => [.p (.int .i64 ((↑k : Int)))])⟩), (0, ⟨true, 2, 1, (fun i_2 => [.p (.int .i64 ((↑N : Int))), .p (.seq true 2 (nb) (fun i_3 => [.int .i64 ((g i_3).fst), .int .i64 ((g i_3).snd.fst)]))])⟩), (1, ⟨true, 3, 1, (fun i_2 => [.p (.nil), .p (.nil), .p (.nil)])⟩), (4, ⟨false, 1, 0, (fun i_2 => [.p (.int .i64 0)])⟩), (5, ⟨false, 1, 0, (fun i_2 => [.p (.int .i64 0)])⟩)] [0, 1, 2, 262, 4, 5] 1 (if (i_1 < i) then [.p (.int .i64 ((↑k : Int)))] else [.p (.int .i64 ((↑k : Int)))])).2 ∧ (((cvtL false [(2, ⟨true, 3, 1, (fun i_2 => [.ar 1 262 0 (i + 1), .ar 1 4 0 0, .ar 1 5 0 0])⟩), (262, ⟨false, 1, (i + 1), (fun i_2 => (if (i_2 < i) then [.p (.int .i64 ((↑k : Int)))] else [.p (.int .i64 ((↑k : Int)))]))⟩), (230, ⟨false, 1, 1, (fun i_2 => [.p (.int .i64 ((↑k : Int)))])⟩), (0, ⟨true, 2, 1, (fun i_2 => [.p (.int .i64 ((↑N : Int))), .p (.seq true 2 (nb) (fun i_3 => [.int .i64 ((g i_3).fst), .int .i64 ((g i_3).snd.fst)]))])⟩), (1, ⟨true, 3, 1, (fun i_2 => [.p (.nil), .p (.nil), .p (.nil)])⟩), (4, ⟨false, 1, 0, (fun i_2 => [.p (.int .i64 0)])⟩), (5, ⟨false, 1, 0, (fun i_2 => [.p (.int .i64 0)])⟩)] [0, 1, 2, 262, 4, 5] 1 (if (i_1 < i) then [.p (.int .i64 ((↑k : Int)))] else [.p (.int .i64 ((↑k : Int)))])).1 : List AV) = [.p (.int .i64 ((↑k : Int)))])))),
  ((1 : Nat) = 1),
  ((0 : Nat) ≤ 0),
  (∀ i_1 : Nat, ((((i_1) : Nat) < 0) → (All [] ∧ (([.p (.int .i64 0)] : List AV) = [.p (.int .i64 0)])))),
  ((1 : Nat) = 1),
  ((0 : Nat) ≤ 0),
  (∀ i_1 : Nat, ((((i_1) : Nat) < 0) → (All [] ∧ (([.p (.int .i64 0)] : List AV) = [.p (.int .i64 0)]))))]) := by kernel_rfl
theorem qNe (g : Nat → T_Bar) (nb N k i : Nat) :
    pathOb Try.prog Try.f137 0 [.reg [oT, oT, oT, oT], .dec false, .reg [oT, oT, oT]] [.code (cAt (bodyOf Try.f137) [1, 1, 1, 0, 1, 0, 0]), .inLoop (cAt (bodyOf Try.f137) [1, 1, 1, 0, 1, 0, 0]), .inBlock 0, .code (cAt (bodyOf Try.f137) [1, 1, 1, 1])] (SN0 g nb N k i) [3, 4, 5] 1 (pebR i 0 (fun _ => k) (fun _ => 0) (fun _ => 0)) (.tup [pebO i 0 0, .p (.bool true)]) =
    some [((0 : Nat) < 1),
  ((decide ((↑i : Int) < (↑N : Int))) = false),
  ((0 : Nat) < 1),
  ((0 : Nat) < 1),
  (((true) = true) → ((1 : Nat) = 1)),
  ((0 : Nat) < 1),
  ((0 : Nat) = 0),
  (((i) : Nat) = (i)),
  ((0 : Nat) = 0),
  ((0 : Nat) = 0),
  ((0 : Nat) = 0),
  ((0 : Nat) = 0),
  (true = true),
  ((1 : Nat) = 1),
  (((i) : Nat) ≤ (i)),
  (∀ i_1 : Nat, ((((i_1) : Nat) < (i)) → (All [] ∧ (([.p (.int .i64 ((↑k : Int)))] : List AV) = [.p (.int .i64 ((↑k : Int)))])))),
  ((1 : Nat) = 1),
  ((0 : Nat) ≤ 0),
  (∀ i_1 : Nat, ((((i_1) : Nat) < 0) → (All [] ∧ (([.p (.int .i64 0)] : List AV) = [.p (.int .i64 0)])))),
  ((1 : Nat) = 1),
  ((0 : Nat) ≤ 0),
  (∀ i_1 : Nat, ((((i_1) : Nat) < 0) → (All [] ∧ (([.p (.int .i64 0)] : List AV) = [.p (.int .i64 0)])))),
  (∀ i_1 : Nat, ((((i_1) : Nat) < (i)) → All [])),
  (∀ i_1 : Nat, ((((i_1) : Nat) < 0) → All [])),
  (∀ i_1 : Nat, ((((i_1) : Nat) < 0) → All []))] := by kernel_rfl
theorem qRz (g : Nat → T_Bar) (nb N : Nat) :
    pieceOb Try.prog 0 [.reg [oT, oT], .reg [oT, oT, oT, ⟨true, (some ⟨[], [], 1, pebR N 0 (fun _ => ((2 : Nat) : Int)) (fun _ => 0) (fun _ => 0), .tup [pebO N 0 0, .p (.bool true)]⟩), none⟩, oT, oT, oT, oT, oT, oT], .reg [oT], .reg [oT], .head] [.code (bodyOf Try.f127)] (start Try.f127 [] 0 [grG g nb N]) [0, 288, 160, 161, 162] 1 (SR g nb N 0 0 (fun _ => ((2 : Nat) : Int)) (fun _ => 0) (fun _ => 0)) =
    some ([.code (cAt (bodyOf Try.f127) [1, 1, 1, 0, 1, 0, 0]), .inLoop (cAt (bodyOf Try.f127) [1, 1, 1, 0, 1, 0, 0]), .inBlock 0, .code (cAt (bodyOf Try.f127) [1, 1, 1, 1])], [((0 : Nat) < 1),
  Con (Try.prog) 137 0 [] [.agg [.p (.int .i64 ((↑N : Int))), .p (.nil)], .p (.int .i64 2)] [(0, ⟨false, 1, (N), (fun i => [.p (.int .i64 2)])⟩), (1, ⟨false, 1, 0, (fun i => [.p (.int .i64 0)])⟩), (2, ⟨false, 1, 0, (fun i => [.p (.int .i64 0)])⟩)] (.tup [.agg [.ar 1 0 0 (N), .ar 1 1 0 0, .ar 1 2 0 0], .p (.bool true)]),
  ((0 : Nat) < 1),
  (((true) = true) → ((1 : Nat) = 1)),
  ((((↑N : Int)) : Int) = ((↑N : Int))),
  (((nb) : Nat) = (nb)),
  (∀ i : Nat, ((((i) : Nat) < (nb)) → (([.int .i64 ((g i).fst), .int .i64 ((g i).snd.fst)] : List PV) = [.int .i64 ((g i).fst), .int .i64 ((g i).snd.fst)]))),
  ((0 : Nat) = 0),
  ((0 : Nat) = 0),
  ((0 : Int) = ((↑0 : Int))),
  ((0 : Int) = ((↑0 : Int))),
  ((([AV.p (PV.int IntKind.i64 (↑N : Int)), brL g nb].length) : Nat) = 2),
  ((1 : Nat) ≤ 1),
  ((1 : Nat) ≤ 1),
  ((((↑N : Int)) : Int) = ((↑N : Int))),
  (((nb) : Nat) = (nb)),
  (∀ i : Nat, ((((i) : Nat) < (nb)) → (([.int .i64 ((g i).fst), .int .i64 ((g i).snd.fst)] : List PV) = [.int .i64 ((g i).fst), .int .i64 ((g i).snd.fst)]))),
  ((((List.map (fun v => AV.p (absV v)) [Value.slice none 0 0, Value.slice none 0 0, Value.slice none 0 0]).length) : Nat) = 3),
  ((1 : Nat) ≤ 1),
  ((1 : Nat) ≤ 1),
  ((0 : Nat) = 0),
  (((N) : Nat) = (N)),
  ((0 : Nat) = 0),
  ((0 : Nat) = 0),
  ((0 : Nat) = 0),
  ((0 : Nat) = 0),
  ((1 : Nat) = 1),
  (((N) : Nat) ≤ (N)),
  (∀ i : Nat, ((((i) : Nat) < (N)) → (All [] ∧ (([.p (.int .i64 2)] : List AV) = [.p (.int .i64 2)])))),
  ((1 : Nat) = 1),
  ((0 : Nat) ≤ 0),
  (∀ i : Nat, ((((i) : Nat) < 0) → (All [] ∧ (([.p (.int .i64 0)] : List AV) = [.p (.int .i64 0)])))),
  ((1 : Nat) = 1),
  ((0 : Nat) ≤ 0),
  (∀ i : Nat, ((((i) : Nat) < 0) → (All [] ∧ (([.p (.int .i64 0)] : List AV) = [.p (.int .i64 0)]))))]) := by kernel_rfl
theorem qRa (g : Nat → T_Bar) (nb N m i : Nat) (F T Q F1 T1 : Nat → Int) :
    pieceOb Try.prog 0 [.reg [oT, oT, oT, oT, oT], .dec true, .reg [oT, oT, oT, oT, oT, oT, oT, oT, oT, oT, oT, oT, oT, oT, ⟨true, (some ⟨[], [], 1, pebR N m F1 T1 Q, .tup [pebO N m 0, .p (.bool true)]⟩), none⟩, oT, oT, oT, oT, oT, oT], .reg [oT, oT], .dec false, .reg [oT, oT, oT, oT, oT, oT, oT, oT, oT, oT, oT, oT, oT, oT, oT, oT, oT, oT, oT, oT, oT], .reg [oT, oT, oT, oT, oT, oT, oT, oT, oT, oT, oT, oT], .reg [oT, oT, oT, oT, oT, oT, oT], .reg [oT, oT], .reg [oT, oT, oT], .reg [oT, oT, oT], .head] [.code (cAt (bodyOf Try.f127) [1, 1, 1, 0, 1, 0, 0]), .inLoop (cAt (bodyOf Try.f127) [1, 1, 1, 0, 1, 0, 0]), .inBlock 0, .code (cAt (bodyOf Try.f127) [1, 1, 1, 1])] (SR g nb N m i F T Q) [0, 1, 613, 1861, 2085] 1 (SR g nb N (m + 1) (i + 1) (fun s => if s = (g i).1.toNat then F1 s - 1 else F1 s) (fun s => if s < m then T1 s else (g i).1) (fun s => if s < m then Q s else i)) =
    some ([.code (cAt (bodyOf Try.f127) [1, 1, 1, 0, 1, 0, 0]), .inLoop (cAt (bodyOf Try.f127) [1, 1, 1, 0, 1, 0, 0]), .inBlock 0, .code (cAt (bodyOf Try.f127) [1, 1, 1, 1])], [((0 : Nat) < 1),
  ((decide ((↑i : Int) < (↑nb : Int))) = true),
  ((0 : Nat) < 1),
  ((0 : Nat) < 1),
  ((0 : Nat) < 1),
  ((0 : Int) ≤ ((↑i : Int))),
  ((((↑i : Int)) : Int) < ((↑nb : Int))),
  ((0 : Nat) < 1),
  ((0 : Int) ≤ ((↑i : Int))),
  ((((↑i : Int)) : Int) < ((↑nb : Int))),
  ((1 : Nat) = 1),
  (((N) : Nat) ≤ (N)),
  ((1 : Nat) = 1),
  (((m) : Nat) ≤ (m)),
  ((1 : Nat) = 1),
  (((m) : Nat) ≤ (m)),
  Con (Try.prog) 138 0 [] [.agg [.p (.int .i64 ((↑N : Int))), .p (.seq true 2 (nb) (fun i_1 => [.int .i64 ((g i_1).fst), .int .i64 ((g i_1).snd.fst)]))], .agg [.p (.seq true 1 (N) (fun i_1 => [.int .i64 (F i_1)])), .p (.seq true 1 (m) (fun i_1 => [.int .i64 (T i_1)])), .p (.seq true 1 (m) (fun i_1 => [.int .i64 (Q i_1)]))], .p (.int .i64 ((g i).fst)), .p (.int .i64 ((g i).snd.fst)), .p (.int .i64 4)] [(0, ⟨false, 1, (N), (fun i_1 => [.p (.int .i64 (F1 i_1))])⟩), (1, ⟨false, 1, (m), (fun i_1 => [.p (.int .i64 (T1 i_1))])⟩), (2, ⟨false, 1, (m), (fun i_1 => [.p (.int .i64 (Q i_1))])⟩)] (.tup [.agg [.ar 1 0 0 (N), .ar 1 1 0 (m), .ar 1 2 0 (m)], .p (.bool true)]),
  ((0 : Nat) < 1),
  (((true) = true) → ((1 : Nat) = 1)),
  ((!true) = false),
  ((0 : Nat) < 1),
  ((0 : Nat) < 1),
  ((0 : Int) ≤ ((↑i : Int))),
  ((((↑i : Int)) : Int) < ((↑nb : Int))),
  ((0 : Nat) < 1),
  ((0 : Nat) < 1),
  ((0 : Int) ≤ ((↑i : Int))),
  ((((↑i : Int)) : Int) < ((↑nb : Int))),
  ((0 : Int) ≤ ((g i).fst)),
  ((((g i).fst) : Int) < ((↑N : Int))),
  ((((g i).fst.toNat) : Nat) < (N)),
  (((-9223372036854775808) : Int) ≤ (F1 (g i).fst.toNat - 1)),
  (((F1 (g i).fst.toNat - 1) : Int) ≤ 9223372036854775807),
  ((0 : Int) ≤ ((g i).fst)),
  ((((g i).fst) : Int) < ((↑N : Int))),
  ((((g i).fst.toNat) : Nat) < (N)),
  (((false) = true) → (((N) : Nat) = 1)),
  ((0 : Nat) < 1),
  ((0 : Nat) < 1),
  ((0 : Int) ≤ ((↑i : Int))),
  ((((↑i : Int)) : Int) < ((↑nb : Int))),
  ((1 : Nat) ≤ 1),
  (((m) : Nat) ≤ (m)),
  ((((m + 1) * 8) : Nat) ≤ 140737488355328),
  (((m + 1) : Nat) ≤ 9223372036854775807),
  ((0 : Nat) < 1),
  (((true) = true) → ((1 : Nat) = 1)),
  ((0 : Nat) < 1),
  ((1 : Nat) ≤ 1),
  (((m) : Nat) ≤ (m)),
  ((((m + 1) * 8) : Nat) ≤ 140737488355328),
  (((m + 1) : Nat) ≤ 9223372036854775807),
  ((0 : Nat) < 1),
  (((true) = true) → ((1 : Nat) = 1)),
  ((0 : Nat) < 1),
  ((0 : Nat) < 1),
  (((true) = true) → ((1 : Nat) = 1)),
  (((-9223372036854775808) : Int) ≤ ((↑m : Int) + 1)),
  ((((↑m : Int) + 1) : Int) ≤ 9223372036854775807),
  (((-9223372036854775808) : Int) ≤ ((↑i : Int) + 1)),
  ((((↑i : Int) + 1) : Int) ≤ 9223372036854775807),
  ((((↑N : Int)) : Int) = ((↑N : Int))),
  (((nb) : Nat) = (nb)),
  (∀ i_1 : Nat, ((((i_1) : Nat) < (nb)) → (([.int .i64 ((g i_1).fst), .int .i64 ((g i_1).snd.fst)] : List PV) = [.int .i64 ((g i_1).fst), .int .i64 ((g i_1).snd.fst)]))),
  ((0 : Nat) = 0),
  ((0 : Nat) = 0),
  ((((↑m : Int) + 1) : Int) = ((↑(m + 1) : Int))),
  ((((↑i : Int) + 1) : Int) = ((↑(i + 1) : Int))),
  ((2 : Nat) = 2),
  ((1 : Nat) ≤ 1),
  ((1 : Nat) ≤ 1),
  ((((↑N : Int)) : Int) = ((↑N : Int))),
  (((nb) : Nat) = (nb)),
  (∀ i_1 : Nat, ((((i_1) : Nat) < (nb)) → (([.int .i64 ((g i_1).fst), .int .i64 ((g i_1).snd.fst)] : List PV) = [.int .i64 ((g i_1).fst), .int .i64 ((g i_1).snd.fst)]))),
  ((3 : Nat) = 3),
  ((1 : Nat) ≤ 1),
  ((1 : Nat) ≤ 1),
  ((0 : Nat) = 0),
  (((N) : Nat) = (N)),
  ((0 : Nat) = 0),
  (((m + 1) : Nat) = (m + 1)),
  ((0 : Nat) = 0),
  (((m + 1) : Nat) = (m + 1)),
  ((1 : Nat) = 1),
  (((N) : Nat) ≤ (N)),
  (∀ i_1 : Nat, ((((i_1) : Nat) < (N)) → (All (cvtL false [(1, ⟨true, 3, 1, (fun i_2 => [.ar 1 613 0 (N), .ar 1 1861 0 (m + 1), .ar 1 2085 0 (m + 1)])⟩), (741, ⟨true, 3, 1, (fun i_2 => [.ar 1 613 0 (N), .ar 1 1861 0 (m + 1), .ar 1 2085 0 (m + 1)])⟩), (2085, ⟨false, 1, (m + 1), (fun i_2 => (if (i_2 < m) then [.p (.int .i64 (Q i_2))] else [.p (.int .i64 ((↑i : Int)))]))⟩), (2053, ⟨false, 1, 1, (fun i_2 => [.p (.int .i64 ((↑i : Int)))])⟩), (1861, ⟨false, 1, (m + 1), (fun i_2 => (if (i_2 < m) then [.p (.int .i64 (T1 i_2))] else [.p (.int .i64 ((g i).fst))]))⟩), (1829, ⟨false, 1, 1, (fun i_2 => [.p (.int .i64 ((g i).fst))])⟩), (613, ⟨false, 1, (N), (fun i_2 => (if (i_2 = (g i).fst.toNat) then [.p (.int .i64 (F1 (g i).fst.toNat - 1))] else [.p (.int .i64 (F1 i_2))]))⟩), (0, ⟨true, 2, 1, (fun i_2 => [.p (.int .i64 ((↑N : Int))), .p (.seq true 2 (nb) (fun i_3 => [.int .i64 ((g i_3).fst), .int .i64 ((g i_3).snd.fst)]))])⟩), (2, ⟨false, 1, (N), (fun i_2 => [.p (.int .i64 (F i_2))])⟩), (3, ⟨false, 1, (m), (fun i_2 => [.p (.int .i64 (T i_2))])⟩), (4, ⟨false, 1, (m), (fun i_2 => [.p (.int .i64 (Q i_2))])⟩)] [0, 1, 613, 1861, 2085] 1 (if (i_1 = (g i).fst.toNat) then [.p (.int .i64 (F1 (g i).fst.toNat - 1))] else [.p (.int .i64 (F1 i_1))])).2 ∧ (((cvtL false [(1, ⟨true, 3, 1, (fun i_2 => [.ar 1 613 0 (N), .ar 1 1861 0 (m + 1), .ar 1 2085 0 (m + 1)])⟩), (741, ⟨true, 3, 1, (fun i_2 => [.ar 1 613 0 (N), .ar 1 1861 0 (m + 1), .ar 1 2085 0 (m + 1)])⟩), (2085, ⟨false, 1, (m + 1), (fun i_2 => (if (i_2 < m) then [.p (.int .i64 (Q i_2))] else [.p (.int .i64 ((↑i : Int)))]))⟩), (2053, ⟨false, 1, 1, (fun i_2 => [.p (.int .i64 ((↑i : Int)))])⟩), (1861, ⟨false, 1, (m + 1), (fun i_2 => (if (i_2 < m) then [.p (.int .i64 (T1 i_2))] else [.p (.int .i64 ((g i).fst))]))⟩), (1829, ⟨false, 1, 1, (fun i_2 => [.p (.int .i64 ((g i).fst))])⟩), (613, ⟨false, 1, (N), (fun i_2 => (if (i_2 = (g i).fst.toNat) then [.p (.int .i64 (F1 (g i).fst.toNat - 1))] else [.p (.int .i64 (F1 i_2))]))⟩), (0, ⟨true, 2, 1, (fun i_2 => [.p (.int .i64 ((↑N : Int))), .p (.seq true 2 (nb) (fun i_3 => [.int .i64 ((g i_3).fst), .int .i64 ((g i_3).snd.fst)]))])⟩), (2, ⟨false, 1, (N), (fun i_2 => [.p (.int .i64 (F i_2))])⟩), (3, ⟨false, 1, (m), (fun i_2 => [.p (.int .i64 (T i_2))])⟩), (4, ⟨false, 1, (m), (fun i_2 => [.p (.int .i64 (Q i_2))])⟩)] [0, 1, 613, 1861, 2085] 1 (if (i_1 = (g i).fst.toNat) then [.p (.int .i64 (F1 (g i).fst.toNat - 1))] else [.p (.int .i64 (F1 i_1))])).1 : List AV) = [.p (.int .i64 (if i_1 = (g i).fst.toNat then F1 i_1 - 1 else F1 i_1))])))),
  ((1 : Nat) = 1),
  (((m + 1) : Nat) ≤ (m + 1)),
  (∀ i_1 : Nat, ((((i_1) : Nat) < (m + 1)) → (All (cvtL false [(1, ⟨true, 3, 1, (fun i_2 => [.ar 1 613 0 (N), .ar 1 1861 0 (m + 1), .ar 1 2085 0 (m + 1)])⟩), (741, ⟨true, 3, 1, (fun i_2 => [.ar 1 613 0 (N), .ar 1 1861 0 (m + 1), .ar 1 2085 0 (m + 1)])⟩), (2085, ⟨false, 1, (m + 1), (fun i_2 => (if (i_2 < m) then [.p (.int .i64 (Q i_2))] else [.p (.int .i64 ((↑i : Int)))]))⟩), (2053, ⟨false, 1, 1, (fun i_2 => [.p (.int .i64 ((↑i : Int)))])⟩), (1861, ⟨false, 1, (m + 1), (fun i_2 => (if (i_2 < m) then [.p (.int .i64 (T1 i_2))] else [.p (.int .i64 ((g i).fst))]))⟩), (1829, ⟨false, 1, 1, (fun i_2 => [.p (.int .i64 ((g i).fst))])⟩), (613, ⟨false, 1, (N), (fun i_2 => (if (i_2 = (g i).fst.toNat) then [.p (.int .i64 (F1 (g i).fst.toNat - 1))] else [.p (.int .i64 (F1 i_2))]))⟩), (0, ⟨true, 2, 1, (fun i_2 => [.p (.int .i64 ((↑N : Int))), .p (.seq true 2 (nb) (fun i_3 => [.int .i64 ((g i_3).fst), .int .i64 ((g i_3).snd.fst)]))])⟩), (2, ⟨false, 1, (N), (fun i_2 => [.p (.int .i64 (F i_2))])⟩), (3, ⟨false, 1, (m), (fun i_2 => [.p (.int .i64 (T i_2))])⟩), (4, ⟨false, 1, (m), (fun i_2 => [.p (.int .i64 (Q i_2))])⟩)] [0, 1, 613, 1861, 2085] 1 (if (i_1 < m) then [.p (.int .i64 (T1 i_1))] else [.p (.int .i64 ((g i).fst))])).2 ∧ (((cvtL false [(1, ⟨true, 3, 1, (fun i_2 => [.ar 1 613 0 (N), .ar 1 1861 0 (m + 1), .ar 1 2085 0 (m + 1)])⟩), (741, ⟨true, 3, 1, (fun i_2 => [.ar 1 613 0 (N), .ar 1 1861 0 (m + 1), .ar 1 2085 0 (m + 1)])⟩), (2085, ⟨false, 1, (m + 1), (fun i_2 => (if (i_2 < m) then [.p (.int .i64 (Q i_2))] else [.p (.int .i64 ((↑i : Int)))]))⟩), (2053, ⟨false, 1, 1, (fun i_2 => [.p (.int .i64 ((↑i : Int)))])⟩), (1861, ⟨false, 1, (m + 1), (fun i_2 => (if (i_2 < m) then [.p (.int .i64 (T1 i_2))] else [.p (.int .i64 ((g i).fst))]))⟩), (1829, ⟨false, 1, 1, (fun i_2 => [.p (.int .i64 ((g i).fst))])⟩), (613, ⟨false, 1, (N), (fun i_2 => (if (i_2 = (g i).fst.toNat) then [.p (.int .i64 (F1 (g i).fst.toNat - 1))] else [.p (.int .i64 (F1 i_2))]))⟩), (0, ⟨true, 2, 1, (fun i_2 => [.p (.int .i64 ((↑N : Int))), .p (.seq true 2 (nb) (fun i_3 => [.int .i64 ((g i_3).fst), .int .i64 ((g i_3).snd.fst)]))])⟩), (2, ⟨false, 1, (N), (fun i_2 => [.p (.int .i64 (F i_2))])⟩), (3, ⟨false, 1, (m), (fun i_2 => [.p (.int .i64 (T i_2))])⟩), (4, ⟨false, 1, (m), (fun i_2 => [.p (.int .i64 (Q i_2))])⟩)] [0, 1, 613, 1861, 2085] 1 (if (i_1 < m) then [.p (.int .i64 (T1 i_1))] else [.p (.int .i64 ((g i).fst))])).1 : List AV) = [.p (.int .i64 (if i_1 < m then T1 i_1 else (g i).fst))])))),
  ((1 : Nat) = 1),
  (((m + 1) : Nat) ≤ (m + 1)),
  (∀ i_1 : Nat, ((((i_1) : Nat) < (m + 1)) → (All (cvtL false [(1, ⟨true, 3, 1, (fun i_2 => [.ar 1 613 0 (N), .ar 1 1861 0 (m + 1), .ar 1 2085 0 (m + 1)])⟩), (741, ⟨true, 3, 1, (fun i_2 => [.ar 1 613 0 (N), .ar 1 1861 0 (m + 1), .ar 1 2085 0 (m + 1)])⟩), (2085, ⟨false, 1, (m + 1), (fun i_2 => (if (i_2 < m) then [.p (.int .i64 (Q i_2))] else [.p (.int .i64 ((↑i : Int)))]))⟩), (2053, ⟨false, 1, 1, (fun i_2 => [.p (.int .i64 ((↑i : Int)))])⟩), (1861, ⟨false, 1, (m + 1), (fun i_2 => (if (i_2 < m) then [.p (.int .i64 (T1 i_2))] else [.p (.int .i64 ((g i).fst))]))⟩), (1829, ⟨false, 1, 1, (fun i_2 => [.p (.int .i64 ((g i).fst))])⟩), (613, ⟨false, 1, (N), (fun i_2 => (if (i_2 = (g i).fst.toNat) then [.p (.int .i64 (F1 (g i).fst.toNat - 1))] else [.p (.int .i64 (F1 i_2))]))⟩), (0, ⟨true, 2, 1, (fun i_2 => [.p (.int .i64 ((↑N : Int))), .p (.seq true 2 (nb) (fun i_3 => [.int .i64 ((g i_3).fst), .int .i64 ((g i_3).snd.fst)]))])⟩), (2, ⟨false, 1, (N), (fun i_2 => [.p (.int .i64 (F i_2))])⟩), (3, ⟨false, 1, (m), (fun i_2 => [.p (.int .i64 (T i_2))])⟩), (4, ⟨false, 1, (m), (fun i_2 => [.p (.int .i64 (Q i_2))])⟩)] [0, 1, 613, 1861, 2085] 1 (if (i_1 < m) then [.p (.int .i64 (Q i_1))] else [.p (.int .i64 ((↑i : Int)))])).2 ∧ (((cvtL false [(1, ⟨true, 3, 1, (fun i_2 => [.ar 1 613 0 (N), .ar 1 1861 0 (m + 1), .ar 1 2085 0 (m + 1)])⟩), (741, ⟨true, 3, 1, (fun i_2 => [.ar 1 613 0 (N), .ar 1 1861 0 (m + 1), .ar 1 2085 0 (m + 1)])⟩), (2085, ⟨false, 1, (m + 1), (fun i_2 => (if (i_2 < m) then [.p (.int .i64 (Q i_2))] else [.p (.int .i64 ((↑i : Int)))]))⟩), (2053, ⟨false, 1, 1, (fun i_2 => [.p (.int .i64 ((↑i : Int)))])⟩), (1861, ⟨false, 1, (m + 1), (fun i_2 => (if (i_2 < m) then [.p (.int .i64 (T1 i_2))] else [.p (.int .i64 ((g i).fst))]))⟩), (1829, ⟨false, 1, 1, (fun i_2 => [.p (.int .i64 ((g i).fst))])⟩), (613, ⟨false, 1, (N), (fun i_2 => (if (i_2 = (g i).fst.toNat) then [.p (.int .i64 (F1 (g i).fst.toNat - 1))] else [.p (.int .i64 (F1 i_2))]))⟩), (0, ⟨true, 2, 1, (fun i_2 => [.p (.int .i64 ((↑N : Int))), .p (.seq true 2 (nb) (fun i_3 => [.int .i64 ((g i_3).fst), .int .i64 ((g i_3).snd.fst)]))])⟩), (2, ⟨false, 1, (N), (fun i_2 => [.p (.int .i64 (F i_2))])⟩), (3, ⟨false, 1, (m), (fun i_2 => [.p (.int .i64 (T i_2))])⟩), (4, ⟨false, 1, (m), (fun i_2 => [.p (.int .i64 (Q i_2))])⟩)] [0, 1, 613, 1861, 2085] 1 (if (i_1 < m) then [.p (.int .i64 (Q i_1))] else [.p (.int .i64 ((↑i : Int)))])).1 : List AV) = [.p (.int .i64 (if i_1 < m then Q i_1 else (↑i : Int)))]))))]) := by kernel_rfl
theorem qRb (g : Nat → T_Bar) (nb N m i : Nat) (F T Q F1 T1 : Nat → Int) :
    pieceOb Try.prog 0 [.reg [oT, oT, oT, oT, oT], .dec true, .reg [oT, oT, oT, oT, oT, oT, oT, oT, oT, oT, oT, oT, oT, oT, ⟨true, (some ⟨[], [], 1, pebR N m F1 T1 Q, .tup [pebO N m 0, .p (.bool false)]⟩), none⟩, oT, oT, oT, oT, oT, oT], .reg [oT, oT], .dec true, .reg [oT, oT, oT], .head] [.code (cAt (bodyOf Try.f127) [1, 1, 1, 0, 1, 0, 0]), .inLoop (cAt (bodyOf Try.f127) [1, 1, 1, 0, 1, 0, 0]), .inBlock 0, .code (cAt (bodyOf Try.f127) [1, 1, 1, 1])] (SR g nb N m i F T Q) [0, 1, 2, 3, 4] 1 (SR g nb N m (i + 1) F T Q) =
    some ([.code (cAt (bodyOf Try.f127) [1, 1, 1, 0, 1, 0, 0]), .inLoop (cAt (bodyOf Try.f127) [1, 1, 1, 0, 1, 0, 0]), .inBlock 0, .code (cAt (bodyOf Try.f127) [1, 1, 1, 1])], [((0 : Nat) < 1),
  ((decide ((↑i : Int) < (↑nb : Int))) = true),
  ((0 : Nat) < 1),
  ((0 : Nat) < 1),
  ((0 : Nat) < 1),
  ((0 : Int) ≤ ((↑i : Int))),
  ((((↑i : Int)) : Int) < ((↑nb : Int))),
  ((0 : Nat) < 1),
  ((0 : Int) ≤ ((↑i : Int))),
  ((((↑i : Int)) : Int) < ((↑nb : Int))),
  ((1 : Nat) = 1),
  (((N) : Nat) ≤ (N)),
  ((1 : Nat) = 1),
  (((m) : Nat) ≤ (m)),
  ((1 : Nat) = 1),
  (((m) : Nat) ≤ (m)),
  Con (Try.prog) 138 0 [] [.agg [.p (.int .i64 ((↑N : Int))), .p (.seq true 2 (nb) (fun i_1 => [.int .i64 ((g i_1).fst), .int .i64 ((g i_1).snd.fst)]))], .agg [.p (.seq true 1 (N) (fun i_1 => [.int .i64 (F i_1)])), .p (.seq true 1 (m) (fun i_1 => [.int .i64 (T i_1)])), .p (.seq true 1 (m) (fun i_1 => [.int .i64 (Q i_1)]))], .p (.int .i64 ((g i).fst)), .p (.int .i64 ((g i).snd.fst)), .p (.int .i64 4)] [(0, ⟨false, 1, (N), (fun i_1 => [.p (.int .i64 (F1 i_1))])⟩), (1, ⟨false, 1, (m), (fun i_1 => [.p (.int .i64 (T1 i_1))])⟩), (2, ⟨false, 1, (m), (fun i_1 => [.p (.int .i64 (Q i_1))])⟩)] (.tup [.agg [.ar 1 0 0 (N), .ar 1 1 0 (m), .ar 1 2 0 (m)], .p (.bool false)]),
  ((0 : Nat) < 1),
  (((true) = true) → ((1 : Nat) = 1)),
  ((!false) = true),
  (((-9223372036854775808) : Int) ≤ ((↑i : Int) + 1)),
  ((((↑i : Int) + 1) : Int) ≤ 9223372036854775807),
  ((((↑N : Int)) : Int) = ((↑N : Int))),
  (((nb) : Nat) = (nb)),
  (∀ i_1 : Nat, ((((i_1) : Nat) < (nb)) → (([.int .i64 ((g i_1).fst), .int .i64 ((g i_1).snd.fst)] : List PV) = [.int .i64 ((g i_1).fst), .int .i64 ((g i_1).snd.fst)]))),
  ((0 : Nat) = 0),
  ((0 : Nat) = 0),
  ((((↑m : Int)) : Int) = ((↑m : Int))),
  ((((↑i : Int) + 1) : Int) = ((↑(i + 1) : Int))),
  ((2 : Nat) = 2),
  ((1 : Nat) ≤ 1),
  ((1 : Nat) ≤ 1),
  ((((↑N : Int)) : Int) = ((↑N : Int))),
  (((nb) : Nat) = (nb)),
  (∀ i_1 : Nat, ((((i_1) : Nat) < (nb)) → (([.int .i64 ((g i_1).fst), .int .i64 ((g i_1).snd.fst)] : List PV) = [.int .i64 ((g i_1).fst), .int .i64 ((g i_1).snd.fst)]))),
  ((3 : Nat) = 3),
  ((1 : Nat) ≤ 1),
  ((1 : Nat) ≤ 1),
  ((0 : Nat) = 0),
  (((N) : Nat) = (N)),
  ((0 : Nat) = 0),
  (((m) : Nat) = (m)),
  ((0 : Nat) = 0),
  (((m) : Nat) = (m)),
  ((1 : Nat) = 1),
  (((N) : Nat) ≤ (N)),
  (∀ i_1 : Nat, ((((i_1) : Nat) < (N)) → (All [] ∧ (([.p (.int .i64 (F i_1))] : List AV) = [.p (.int .i64 (F i_1))])))),
  ((1 : Nat) = 1),
  (((m) : Nat) ≤ (m)),
  (∀ i_1 : Nat, ((((i_1) : Nat) < (m)) → (All [] ∧ (([.p (.int .i64 (T i_1))] : List AV) = [.p (.int .i64 (T i_1))])))),
  ((1 : Nat) = 1),
  (((m) : Nat) ≤ (m)),
  (∀ i_1 : Nat, ((((i_1) : Nat) < (m)) → (All [] ∧ (([.p (.int .i64 (Q i_1))] : List AV) = [.p (.int .i64 (Q i_1))]))))]) := by kernel_rfl
theorem qRe (g : Nat → T_Bar) (nb N m i : Nat) (F T Q : Nat → Int) :
    pathOb Try.prog Try.f127 0 [.reg [oT, oT, oT, oT, oT], .dec false, .reg [oT, oT]] [.code (cAt (bodyOf Try.f127) [1, 1, 1, 0, 1, 0, 0]), .inLoop (cAt (bodyOf Try.f127) [1, 1, 1, 0, 1, 0, 0]), .inBlock 0, .code (cAt (bodyOf Try.f127) [1, 1, 1, 1])] (SR g nb N m i F T Q) [] 1 [] (.p (.int .i64 m)) =
    some [((0 : Nat) < 1),
  ((decide ((↑i : Int) < (↑nb : Int))) = false),
  ((((↑m : Int)) : Int) = ((↑m : Int)))] := by kernel_rfl

/-- Pebbles gathered by the reference. -/
theorem con_l4Gather {N k nb m l : Nat} {g : Nat → T_Bar} {F0 T0 Q : Nat → Int} {a b : Int} (hp0 : PInv N k nb m g F0 T0 Q) (hk : k ≤ 1048576) (hN : N ≤ 1048576) (hm : m ≤ 1048576) (hnb : nb ≤ 1048576)
    (ha : 0 ≤ a ∧ a < N) (hb : 0 ≤ b ∧ b < N) (hab : a ≠ b) : ∃ F' T' r, Con Try.prog 138 0 [] [grG g nb N, pebD N m F0 T0 Q, .p (.int .i64 a), .p (.int .i64 b), .p (.int .i64 ((l : Int) + 1))] (pebR N m F' T' Q) (.tup [pebO N m 0, .p (.bool r)]) ∧
      PInv N k nb m g F' T' Q ∧ (r = true → (l : Int) + 1 ≤ F' a.toNat + F' b.toNat) ∧ (r = false → ¬ Mat.Sparse N k l (plL g Q m ++ [(a.toNat, b.toNat)])) := by
  have lp : ∀ d F T, PInv N k nb m g F T Q → (l : Int) + 1 ≤ F a.toNat + F b.toNat + (d : Nat) → ∃ F' T' r, (∀ c, c.n = 0 → Run Try.prog c 138 [.code (cAt (bodyOf Try.f138) [1, 1, 0, 0, 0]), .inLoop (cAt (bodyOf Try.f138) [1, 1, 0, 0, 0]), .inBlock 0, .code (cAt (bodyOf Try.f138) [1, 1, 1])] (SH g nb N m F0 T0 F T Q a b ((l : Int) + 1)) (Post c (pebR N m F' T' Q) (.tup [pebO N m 0, .p (.bool r)]))) ∧
      PInv N k nb m g F' T' Q ∧ (r = true → (l : Int) + 1 ≤ F' a.toNat + F' b.toNat) ∧ (r = false → ¬ Mat.Sparse N k l (plL g Q m ++ [(a.toNat, b.toNat)])) := by
    intro d
    induction d with
    | zero =>
      intro F T hp hw
      have hd : decide (F a.toNat + F b.toNat < (l : Int) + 1) = false := by simp; omega
      have l1 := hp.le (v := a.toNat) (by omega)
      have l2 := hp.le (v := b.toNat) (by omega)
      refine ⟨F, T, true, fun c hc => ?_, hp, (fun _ => by omega), (fun h => by cases h)⟩
      refine path_ok mixed Try.func138 hc (qHd g nb N m F0 T0 F T Q a b ((l : Int) + 1)) ?_
      simp only [All]
      repeat' (first | exact trivial | with_reducible apply And.intro)
      all_goals (first | omega | rfl | (intros; first | assumption | exact True.intro | rfl | exact absurd (show false = true by assumption) Bool.false_ne_true | ((repeat' (first | assumption | apply anda | apply notf)); done)) | (exact hd) | (intro i hi; simp [All]))
    | succ d ih =>
      intro F T hp hw
      have l1 := hp.le (v := a.toNat) (by omega)
      have l2 := hp.le (v := b.toNat) (by omega)
      by_cases hs : F a.toNat + F b.toNat < (l : Int) + 1
      · have hd : decide (F a.toNat + F b.toNat < (l : Int) + 1) = true := by simp; omega
        obtain ⟨H1, r1, hc1, hf1⟩ := con_l4Find hp hk hN hm hnb ha hb hab
        cases hf1 with
        | yes F1 T1 hm1 =>
          obtain ⟨y1, y2⟩ := hm1.yes rfl
          obtain ⟨F', T', r, hrun, h1, h2, h3⟩ := ih F1 T1 hm1.inv (by omega)
          refine ⟨F', T', r, fun c hc => ?_, h1, h2, h3⟩
          refine piece_ok mixed hc (qHa g nb N m F0 T0 F T Q F1 T1 a b ((l : Int) + 1)) ?_ (hrun c hc)
          simp only [All]
          repeat' (first | exact trivial | with_reducible apply And.intro)
          all_goals (first | omega | rfl | (intros; first | assumption | exact True.intro | rfl | exact absurd (show false = true by assumption) Bool.false_ne_true | ((repeat' (first | assumption | apply anda | apply notf)); done)) | (exact hd) | (exact hc1) | (intro i hi; simp [All]))
        | no hm1 =>
          obtain ⟨H2, r2, hc2, hf2⟩ := con_l4Find hp hk hN hm hnb hb ha (Ne.symm hab)
          cases hf2 with
          | yes F2 T2 hm2 =>
            obtain ⟨y1, y2⟩ := hm2.yes rfl
            obtain ⟨F', T', r, hrun, h1, h2, h3⟩ := ih F2 T2 hm2.inv (by omega)
            refine ⟨F', T', r, fun c hc => ?_, h1, h2, h3⟩
            refine piece_ok mixed hc (qHb g nb N m F0 T0 F T Q F2 T2 a b ((l : Int) + 1)) ?_ (hrun c hc)
            simp only [All]
            repeat' (first | exact trivial | with_reducible apply And.intro)
            all_goals (first | omega | rfl | (intros; first | assumption | exact True.intro | rfl | exact absurd (show false = true by assumption) Bool.false_ne_true | ((repeat' (first | assumption | apply anda | apply notf)); done)) | (exact hd) | (exact hc1) | (exact hc2) | (intro i hi; simp [All]))
          | no hm2 =>
            refine ⟨F, T, false, fun c hc => ?_, hp, (fun h => by cases h), fun _ => gather_no hp ha hb hab (by omega) hm1 hm2⟩
            refine path_ok mixed Try.func138 hc (qHc g nb N m F0 T0 F T Q a b ((l : Int) + 1)) ?_
            simp only [All]
            repeat' (first | exact trivial | with_reducible apply And.intro)
            all_goals (first | omega | rfl | (intros; first | assumption | exact True.intro | rfl | exact absurd (show false = true by assumption) Bool.false_ne_true | ((repeat' (first | assumption | apply anda | apply notf)); done)) | (exact hd) | (exact hc1) | (exact hc2) | (intro i hi; simp [All]))
      · have hd : decide (F a.toNat + F b.toNat < (l : Int) + 1) = false := by simp; omega
        refine ⟨F, T, true, fun c hc => ?_, hp, (fun _ => by omega), (fun h => by cases h)⟩
        refine path_ok mixed Try.func138 hc (qHd g nb N m F0 T0 F T Q a b ((l : Int) + 1)) ?_
        simp only [All]
        repeat' (first | exact trivial | with_reducible apply And.intro)
        all_goals (first | omega | rfl | (intros; first | assumption | exact True.intro | rfl | exact absurd (show false = true by assumption) Bool.false_ne_true | ((repeat' (first | assumption | apply anda | apply notf)); done)) | (exact hd) | (intro i hi; simp [All]))
  have l1 := hp0.le (v := a.toNat) (by omega)
  have l2 := hp0.le (v := b.toNat) (by omega)
  obtain ⟨F', T', r, hrun, h⟩ := lp (l + 1) F0 T0 hp0 (by omega)
  refine ⟨F', T', r, ?_, h⟩
  have hcc := con_l4Copy N m F0 T0 Q hN hm
  refine con_start Try.func138 rfl (by kernel_rfl) rfl (fun c hc => ?_)
  refine piece_ok mixed hc (qHz g nb N m F0 T0 Q a b ((l : Int) + 1)) ?_ (hrun c hc)
  simp only [All]
  repeat' (first | exact trivial | with_reducible apply And.intro)
  all_goals (first | omega | rfl | (intros; first | assumption | exact True.intro | rfl | exact absurd (show false = true by assumption) Bool.false_ne_true | ((repeat' (first | assumption | apply anda | apply notf)); done)) | (exact hcc) | (intro i hi; simp [All]))

theorem run_new {g : Nat → T_Bar} {nb N k : Nat} (hN : N ≤ 1048576) (hk : 1 ≤ k ∧ k ≤ 3) (hg : isGraphF ((N : Int), (nb, g), ()) = true) (hnb : nb ≤ 1048576) (c : Cx) (hc : c.n = 0) {items : List Item} (hit : items = [.code (cAt (bodyOf Try.f137) [1, 1, 0, 0]), .code (cAt (bodyOf Try.f137) [1, 1, 0, 1]), .code (cAt (bodyOf Try.f137) [1, 1, 1])]) :
    Run Try.prog c 137 items (SNc g nb N k) (Post c (pebR N 0 (fun _ => k) (fun _ => 0) (fun _ => 0)) (.tup [pebO N 0 0, .p (.bool true)])) := by
  subst hit
  have hsm : smS s_Graph ((N : Int), (nb, g), ()) := ⟨by simp [smS, smL], ⟨hnb, fun i hi => by simp [smS, smL]⟩, True.intro⟩
  have hcg := con_IsGraph_s ((N : Int), (nb, g), ()) hsm
  rw [hg] at hcg
  have hci := con_l1In k 1 3
  rw [show inB k 1 3 = true by simp [inB]; omega] at hci
  have lp0 : ∀ d i, i + d = N → Run Try.prog c 137 [.code (cAt (bodyOf Try.f137) [1, 1, 1, 0, 1, 0, 0]), .inLoop (cAt (bodyOf Try.f137) [1, 1, 1, 0, 1, 0, 0]), .inBlock 0, .code (cAt (bodyOf Try.f137) [1, 1, 1, 1])] (SN0 g nb N k i) (Post c (pebR N 0 (fun _ => k) (fun _ => 0) (fun _ => 0)) (.tup [pebO N 0 0, .p (.bool true)])) := by
    intro d
    induction d with
    | zero =>
      intro i hi
      obtain rfl : i = N := by omega
      have hd : decide ((i : Int) < (i : Int)) = false := by simp
      refine path_ok mixed Try.func137 hc (qNe g nb i k i) ?_
      simp only [All]
      repeat' (first | exact trivial | with_reducible apply And.intro)
      all_goals (first | omega | rfl | (intros; first | assumption | exact True.intro | rfl | exact absurd (show false = true by assumption) Bool.false_ne_true | ((repeat' (first | assumption | apply anda | apply notf)); done)) | (intro i hi; simp [All]))
    | succ d ih =>
      intro i hi
      have hd : decide ((i : Int) < (N : Int)) = true := by simp; omega
      refine piece_ok mixed hc (qNl g nb N k i) ?_ (ih (i + 1) (by omega))
      simp only [All]
      repeat' (first | exact trivial | with_reducible apply And.intro)
      all_goals (first | omega | rfl | (intros; first | assumption | exact True.intro | rfl | exact absurd (show false = true by assumption) Bool.false_ne_true | ((repeat' (first | assumption | apply anda | apply notf)); done)) | (intro j hj; simp [All]; done) | (intro j hj; by_cases h : j < i <;> simp [h, cvtL, cvt, tg, tru, All]))
  refine piece_ok mixed hc (qNa g nb N k) ?_ (lp0 N 0 (by omega))
  simp only [All]
  repeat' (first | exact trivial | with_reducible apply And.intro)
  all_goals (first | omega | rfl | (intros; first | assumption | exact True.intro | rfl | exact absurd (show false = true by assumption) Bool.false_ne_true | ((repeat' (first | assumption | apply anda | apply notf)); done)) | (exact hcg) | (intros; exact hci) | (intro i hi; simp [All]))

/-- A new game over no bars. -/
theorem con_NewPebbles0 {N k : Nat} (hN : 1 ≤ N ∧ N ≤ 8) (hk : 1 ≤ k ∧ k ≤ 3) : Con Try.prog 137 0 [] [.agg [.p (.int .i64 N), .p .nil], .p (.int .i64 k)] (pebR N 0 (fun _ => k) (fun _ => 0) (fun _ => 0)) (.tup [pebO N 0 0, .p (.bool true)]) := by
  refine con_start Try.func137 rfl (by kernel_rfl) rfl (fun c hc => ?_)
  have hg : isGraphF ((N : Int), (0, fun _ => ((0 : Int), (0 : Int), ())), ()) = true := by
    have : inB N 1 8 = true := by simp [inB]; omega
    simp [isGraphF, this, goodB]
  refine piece_ok mixed hc (qNz (fun _ => (0, 0, ())) N k) ?_ (run_new (g := fun _ => (0, 0, ())) (by omega) hk hg (by omega) c hc rfl)
  simp only [All]
  repeat' (first | exact trivial | with_reducible apply And.intro)
  all_goals (first | omega | rfl | (intros; first | assumption | exact True.intro | rfl | exact absurd (show false = true by assumption) Bool.false_ne_true | ((repeat' (first | assumption | apply anda | apply notf)); done)) | (intro i hi; simp [All]))

theorem con_NewPebbles {N k nb : Nat} {g : Nat → T_Bar} (hN : N ≤ 1048576) (hk : 1 ≤ k ∧ k ≤ 3) (hg : isGraphF ((N : Int), (nb, g), ()) = true) (hnb : nb ≤ 1048576) :
    Con Try.prog 137 0 [] [grG g nb N, .p (.int .i64 k)] (pebR N 0 (fun _ => k) (fun _ => 0) (fun _ => 0)) (.tup [pebO N 0 0, .p (.bool true)]) := by
  refine con_start Try.func137 rfl (by kernel_rfl) rfl (fun c hc => ?_)
  refine piece_ok mixed hc (qNy g nb N k) ?_ (run_new hN hk hg hnb c hc rfl)
  simp only [All]
  repeat' (first | exact trivial | with_reducible apply And.intro)
  all_goals (first | omega | rfl | (intros; first | assumption | exact True.intro | rfl | exact absurd (show false = true by assumption) Bool.false_ne_true | ((repeat' (first | assumption | apply anda | apply notf)); done)) | (intro i hi; simp [All]))

/-- The reference's rank in the plane. -/
theorem con_l6Rank {N nb : Nat} {g : Nat → T_Bar} (hb : ∀ e, e < nb → 0 ≤ (g e).1 ∧ (g e).1 < (g e).2.1 ∧ (g e).2.1 < N) (hN : 1 ≤ N ∧ N ≤ 8) (hnb : nb ≤ 1048576) :
    Con Try.prog 127 0 [] [grG g nb N] [] (.p (.int .i64 ((accI N 2 3 g nb).length : Nat))) := by
  refine con_start Try.func127 rfl (by kernel_rfl) rfl (fun c hc => ?_)
  have lp : ∀ d i m F T Q, i + d = nb → PInv N 2 nb m g F T Q → qL Q m = accI N 2 3 g i →
      Run Try.prog c 127 [.code (cAt (bodyOf Try.f127) [1, 1, 1, 0, 1, 0, 0]), .inLoop (cAt (bodyOf Try.f127) [1, 1, 1, 0, 1, 0, 0]), .inBlock 0, .code (cAt (bodyOf Try.f127) [1, 1, 1, 1])] (SR g nb N m i F T Q) (Post c [] (.p (.int .i64 ((accI N 2 3 g nb).length : Nat)))) := by
    intro d
    induction d with
    | zero =>
      intro i m F T Q hi hp hq
      obtain rfl : i = nb := by omega
      have hd : decide ((i : Int) < (i : Int)) = false := by simp
      rw [← hq, qL_length]
      refine path_ok mixed Try.func127 hc (qRe g i N m i F T Q) ?_
      simp only [All]
      repeat' (first | exact trivial | with_reducible apply And.intro)
      all_goals (first | omega | rfl | (intros; first | assumption | exact True.intro | rfl | exact absurd (show false = true by assumption) Bool.false_ne_true | ((repeat' (first | assumption | apply anda | apply notf)); done)) | (intro i hi; simp [All]))
    | succ d ih =>
      intro i m F T Q hi hp hq
      have hd : decide ((i : Int) < (nb : Int)) = true := by simp; omega
      have hm : m ≤ 1048576 := by
        have := accI_len N 2 3 g i
        rw [← hq, qL_length] at this
        omega
      have hsp : Mat.Sparse N 2 3 (plL g Q m) := by rw [plL_qL, hq]; exact accI_sparse N 2 3 g i
      have hbar := hb i (by omega)
      obtain ⟨F1, T1, r, hc1, h1, h2, h3⟩ := con_l4Gather (l := 3) (a := (g i).1) (b := (g i).2.1) hp (by omega) (by omega) hm hnb (by omega) (by omega) (by omega)
      have hlA := h1.le (v := (g i).1.toNat) (by omega)
      have hlB := h1.le (v := (g i).2.1.toNat) (by omega)
      cases r with
      | false =>
        have hrej : ¬ Mat.Sparse N 2 3 (plL g Q m ++ [brN (g i)]) := h3 rfl
        refine piece_ok mixed hc (qRb g nb N m i F T Q F1 T1) ?_ (ih (i + 1) m F T Q (by omega) hp (by
          simp only [accI]
          rw [← hq, ← plL_qL, if_neg hrej]))
        simp only [All]
        repeat' (first | exact trivial | with_reducible apply And.intro)
        all_goals (first | omega | rfl | (intros; first | assumption | exact True.intro | rfl | exact absurd (show false = true by assumption) Bool.false_ne_true | ((repeat' (first | assumption | apply anda | apply notf)); done)) | (exact hc1) | (intro i hi; simp [All]))
      | true =>
        have hw := h2 rfl
        have hacc : Mat.Sparse N 2 3 (plL g Q m ++ [brN (g i)]) := by
          have := (h1.game 3).accept (by rw [barsOf_gm]; exact hsp) (g i).1.toNat (g i).2.1.toNat ⟨by show (g i).1.toNat ≠ (g i).2.1.toNat; omega, by show (g i).1.toNat < N; omega, by show (g i).2.1.toNat < N; omega⟩
            (by show 3 + 1 ≤ (F1 (g i).1.toNat).toNat + (F1 (g i).2.1.toNat).toNat; omega)
          rw [barsOf_gm] at this
          exact this
        refine piece_ok mixed hc (qRa g nb N m i F T Q F1 T1) ?_ (ih (i + 1) (m + 1) _ _ _ (by omega) (h1.placed i (by omega) (g i).1 (.inl rfl) (by omega)) (by
          simp only [accI]
          rw [← hq, ← plL_qL, if_pos hacc]
          simp only [qL, Nat.lt_irrefl, if_false, Int.toNat_natCast]
          rw [qL_congr (Q' := Q) m (fun j hj => by simp only [hj, if_true])]))
        simp only [All]
        repeat' (first | exact trivial | with_reducible apply And.intro)
        all_goals (first | omega | rfl | (intros; first | assumption | exact True.intro | rfl | exact absurd (show false = true by assumption) Bool.false_ne_true | ((repeat' (first | assumption | apply anda | apply notf)); done)) | (exact hc1) | (intro i hi; simp [All]; done) | (intro j hj; by_cases h : j < m <;> simp [h, cvtL, cvt, tg, tru, All]; done) | (intro j hj; by_cases h : j = (g i).1.toNat <;> simp [h, cvtL, cvt, tg, tru, All]))
  have hn := con_NewPebbles0 (k := 2) hN (by omega)
  refine piece_ok mixed hc (qRz g nb N) ?_ (lp nb 0 0 _ _ _ (by omega) (PInv.start hb) rfl)
  simp only [All]
  repeat' (first | exact trivial | with_reducible apply And.intro)
  all_goals (first | omega | rfl | (intros; first | assumption | exact True.intro | rfl | exact absurd (show false = true by assumption) Bool.false_ne_true | ((repeat' (first | assumption | apply anda | apply notf)); done)) | (exact hn) | (intro i hi; simp [All]))

end Go.Proofs.Ytgdbnnmogddkaaa.Mach
