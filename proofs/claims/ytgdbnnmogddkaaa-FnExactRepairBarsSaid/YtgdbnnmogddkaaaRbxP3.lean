/- What the law Rbx needs, part 3 of 6: the abstract machine and the contracts of the functions. Conditions: as each theorem says. -/
import Derived.Test.YtgdbnnmogddkaaaRbxP2
namespace Go.Proofs.Ytgdbnnmogddkaaa.Mach
open Go
set_option linter.unusedVariables false
set_option linter.unusedSimpArgs false
def SG (g : Nat → T_Bar) (nb N m : Nat) (F T Q : Nat → Int) (a b want : Int) : St :=
  ⟨[brL g nb, .pt 3 0 0 0, .p (.int .i64 a), .p (.int .i64 b), .p (.int .i64 want)] ++ List.replicate 37 anyA, pebH N m F T Q, 4⟩
def pebH2 (N m : Nat) (F T Q : Nat → Int) : Hp := [(0, ⟨true, 3, 1, fun _ => [.ar 1 1 0 N, .ar 1 4 0 m, .ar 1 5 0 m]⟩), (1, iOb N F), (4, iOb m T), (5, iOb m Q)]
theorem pGz (g : Nat → T_Bar) (nb N m : Nat) (F T Q : Nat → Int) (a b want : Int) :
    pieceOb Try.prog 4 [.reg [oT], .head] [.code (bodyOf Try.f170)] (start Try.f170 (pebH N m F T Q) 4 [brL g nb, .pt 3 0 0 0, .p (.int .i64 a), .p (.int .i64 b), .p (.int .i64 want)]) [0, 1, 2, 3] 1 (SG g nb N m F T Q a b want) =
    some ([.code (cAt (bodyOf Try.f170) [1, 0, 0, 0]), .inLoop (cAt (bodyOf Try.f170) [1, 0, 0, 0]), .inBlock 0, .code (cAt (bodyOf Try.f170) [1, 1])], [((nb : Nat) = nb),
  (∀ i : Nat, (((i : Nat) < nb) → (([.int .i64 ((g i).1), .int .i64 ((g i).2.1)] : List PV) = [.int .i64 ((g i).1), .int .i64 ((g i).2.1)]))),
  ((0 : Nat) = 0),
  ((a : Int) = a),
  ((b : Int) = b),
  ((want : Int) = want),
  ((3 : Nat) = 3),
  ((1 : Nat) ≤ 1),
  ((1 : Nat) ≤ 1),
  ((0 : Nat) = 0),
  ((N : Nat) = N),
  ((0 : Nat) = 0),
  ((m : Nat) = m),
  ((0 : Nat) = 0),
  ((m : Nat) = m),
  ((1 : Nat) = 1),
  ((N : Nat) ≤ N),
  (∀ i : Nat, (((i : Nat) < N) → (All [] ∧ (([.p (.int .i64 (F i))] : List AV) = [.p (.int .i64 (F i))])))),
  ((1 : Nat) = 1),
  ((m : Nat) ≤ m),
  (∀ i : Nat, (((i : Nat) < m) → (All [] ∧ (([.p (.int .i64 (T i))] : List AV) = [.p (.int .i64 (T i))])))),
  ((1 : Nat) = 1),
  ((m : Nat) ≤ m),
  (∀ i : Nat, (((i : Nat) < m) → (All [] ∧ (([.p (.int .i64 (Q i))] : List AV) = [.p (.int .i64 (Q i))]))))]) := by kernel_rfl
theorem pGa (g : Nat → T_Bar) (nb N m : Nat) (F T Q F1 T1 : Nat → Int) (a b want : Int) :
    pieceOb Try.prog 4 [.reg [oT, oT, oT, oT, oT, oT, oT, oT, oT, oT, oT, oT, oT, oT, oT, oT, oT], .dec true, .reg [oT, oT, oT, oT, ⟨true, (some ⟨[0, 1, 2, 3], [], 1, pebH N m F1 T1 Q, .p (.bool true)⟩), none⟩, oT, oT, ⟨true, none, some false⟩, ⟨true, none, some false⟩, ⟨true, none, some false⟩, ⟨true, none, some false⟩, ⟨true, none, some false⟩, ⟨true, none, some false⟩, ⟨true, none, some false⟩], .dec false, .head] [.code (cAt (bodyOf Try.f170) [1, 0, 0, 0]), .inLoop (cAt (bodyOf Try.f170) [1, 0, 0, 0]), .inBlock 0, .code (cAt (bodyOf Try.f170) [1, 1])] (SG g nb N m F T Q a b want) [0, 1, 2, 3] 1 (SG g nb N m F1 T1 Q a b want) =
    some ([.code (cAt (bodyOf Try.f170) [1, 0, 0, 0]), .inLoop (cAt (bodyOf Try.f170) [1, 0, 0, 0]), .inBlock 0, .code (cAt (bodyOf Try.f170) [1, 1])], [((0 : Nat) < 1),
  ((0 : Int) ≤ a),
  ((a : Int) < (↑N : Int)),
  ((a.toNat : Nat) < N),
  ((0 : Nat) < 1),
  ((0 : Int) ≤ b),
  ((b : Int) < (↑N : Int)),
  ((b.toNat : Nat) < N),
  (((-9223372036854775808) : Int) ≤ (F a.toNat + F b.toNat)),
  (((F a.toNat + F b.toNat) : Int) ≤ 9223372036854775807),
  ((decide (F (a.toNat + 0) + F (b.toNat + 0) < want)) = true),
  (∀ i : Nat, (((i : Nat) < 1) → All [])),
  (∀ i : Nat, (((i : Nat) < N) → All [])),
  (∀ i : Nat, (((i : Nat) < m) → All [])),
  (∀ i : Nat, (((i : Nat) < m) → All [])),
  Con Try.prog 174 4 [(0, ⟨true, 3, 1, (fun i => [.ar 1 1 0 N, .ar 1 2 0 m, .ar 1 3 0 m])⟩), (1, ⟨false, 1, N, (fun i => [.p (.int .i64 (F i))])⟩), (2, ⟨false, 1, m, (fun i => [.p (.int .i64 (T i))])⟩), (3, ⟨false, 1, m, (fun i => [.p (.int .i64 (Q i))])⟩)] [.p (.seq true 2 nb (fun i => [.int .i64 ((g i).1), .int .i64 ((g i).2.1)])), .pt 3 0 0 0, .p (.int .i64 a), .p (.int .i64 b)] [(0, ⟨true, 3, 1, (fun i => [.ar 1 1 0 N, .ar 1 2 0 m, .ar 1 3 0 m])⟩), (1, ⟨false, 1, N, (fun i => [.p (.int .i64 (F1 i))])⟩), (2, ⟨false, 1, m, (fun i => [.p (.int .i64 (T1 i))])⟩), (3, ⟨false, 1, m, (fun i => [.p (.int .i64 (Q i))])⟩)] (.p (.bool true)),
  ((!true) = false),
  ((!true) = false),
  ((!true) = false),
  ((!true) = false),
  ((!true) = false),
  ((!true) = false),
  ((!true) = false),
  (false = false),
  ((nb : Nat) = nb),
  (∀ i : Nat, (((i : Nat) < nb) → (([.int .i64 ((g i).1), .int .i64 ((g i).2.1)] : List PV) = [.int .i64 ((g i).1), .int .i64 ((g i).2.1)]))),
  ((0 : Nat) = 0),
  ((a : Int) = a),
  ((b : Int) = b),
  ((want : Int) = want),
  ((3 : Nat) = 3),
  ((1 : Nat) ≤ 1),
  ((1 : Nat) ≤ 1),
  ((0 : Nat) = 0),
  ((N : Nat) = N),
  ((0 : Nat) = 0),
  ((m : Nat) = m),
  ((0 : Nat) = 0),
  ((m : Nat) = m),
  ((1 : Nat) = 1),
  ((N : Nat) ≤ N),
  (∀ i : Nat, (((i : Nat) < N) → (All [] ∧ (([.p (.int .i64 (F1 i))] : List AV) = [.p (.int .i64 (F1 i))])))),
  ((1 : Nat) = 1),
  ((m : Nat) ≤ m),
  (∀ i : Nat, (((i : Nat) < m) → (All [] ∧ (([.p (.int .i64 (T1 i))] : List AV) = [.p (.int .i64 (T1 i))])))),
  ((1 : Nat) = 1),
  ((m : Nat) ≤ m),
  (∀ i : Nat, (((i : Nat) < m) → (All [] ∧ (([.p (.int .i64 (Q i))] : List AV) = [.p (.int .i64 (Q i))]))))]) := by kernel_rfl
theorem pGb (g : Nat → T_Bar) (nb N m : Nat) (F T Q F1 T1 F2 T2 : Nat → Int) (a b want : Int) :
    pieceOb Try.prog 4 [.reg [oT, oT, oT, oT, oT, oT, oT, oT, oT, oT, oT, oT, oT, oT, oT, oT, oT], .dec true, .reg [oT, oT, oT, oT, ⟨true, (some ⟨[0, 1, 2, 3], [], 1, pebH N m F1 T1 Q, .p (.bool false)⟩), none⟩, oT, oT, ⟨true, none, some true⟩, ⟨true, none, some true⟩, ⟨true, none, some true⟩, ⟨true, none, some true⟩, ⟨true, (some ⟨[0, 1, 2, 3], [], 1, pebH N m F2 T2 Q, .p (.bool true)⟩), some true⟩, ⟨true, none, some true⟩, ⟨true, none, some true⟩], .dec false, .head] [.code (cAt (bodyOf Try.f170) [1, 0, 0, 0]), .inLoop (cAt (bodyOf Try.f170) [1, 0, 0, 0]), .inBlock 0, .code (cAt (bodyOf Try.f170) [1, 1])] (SG g nb N m F T Q a b want) [0, 1, 2, 3] 1 (SG g nb N m F2 T2 Q a b want) =
    some ([.code (cAt (bodyOf Try.f170) [1, 0, 0, 0]), .inLoop (cAt (bodyOf Try.f170) [1, 0, 0, 0]), .inBlock 0, .code (cAt (bodyOf Try.f170) [1, 1])], [((0 : Nat) < 1),
  ((0 : Int) ≤ a),
  ((a : Int) < (↑N : Int)),
  ((a.toNat : Nat) < N),
  ((0 : Nat) < 1),
  ((0 : Int) ≤ b),
  ((b : Int) < (↑N : Int)),
  ((b.toNat : Nat) < N),
  (((-9223372036854775808) : Int) ≤ (F a.toNat + F b.toNat)),
  (((F a.toNat + F b.toNat) : Int) ≤ 9223372036854775807),
  ((decide (F (a.toNat + 0) + F (b.toNat + 0) < want)) = true),
  (∀ i : Nat, (((i : Nat) < 1) → All [])),
  (∀ i : Nat, (((i : Nat) < N) → All [])),
  (∀ i : Nat, (((i : Nat) < m) → All [])),
  (∀ i : Nat, (((i : Nat) < m) → All [])),
  Con Try.prog 174 4 [(0, ⟨true, 3, 1, (fun i => [.ar 1 1 0 N, .ar 1 2 0 m, .ar 1 3 0 m])⟩), (1, ⟨false, 1, N, (fun i => [.p (.int .i64 (F i))])⟩), (2, ⟨false, 1, m, (fun i => [.p (.int .i64 (T i))])⟩), (3, ⟨false, 1, m, (fun i => [.p (.int .i64 (Q i))])⟩)] [.p (.seq true 2 nb (fun i => [.int .i64 ((g i).1), .int .i64 ((g i).2.1)])), .pt 3 0 0 0, .p (.int .i64 a), .p (.int .i64 b)] [(0, ⟨true, 3, 1, (fun i => [.ar 1 1 0 N, .ar 1 2 0 m, .ar 1 3 0 m])⟩), (1, ⟨false, 1, N, (fun i => [.p (.int .i64 (F1 i))])⟩), (2, ⟨false, 1, m, (fun i => [.p (.int .i64 (T1 i))])⟩), (3, ⟨false, 1, m, (fun i => [.p (.int .i64 (Q i))])⟩)] (.p (.bool false)),
  ((!false) = true),
  ((!false) = true),
  ((!false) = true),
  ((!false) = true),
  ((!false) = true),
  (∀ i : Nat, (((i : Nat) < 1) → All [])),
  (∀ i : Nat, (((i : Nat) < N) → All [])),
  (∀ i : Nat, (((i : Nat) < m) → All [])),
  (∀ i : Nat, (((i : Nat) < m) → All [])),
  Con Try.prog 174 4 [(0, ⟨true, 3, 1, (fun i => [.ar 1 1 0 N, .ar 1 2 0 m, .ar 1 3 0 m])⟩), (1, ⟨false, 1, N, (fun i => [.p (.int .i64 (F1 i))])⟩), (2, ⟨false, 1, m, (fun i => [.p (.int .i64 (T1 i))])⟩), (3, ⟨false, 1, m, (fun i => [.p (.int .i64 (Q i))])⟩)] [.p (.seq true 2 nb (fun i => [.int .i64 ((g i).1), .int .i64 ((g i).2.1)])), .pt 3 0 0 0, .p (.int .i64 b), .p (.int .i64 a)] [(0, ⟨true, 3, 1, (fun i => [.ar 1 1 0 N, .ar 1 2 0 m, .ar 1 3 0 m])⟩), (1, ⟨false, 1, N, (fun i => [.p (.int .i64 (F2 i))])⟩), (2, ⟨false, 1, m, (fun i => [.p (.int .i64 (T2 i))])⟩), (3, ⟨false, 1, m, (fun i => [.p (.int .i64 (Q i))])⟩)] (.p (.bool true)),
  ((!false) = true),
  ((!false) = true),
  ((!true) = false),
  ((nb : Nat) = nb),
  (∀ i : Nat, (((i : Nat) < nb) → (([.int .i64 ((g i).1), .int .i64 ((g i).2.1)] : List PV) = [.int .i64 ((g i).1), .int .i64 ((g i).2.1)]))),
  ((0 : Nat) = 0),
  ((a : Int) = a),
  ((b : Int) = b),
  ((want : Int) = want),
  ((3 : Nat) = 3),
  ((1 : Nat) ≤ 1),
  ((1 : Nat) ≤ 1),
  ((0 : Nat) = 0),
  ((N : Nat) = N),
  ((0 : Nat) = 0),
  ((m : Nat) = m),
  ((0 : Nat) = 0),
  ((m : Nat) = m),
  ((1 : Nat) = 1),
  ((N : Nat) ≤ N),
  (∀ i : Nat, (((i : Nat) < N) → (All [] ∧ (([.p (.int .i64 (F2 i))] : List AV) = [.p (.int .i64 (F2 i))])))),
  ((1 : Nat) = 1),
  ((m : Nat) ≤ m),
  (∀ i : Nat, (((i : Nat) < m) → (All [] ∧ (([.p (.int .i64 (T2 i))] : List AV) = [.p (.int .i64 (T2 i))])))),
  ((1 : Nat) = 1),
  ((m : Nat) ≤ m),
  (∀ i : Nat, (((i : Nat) < m) → (All [] ∧ (([.p (.int .i64 (Q i))] : List AV) = [.p (.int .i64 (Q i))]))))]) := by kernel_rfl
theorem pGc (g : Nat → T_Bar) (nb N m : Nat) (F T Q F1 T1 F2 T2 : Nat → Int) (a b want : Int) :
    pathOb Try.prog Try.f170 4 [.reg [oT, oT, oT, oT, oT, oT, oT, oT, oT, oT, oT, oT, oT, oT, oT, oT, oT], .dec true, .reg [oT, oT, oT, oT, ⟨true, (some ⟨[0, 1, 2, 3], [], 1, pebH N m F1 T1 Q, .p (.bool false)⟩), none⟩, oT, oT, ⟨true, none, some true⟩, ⟨true, none, some true⟩, ⟨true, none, some true⟩, ⟨true, none, some true⟩, ⟨true, (some ⟨[0, 1, 2, 3], [], 1, pebH N m F2 T2 Q, .p (.bool false)⟩), some true⟩, ⟨true, none, some true⟩, ⟨true, none, some true⟩], .dec true, .reg [oT]] [.code (cAt (bodyOf Try.f170) [1, 0, 0, 0]), .inLoop (cAt (bodyOf Try.f170) [1, 0, 0, 0]), .inBlock 0, .code (cAt (bodyOf Try.f170) [1, 1])] (SG g nb N m F T Q a b want) [0, 1, 2, 3] 1 (pebH N m F2 T2 Q) (.p (.bool false)) =
    some [((0 : Nat) < 1),
  ((0 : Int) ≤ a),
  ((a : Int) < (↑N : Int)),
  ((a.toNat : Nat) < N),
  ((0 : Nat) < 1),
  ((0 : Int) ≤ b),
  ((b : Int) < (↑N : Int)),
  ((b.toNat : Nat) < N),
  (((-9223372036854775808) : Int) ≤ (F a.toNat + F b.toNat)),
  (((F a.toNat + F b.toNat) : Int) ≤ 9223372036854775807),
  ((decide (F (a.toNat + 0) + F (b.toNat + 0) < want)) = true),
  (∀ i : Nat, (((i : Nat) < 1) → All [])),
  (∀ i : Nat, (((i : Nat) < N) → All [])),
  (∀ i : Nat, (((i : Nat) < m) → All [])),
  (∀ i : Nat, (((i : Nat) < m) → All [])),
  Con Try.prog 174 4 [(0, ⟨true, 3, 1, (fun i => [.ar 1 1 0 N, .ar 1 2 0 m, .ar 1 3 0 m])⟩), (1, ⟨false, 1, N, (fun i => [.p (.int .i64 (F i))])⟩), (2, ⟨false, 1, m, (fun i => [.p (.int .i64 (T i))])⟩), (3, ⟨false, 1, m, (fun i => [.p (.int .i64 (Q i))])⟩)] [.p (.seq true 2 nb (fun i => [.int .i64 ((g i).1), .int .i64 ((g i).2.1)])), .pt 3 0 0 0, .p (.int .i64 a), .p (.int .i64 b)] [(0, ⟨true, 3, 1, (fun i => [.ar 1 1 0 N, .ar 1 2 0 m, .ar 1 3 0 m])⟩), (1, ⟨false, 1, N, (fun i => [.p (.int .i64 (F1 i))])⟩), (2, ⟨false, 1, m, (fun i => [.p (.int .i64 (T1 i))])⟩), (3, ⟨false, 1, m, (fun i => [.p (.int .i64 (Q i))])⟩)] (.p (.bool false)),
  ((!false) = true),
  ((!false) = true),
  ((!false) = true),
  ((!false) = true),
  ((!false) = true),
  (∀ i : Nat, (((i : Nat) < 1) → All [])),
  (∀ i : Nat, (((i : Nat) < N) → All [])),
  (∀ i : Nat, (((i : Nat) < m) → All [])),
  (∀ i : Nat, (((i : Nat) < m) → All [])),
  Con Try.prog 174 4 [(0, ⟨true, 3, 1, (fun i => [.ar 1 1 0 N, .ar 1 2 0 m, .ar 1 3 0 m])⟩), (1, ⟨false, 1, N, (fun i => [.p (.int .i64 (F1 i))])⟩), (2, ⟨false, 1, m, (fun i => [.p (.int .i64 (T1 i))])⟩), (3, ⟨false, 1, m, (fun i => [.p (.int .i64 (Q i))])⟩)] [.p (.seq true 2 nb (fun i => [.int .i64 ((g i).1), .int .i64 ((g i).2.1)])), .pt 3 0 0 0, .p (.int .i64 b), .p (.int .i64 a)] [(0, ⟨true, 3, 1, (fun i => [.ar 1 1 0 N, .ar 1 2 0 m, .ar 1 3 0 m])⟩), (1, ⟨false, 1, N, (fun i => [.p (.int .i64 (F2 i))])⟩), (2, ⟨false, 1, m, (fun i => [.p (.int .i64 (T2 i))])⟩), (3, ⟨false, 1, m, (fun i => [.p (.int .i64 (Q i))])⟩)] (.p (.bool false)),
  ((!false) = true),
  ((!false) = true),
  ((!false) = true),
  (false = false),
  ((3 : Nat) = 3),
  ((1 : Nat) ≤ 1),
  ((1 : Nat) ≤ 1),
  ((0 : Nat) = 0),
  ((N : Nat) = N),
  ((0 : Nat) = 0),
  ((m : Nat) = m),
  ((0 : Nat) = 0),
  ((m : Nat) = m),
  ((1 : Nat) = 1),
  ((N : Nat) ≤ N),
  (∀ i : Nat, (((i : Nat) < N) → (All [] ∧ (([.p (.int .i64 (F2 i))] : List AV) = [.p (.int .i64 (F2 i))])))),
  ((1 : Nat) = 1),
  ((m : Nat) ≤ m),
  (∀ i : Nat, (((i : Nat) < m) → (All [] ∧ (([.p (.int .i64 (T2 i))] : List AV) = [.p (.int .i64 (T2 i))])))),
  ((1 : Nat) = 1),
  ((m : Nat) ≤ m),
  (∀ i : Nat, (((i : Nat) < m) → (All [] ∧ (([.p (.int .i64 (Q i))] : List AV) = [.p (.int .i64 (Q i))])))),
  (∀ i : Nat, (((i : Nat) < 1) → All [])),
  (∀ i : Nat, (((i : Nat) < N) → All [])),
  (∀ i : Nat, (((i : Nat) < m) → All [])),
  (∀ i : Nat, (((i : Nat) < m) → All []))] := by kernel_rfl
theorem pGd (g : Nat → T_Bar) (nb N m : Nat) (F T Q : Nat → Int) (a b want : Int) :
    pathOb Try.prog Try.f170 4 [.reg [oT, oT, oT, oT, oT, oT, oT, oT, oT, oT, oT, oT, oT, oT, oT, oT, oT], .dec false, .reg [oT]] [.code (cAt (bodyOf Try.f170) [1, 0, 0, 0]), .inLoop (cAt (bodyOf Try.f170) [1, 0, 0, 0]), .inBlock 0, .code (cAt (bodyOf Try.f170) [1, 1])] (SG g nb N m F T Q a b want) [0, 1, 2, 3] 1 (pebH N m F T Q) (.p (.bool true)) =
    some [((0 : Nat) < 1),
  ((0 : Int) ≤ a),
  ((a : Int) < (↑N : Int)),
  ((a.toNat : Nat) < N),
  ((0 : Nat) < 1),
  ((0 : Int) ≤ b),
  ((b : Int) < (↑N : Int)),
  ((b.toNat : Nat) < N),
  (((-9223372036854775808) : Int) ≤ (F a.toNat + F b.toNat)),
  (((F a.toNat + F b.toNat) : Int) ≤ 9223372036854775807),
  ((decide (F (a.toNat + 0) + F (b.toNat + 0) < want)) = false),
  (true = true),
  ((3 : Nat) = 3),
  ((1 : Nat) ≤ 1),
  ((1 : Nat) ≤ 1),
  ((0 : Nat) = 0),
  ((N : Nat) = N),
  ((0 : Nat) = 0),
  ((m : Nat) = m),
  ((0 : Nat) = 0),
  ((m : Nat) = m),
  ((1 : Nat) = 1),
  ((N : Nat) ≤ N),
  (∀ i : Nat, (((i : Nat) < N) → (All [] ∧ (([.p (.int .i64 (F i))] : List AV) = [.p (.int .i64 (F i))])))),
  ((1 : Nat) = 1),
  ((m : Nat) ≤ m),
  (∀ i : Nat, (((i : Nat) < m) → (All [] ∧ (([.p (.int .i64 (T i))] : List AV) = [.p (.int .i64 (T i))])))),
  ((1 : Nat) = 1),
  ((m : Nat) ≤ m),
  (∀ i : Nat, (((i : Nat) < m) → (All [] ∧ (([.p (.int .i64 (Q i))] : List AV) = [.p (.int .i64 (Q i))])))),
  (∀ i : Nat, (((i : Nat) < 1) → All [])),
  (∀ i : Nat, (((i : Nat) < N) → All [])),
  (∀ i : Nat, (((i : Nat) < m) → All [])),
  (∀ i : Nat, (((i : Nat) < m) → All []))] := by kernel_rfl
theorem pPf (g : Nat → T_Bar) (nb N m : Nat) (F T Q F1 T1 : Nat → Int) (l : Int) (e : Nat) :
    pathOb Try.prog Try.f159 4 [.reg [oT], .reg [oT, oT, oT, oT, oT, oT], .reg [oT, oT, oT, oT, oT, oT, oT, oT, ⟨true, (some ⟨[0, 1, 2, 3], [], 1, pebH N m F1 T1 Q, .p (.bool false)⟩), none⟩, oT], .dec true, .reg [oT]] [.code (bodyOf Try.f159)] (start Try.f159 (pebH N m F T Q) 4 [brL g nb, .p (.int .i64 l), .pt 3 0 0 0, .p (.int .i64 e)]) [0, 1, 2, 3] 1 (pebH N m F1 T1 Q) (.p (.bool false)) =
    some [((0 : Int) ≤ (↑e : Int)),
  (((↑e : Int) : Int) < (↑nb : Int)),
  ((0 : Nat) < 1),
  ((true = true) → ((1 : Nat) = 1)),
  ((0 : Nat) < 1),
  ((0 : Nat) < 1),
  (((-9223372036854775808) : Int) ≤ (l + 1)),
  (((l + 1) : Int) ≤ 9223372036854775807),
  (∀ i : Nat, (((i : Nat) < 1) → All [])),
  (∀ i : Nat, (((i : Nat) < N) → All [])),
  (∀ i : Nat, (((i : Nat) < m) → All [])),
  (∀ i : Nat, (((i : Nat) < m) → All [])),
  Con Try.prog 170 4 [(0, ⟨true, 3, 1, (fun i => [.ar 1 1 0 N, .ar 1 2 0 m, .ar 1 3 0 m])⟩), (1, ⟨false, 1, N, (fun i => [.p (.int .i64 (F i))])⟩), (2, ⟨false, 1, m, (fun i => [.p (.int .i64 (T i))])⟩), (3, ⟨false, 1, m, (fun i => [.p (.int .i64 (Q i))])⟩)] [.p (.seq true 2 nb (fun i => [.int .i64 ((g i).1), .int .i64 ((g i).2.1)])), .pt 3 0 0 0, .p (.int .i64 ((g e).1)), .p (.int .i64 ((g e).2.1)), .p (.int .i64 (l + 1))] [(0, ⟨true, 3, 1, (fun i => [.ar 1 1 0 N, .ar 1 2 0 m, .ar 1 3 0 m])⟩), (1, ⟨false, 1, N, (fun i => [.p (.int .i64 (F1 i))])⟩), (2, ⟨false, 1, m, (fun i => [.p (.int .i64 (T1 i))])⟩), (3, ⟨false, 1, m, (fun i => [.p (.int .i64 (Q i))])⟩)] (.p (.bool false)),
  ((!false) = true),
  (false = false),
  ((3 : Nat) = 3),
  ((1 : Nat) ≤ 1),
  ((1 : Nat) ≤ 1),
  ((0 : Nat) = 0),
  ((N : Nat) = N),
  ((0 : Nat) = 0),
  ((m : Nat) = m),
  ((0 : Nat) = 0),
  ((m : Nat) = m),
  ((1 : Nat) = 1),
  ((N : Nat) ≤ N),
  (∀ i : Nat, (((i : Nat) < N) → (All [] ∧ (([.p (.int .i64 (F1 i))] : List AV) = [.p (.int .i64 (F1 i))])))),
  ((1 : Nat) = 1),
  ((m : Nat) ≤ m),
  (∀ i : Nat, (((i : Nat) < m) → (All [] ∧ (([.p (.int .i64 (T1 i))] : List AV) = [.p (.int .i64 (T1 i))])))),
  ((1 : Nat) = 1),
  ((m : Nat) ≤ m),
  (∀ i : Nat, (((i : Nat) < m) → (All [] ∧ (([.p (.int .i64 (Q i))] : List AV) = [.p (.int .i64 (Q i))])))),
  (∀ i : Nat, (((i : Nat) < 1) → All [])),
  (∀ i : Nat, (((i : Nat) < N) → All [])),
  (∀ i : Nat, (((i : Nat) < m) → All [])),
  (∀ i : Nat, (((i : Nat) < m) → All []))] := by kernel_rfl
theorem pPa (g : Nat → T_Bar) (nb N m : Nat) (F T Q F1 T1 : Nat → Int) (l : Int) (e : Nat) :
    pathOb Try.prog Try.f159 4 [.reg [oT], .reg [oT, oT, oT, oT, oT, oT], .reg [oT, oT, oT, oT, oT, oT, oT, oT, ⟨true, (some ⟨[0, 1, 2, 3], [], 1, pebH N m F1 T1 Q, .p (.bool true)⟩), none⟩, oT], .dec false, .reg [oT, oT, oT], .reg [oT, oT, oT, oT, oT, oT, oT, oT, oT], .dec false, .reg [oT, oT, oT, oT, oT, oT, oT, oT, oT, oT], .reg [oT, oT, oT, oT, oT, oT, oT, oT, oT, oT, oT], .reg [oT, oT, oT, oT, oT, oT, oT, oT, oT, oT, oT], .reg [oT]] [.code (bodyOf Try.f159)] (start Try.f159 (pebH N m F T Q) 4 [brL g nb, .p (.int .i64 l), .pt 3 0 0 0, .p (.int .i64 e)]) [0, 1, 2, 3, 1476, 1828] 1 (pebH2 N (m + 1) (fun s => if s = (g e).1.toNat then F1 s - 1 else F1 s) (fun s => if s < m then T1 s else (g e).1) (fun s => if s < m then Q s else e)) (.p (.bool true)) =
    some [((0 : Int) ≤ (↑e : Int)),
  (((↑e : Int) : Int) < (↑nb : Int)),
  ((0 : Nat) < 1),
  ((true = true) → ((1 : Nat) = 1)),
  ((0 : Nat) < 1),
  ((0 : Nat) < 1),
  (((-9223372036854775808) : Int) ≤ (l + 1)),
  (((l + 1) : Int) ≤ 9223372036854775807),
  (∀ i : Nat, (((i : Nat) < 1) → All [])),
  (∀ i : Nat, (((i : Nat) < N) → All [])),
  (∀ i : Nat, (((i : Nat) < m) → All [])),
  (∀ i : Nat, (((i : Nat) < m) → All [])),
  Con Try.prog 170 4 [(0, ⟨true, 3, 1, (fun i => [.ar 1 1 0 N, .ar 1 2 0 m, .ar 1 3 0 m])⟩), (1, ⟨false, 1, N, (fun i => [.p (.int .i64 (F i))])⟩), (2, ⟨false, 1, m, (fun i => [.p (.int .i64 (T i))])⟩), (3, ⟨false, 1, m, (fun i => [.p (.int .i64 (Q i))])⟩)] [.p (.seq true 2 nb (fun i => [.int .i64 ((g i).1), .int .i64 ((g i).2.1)])), .pt 3 0 0 0, .p (.int .i64 ((g e).1)), .p (.int .i64 ((g e).2.1)), .p (.int .i64 (l + 1))] [(0, ⟨true, 3, 1, (fun i => [.ar 1 1 0 N, .ar 1 2 0 m, .ar 1 3 0 m])⟩), (1, ⟨false, 1, N, (fun i => [.p (.int .i64 (F1 i))])⟩), (2, ⟨false, 1, m, (fun i => [.p (.int .i64 (T1 i))])⟩), (3, ⟨false, 1, m, (fun i => [.p (.int .i64 (Q i))])⟩)] (.p (.bool true)),
  ((!true) = false),
  ((0 : Nat) < 1),
  ((0 : Nat) < 1),
  ((0 : Nat) < 1),
  ((0 : Int) ≤ ((g e).1)),
  ((((g e).1) : Int) < (↑N : Int)),
  ((((g e).1.toNat) : Nat) < N),
  ((F1 (g e).1.toNat == 0) = false),
  ((0 : Nat) < 1),
  ((0 : Int) ≤ ((g e).1)),
  ((((g e).1) : Int) < (↑N : Int)),
  ((((g e).1.toNat) : Nat) < N),
  (((-9223372036854775808) : Int) ≤ (F1 (g e).1.toNat - 1)),
  (((F1 (g e).1.toNat - 1) : Int) ≤ 9223372036854775807),
  ((0 : Int) ≤ ((g e).1)),
  ((((g e).1) : Int) < (↑N : Int)),
  ((((g e).1.toNat) : Nat) < N),
  ((false = true) → ((N : Nat) = 1)),
  ((0 : Nat) < 1),
  ((1 : Nat) ≤ 1),
  ((m : Nat) ≤ m),
  ((((m + 1) * 8) : Nat) ≤ 140737488355328),
  (((m + 1) : Nat) ≤ 9223372036854775807),
  ((0 : Nat) < 1),
  ((true = true) → ((1 : Nat) = 1)),
  ((0 : Nat) < 1),
  ((1 : Nat) ≤ 1),
  ((m : Nat) ≤ m),
  ((((m + 1) * 8) : Nat) ≤ 140737488355328),
  (((m + 1) : Nat) ≤ 9223372036854775807),
  ((0 : Nat) < 1),
  ((true = true) → ((1 : Nat) = 1)),
  (true = true),
  ((3 : Nat) = 3),
  ((1 : Nat) ≤ 1),
  ((1 : Nat) ≤ 1),
  ((0 : Nat) = 0),
  ((N : Nat) = N),
  ((0 : Nat) = 0),
  (((m + 1) : Nat) = (m + 1)),
  ((0 : Nat) = 0),
  (((m + 1) : Nat) = (m + 1)),
  ((1 : Nat) = 1),
  ((N : Nat) ≤ N),
  (∀ i : Nat, (((i : Nat) < N) → (All (cvtL false [(0, ⟨true, 3, 1, (fun i_1 => [.ar 1 1 0 N, .ar 1 1476 0 (m + 1), .ar 1 1828 0 (m + 1)])⟩), (1828, ⟨false, 1, (m + 1), (fun i_1 => (if (i_1 < m) then [.p (.int .i64 (Q i_1))] else [.p (.int .i64 (↑e : Int))]))⟩), (1796, ⟨false, 1, 1, (fun i_1 => [.p (.int .i64 (↑e : Int))])⟩), (1476, ⟨false, 1, (m + 1), (fun i_1 => (if (i_1 < m) then [.p (.int .i64 (T1 i_1))] else [.p (.int .i64 ((g e).1))]))⟩), (1444, ⟨false, 1, 1, (fun i_1 => [.p (.int .i64 ((g e).1))])⟩), (1, ⟨false, 1, N, (fun i_1 => (if (i_1 = (g e).1.toNat) then [.p (.int .i64 (F1 (g e).1.toNat - 1))] else [.p (.int .i64 (F1 i_1))]))⟩), (164, ⟨true, 2, 1, (fun i_1 => [.p (.int .i64 ((g e).1)), .p (.int .i64 ((g e).2.1))])⟩)] [0, 1, 2, 3, 1476, 1828] 1 (if (i = (g e).1.toNat) then [.p (.int .i64 (F1 (g e).1.toNat - 1))] else [.p (.int .i64 (F1 i))])).2 ∧ (((cvtL false [(0, ⟨true, 3, 1, (fun i_1 => [.ar 1 1 0 N, .ar 1 1476 0 (m + 1), .ar 1 1828 0 (m + 1)])⟩), (1828, ⟨false, 1, (m + 1), (fun i_1 => (if (i_1 < m) then [.p (.int .i64 (Q i_1))] else [.p (.int .i64 (↑e : Int))]))⟩), (1796, ⟨false, 1, 1, (fun i_1 => [.p (.int .i64 (↑e : Int))])⟩), (1476, ⟨false, 1, (m + 1), (fun i_1 => (if (i_1 < m) then [.p (.int .i64 (T1 i_1))] else [.p (.int .i64 ((g e).1))]))⟩), (1444, ⟨false, 1, 1, (fun i_1 => [.p (.int .i64 ((g e).1))])⟩), (1, ⟨false, 1, N, (fun i_1 => (if (i_1 = (g e).1.toNat) then [.p (.int .i64 (F1 (g e).1.toNat - 1))] else [.p (.int .i64 (F1 i_1))]))⟩), (164, ⟨true, 2, 1, (fun i_1 => [.p (.int .i64 ((g e).1)), .p (.int .i64 ((g e).2.1))])⟩)] [0, 1, 2, 3, 1476, 1828] 1 (if (i = (g e).1.toNat) then [.p (.int .i64 (F1 (g e).1.toNat - 1))] else [.p (.int .i64 (F1 i))])).1 : List AV) = [.p (.int .i64 (if i = (g e).1.toNat then F1 i - 1 else F1 i))])))),
  ((1 : Nat) = 1),
  (((m + 1) : Nat) ≤ (m + 1)),
  (∀ i : Nat, (((i : Nat) < (m + 1)) → (All (cvtL false [(0, ⟨true, 3, 1, (fun i_1 => [.ar 1 1 0 N, .ar 1 1476 0 (m + 1), .ar 1 1828 0 (m + 1)])⟩), (1828, ⟨false, 1, (m + 1), (fun i_1 => (if (i_1 < m) then [.p (.int .i64 (Q i_1))] else [.p (.int .i64 (↑e : Int))]))⟩), (1796, ⟨false, 1, 1, (fun i_1 => [.p (.int .i64 (↑e : Int))])⟩), (1476, ⟨false, 1, (m + 1), (fun i_1 => (if (i_1 < m) then [.p (.int .i64 (T1 i_1))] else [.p (.int .i64 ((g e).1))]))⟩), (1444, ⟨false, 1, 1, (fun i_1 => [.p (.int .i64 ((g e).1))])⟩), (1, ⟨false, 1, N, (fun i_1 => (if (i_1 = (g e).1.toNat) then [.p (.int .i64 (F1 (g e).1.toNat - 1))] else [.p (.int .i64 (F1 i_1))]))⟩), (164, ⟨true, 2, 1, (fun i_1 => [.p (.int .i64 ((g e).1)), .p (.int .i64 ((g e).2.1))])⟩)] [0, 1, 2, 3, 1476, 1828] 1 (if (i < m) then [.p (.int .i64 (T1 i))] else [.p (.int .i64 ((g e).1))])).2 ∧ (((cvtL false [(0, ⟨true, 3, 1, (fun i_1 => [.ar 1 1 0 N, .ar 1 1476 0 (m + 1), .ar 1 1828 0 (m + 1)])⟩), (1828, ⟨false, 1, (m + 1), (fun i_1 => (if (i_1 < m) then [.p (.int .i64 (Q i_1))] else [.p (.int .i64 (↑e : Int))]))⟩), (1796, ⟨false, 1, 1, (fun i_1 => [.p (.int .i64 (↑e : Int))])⟩), (1476, ⟨false, 1, (m + 1), (fun i_1 => (if (i_1 < m) then [.p (.int .i64 (T1 i_1))] else [.p (.int .i64 ((g e).1))]))⟩), (1444, ⟨false, 1, 1, (fun i_1 => [.p (.int .i64 ((g e).1))])⟩), (1, ⟨false, 1, N, (fun i_1 => (if (i_1 = (g e).1.toNat) then [.p (.int .i64 (F1 (g e).1.toNat - 1))] else [.p (.int .i64 (F1 i_1))]))⟩), (164, ⟨true, 2, 1, (fun i_1 => [.p (.int .i64 ((g e).1)), .p (.int .i64 ((g e).2.1))])⟩)] [0, 1, 2, 3, 1476, 1828] 1 (if (i < m) then [.p (.int .i64 (T1 i))] else [.p (.int .i64 ((g e).1))])).1 : List AV) = [.p (.int .i64 (if i < m then T1 i else (g e).1))])))),
  ((1 : Nat) = 1),
  (((m + 1) : Nat) ≤ (m + 1)),
  (∀ i : Nat, (((i : Nat) < (m + 1)) → (All (cvtL false [(0, ⟨true, 3, 1, (fun i_1 => [.ar 1 1 0 N, .ar 1 1476 0 (m + 1), .ar 1 1828 0 (m + 1)])⟩), (1828, ⟨false, 1, (m + 1), (fun i_1 => (if (i_1 < m) then [.p (.int .i64 (Q i_1))] else [.p (.int .i64 (↑e : Int))]))⟩), (1796, ⟨false, 1, 1, (fun i_1 => [.p (.int .i64 (↑e : Int))])⟩), (1476, ⟨false, 1, (m + 1), (fun i_1 => (if (i_1 < m) then [.p (.int .i64 (T1 i_1))] else [.p (.int .i64 ((g e).1))]))⟩), (1444, ⟨false, 1, 1, (fun i_1 => [.p (.int .i64 ((g e).1))])⟩), (1, ⟨false, 1, N, (fun i_1 => (if (i_1 = (g e).1.toNat) then [.p (.int .i64 (F1 (g e).1.toNat - 1))] else [.p (.int .i64 (F1 i_1))]))⟩), (164, ⟨true, 2, 1, (fun i_1 => [.p (.int .i64 ((g e).1)), .p (.int .i64 ((g e).2.1))])⟩)] [0, 1, 2, 3, 1476, 1828] 1 (if (i < m) then [.p (.int .i64 (Q i))] else [.p (.int .i64 (↑e : Int))])).2 ∧ (((cvtL false [(0, ⟨true, 3, 1, (fun i_1 => [.ar 1 1 0 N, .ar 1 1476 0 (m + 1), .ar 1 1828 0 (m + 1)])⟩), (1828, ⟨false, 1, (m + 1), (fun i_1 => (if (i_1 < m) then [.p (.int .i64 (Q i_1))] else [.p (.int .i64 (↑e : Int))]))⟩), (1796, ⟨false, 1, 1, (fun i_1 => [.p (.int .i64 (↑e : Int))])⟩), (1476, ⟨false, 1, (m + 1), (fun i_1 => (if (i_1 < m) then [.p (.int .i64 (T1 i_1))] else [.p (.int .i64 ((g e).1))]))⟩), (1444, ⟨false, 1, 1, (fun i_1 => [.p (.int .i64 ((g e).1))])⟩), (1, ⟨false, 1, N, (fun i_1 => (if (i_1 = (g e).1.toNat) then [.p (.int .i64 (F1 (g e).1.toNat - 1))] else [.p (.int .i64 (F1 i_1))]))⟩), (164, ⟨true, 2, 1, (fun i_1 => [.p (.int .i64 ((g e).1)), .p (.int .i64 ((g e).2.1))])⟩)] [0, 1, 2, 3, 1476, 1828] 1 (if (i < m) then [.p (.int .i64 (Q i))] else [.p (.int .i64 (↑e : Int))])).1 : List AV) = [.p (.int .i64 (if i < m then Q i else (↑e : Int)))])))),
  (∀ i : Nat, (((i : Nat) < 1) → All [])),
  (∀ i : Nat, (((i : Nat) < N) → All [])),
  (∀ i : Nat, (((i : Nat) < (m + 1)) → All [])),
  (∀ i : Nat, (((i : Nat) < (m + 1)) → All []))] := by kernel_rfl
theorem pPb (g : Nat → T_Bar) (nb N m : Nat) (F T Q F1 T1 : Nat → Int) (l : Int) (e : Nat) :
    pathOb Try.prog Try.f159 4 [.reg [oT], .reg [oT, oT, oT, oT, oT, oT], .reg [oT, oT, oT, oT, oT, oT, oT, oT, ⟨true, (some ⟨[0, 1, 2, 3], [], 1, pebH N m F1 T1 Q, .p (.bool true)⟩), none⟩, oT], .dec false, .reg [oT, oT, oT], .reg [oT, oT, oT, oT, oT, oT, oT, oT, oT], .dec true, .reg [oT, oT, oT], .reg [oT, oT, oT, oT, oT, oT, oT, oT, oT, oT], .reg [oT, oT, oT, oT, oT, oT, oT, oT, oT, oT, oT], .reg [oT, oT, oT, oT, oT, oT, oT, oT, oT, oT, oT], .reg [oT]] [.code (bodyOf Try.f159)] (start Try.f159 (pebH N m F T Q) 4 [brL g nb, .p (.int .i64 l), .pt 3 0 0 0, .p (.int .i64 e)]) [0, 1, 2, 3, 1572, 1924] 1 (pebH2 N (m + 1) (fun s => if s = (g e).2.1.toNat then F1 s - 1 else F1 s) (fun s => if s < m then T1 s else (g e).2.1) (fun s => if s < m then Q s else e)) (.p (.bool true)) =
    some [((0 : Int) ≤ (↑e : Int)),
  (((↑e : Int) : Int) < (↑nb : Int)),
  ((0 : Nat) < 1),
  ((true = true) → ((1 : Nat) = 1)),
  ((0 : Nat) < 1),
  ((0 : Nat) < 1),
  (((-9223372036854775808) : Int) ≤ (l + 1)),
  (((l + 1) : Int) ≤ 9223372036854775807),
  (∀ i : Nat, (((i : Nat) < 1) → All [])),
  (∀ i : Nat, (((i : Nat) < N) → All [])),
  (∀ i : Nat, (((i : Nat) < m) → All [])),
  (∀ i : Nat, (((i : Nat) < m) → All [])),
  Con Try.prog 170 4 [(0, ⟨true, 3, 1, (fun i => [.ar 1 1 0 N, .ar 1 2 0 m, .ar 1 3 0 m])⟩), (1, ⟨false, 1, N, (fun i => [.p (.int .i64 (F i))])⟩), (2, ⟨false, 1, m, (fun i => [.p (.int .i64 (T i))])⟩), (3, ⟨false, 1, m, (fun i => [.p (.int .i64 (Q i))])⟩)] [.p (.seq true 2 nb (fun i => [.int .i64 ((g i).1), .int .i64 ((g i).2.1)])), .pt 3 0 0 0, .p (.int .i64 ((g e).1)), .p (.int .i64 ((g e).2.1)), .p (.int .i64 (l + 1))] [(0, ⟨true, 3, 1, (fun i => [.ar 1 1 0 N, .ar 1 2 0 m, .ar 1 3 0 m])⟩), (1, ⟨false, 1, N, (fun i => [.p (.int .i64 (F1 i))])⟩), (2, ⟨false, 1, m, (fun i => [.p (.int .i64 (T1 i))])⟩), (3, ⟨false, 1, m, (fun i => [.p (.int .i64 (Q i))])⟩)] (.p (.bool true)),
  ((!true) = false),
  ((0 : Nat) < 1),
  ((0 : Nat) < 1),
  ((0 : Nat) < 1),
  ((0 : Int) ≤ ((g e).1)),
  ((((g e).1) : Int) < (↑N : Int)),
  ((((g e).1.toNat) : Nat) < N),
  ((F1 (g e).1.toNat == 0) = true),
  ((0 : Nat) < 1),
  ((0 : Nat) < 1),
  ((0 : Int) ≤ ((g e).2.1)),
  ((((g e).2.1) : Int) < (↑N : Int)),
  ((((g e).2.1.toNat) : Nat) < N),
  (((-9223372036854775808) : Int) ≤ (F1 (g e).2.1.toNat - 1)),
  (((F1 (g e).2.1.toNat - 1) : Int) ≤ 9223372036854775807),
  ((0 : Int) ≤ ((g e).2.1)),
  ((((g e).2.1) : Int) < (↑N : Int)),
  ((((g e).2.1.toNat) : Nat) < N),
  ((false = true) → ((N : Nat) = 1)),
  ((0 : Nat) < 1),
  ((1 : Nat) ≤ 1),
  ((m : Nat) ≤ m),
  ((((m + 1) * 8) : Nat) ≤ 140737488355328),
  (((m + 1) : Nat) ≤ 9223372036854775807),
  ((0 : Nat) < 1),
  ((true = true) → ((1 : Nat) = 1)),
  ((0 : Nat) < 1),
  ((1 : Nat) ≤ 1),
  ((m : Nat) ≤ m),
  ((((m + 1) * 8) : Nat) ≤ 140737488355328),
  (((m + 1) : Nat) ≤ 9223372036854775807),
  ((0 : Nat) < 1),
  ((true = true) → ((1 : Nat) = 1)),
  (true = true),
  ((3 : Nat) = 3),
  ((1 : Nat) ≤ 1),
  ((1 : Nat) ≤ 1),
  ((0 : Nat) = 0),
  ((N : Nat) = N),
  ((0 : Nat) = 0),
  (((m + 1) : Nat) = (m + 1)),
  ((0 : Nat) = 0),
  (((m + 1) : Nat) = (m + 1)),
  ((1 : Nat) = 1),
  ((N : Nat) ≤ N),
  (∀ i : Nat, (((i : Nat) < N) → (All (cvtL false [(0, ⟨true, 3, 1, (fun i_1 => [.ar 1 1 0 N, .ar 1 1572 0 (m + 1), .ar 1 1924 0 (m + 1)])⟩), (1924, ⟨false, 1, (m + 1), (fun i_1 => (if (i_1 < m) then [.p (.int .i64 (Q i_1))] else [.p (.int .i64 (↑e : Int))]))⟩), (1892, ⟨false, 1, 1, (fun i_1 => [.p (.int .i64 (↑e : Int))])⟩), (1572, ⟨false, 1, (m + 1), (fun i_1 => (if (i_1 < m) then [.p (.int .i64 (T1 i_1))] else [.p (.int .i64 ((g e).2.1))]))⟩), (1540, ⟨false, 1, 1, (fun i_1 => [.p (.int .i64 ((g e).2.1))])⟩), (1, ⟨false, 1, N, (fun i_1 => (if (i_1 = (g e).2.1.toNat) then [.p (.int .i64 (F1 (g e).2.1.toNat - 1))] else [.p (.int .i64 (F1 i_1))]))⟩), (164, ⟨true, 2, 1, (fun i_1 => [.p (.int .i64 ((g e).1)), .p (.int .i64 ((g e).2.1))])⟩)] [0, 1, 2, 3, 1572, 1924] 1 (if (i = (g e).2.1.toNat) then [.p (.int .i64 (F1 (g e).2.1.toNat - 1))] else [.p (.int .i64 (F1 i))])).2 ∧ (((cvtL false [(0, ⟨true, 3, 1, (fun i_1 => [.ar 1 1 0 N, .ar 1 1572 0 (m + 1), .ar 1 1924 0 (m + 1)])⟩), (1924, ⟨false, 1, (m + 1), (fun i_1 => (if (i_1 < m) then [.p (.int .i64 (Q i_1))] else [.p (.int .i64 (↑e : Int))]))⟩), (1892, ⟨false, 1, 1, (fun i_1 => [.p (.int .i64 (↑e : Int))])⟩), (1572, ⟨false, 1, (m + 1), (fun i_1 => (if (i_1 < m) then [.p (.int .i64 (T1 i_1))] else [.p (.int .i64 ((g e).2.1))]))⟩), (1540, ⟨false, 1, 1, (fun i_1 => [.p (.int .i64 ((g e).2.1))])⟩), (1, ⟨false, 1, N, (fun i_1 => (if (i_1 = (g e).2.1.toNat) then [.p (.int .i64 (F1 (g e).2.1.toNat - 1))] else [.p (.int .i64 (F1 i_1))]))⟩), (164, ⟨true, 2, 1, (fun i_1 => [.p (.int .i64 ((g e).1)), .p (.int .i64 ((g e).2.1))])⟩)] [0, 1, 2, 3, 1572, 1924] 1 (if (i = (g e).2.1.toNat) then [.p (.int .i64 (F1 (g e).2.1.toNat - 1))] else [.p (.int .i64 (F1 i))])).1 : List AV) = [.p (.int .i64 (if i = (g e).2.1.toNat then F1 i - 1 else F1 i))])))),
  ((1 : Nat) = 1),
  (((m + 1) : Nat) ≤ (m + 1)),
  (∀ i : Nat, (((i : Nat) < (m + 1)) → (All (cvtL false [(0, ⟨true, 3, 1, (fun i_1 => [.ar 1 1 0 N, .ar 1 1572 0 (m + 1), .ar 1 1924 0 (m + 1)])⟩), (1924, ⟨false, 1, (m + 1), (fun i_1 => (if (i_1 < m) then [.p (.int .i64 (Q i_1))] else [.p (.int .i64 (↑e : Int))]))⟩), (1892, ⟨false, 1, 1, (fun i_1 => [.p (.int .i64 (↑e : Int))])⟩), (1572, ⟨false, 1, (m + 1), (fun i_1 => (if (i_1 < m) then [.p (.int .i64 (T1 i_1))] else [.p (.int .i64 ((g e).2.1))]))⟩), (1540, ⟨false, 1, 1, (fun i_1 => [.p (.int .i64 ((g e).2.1))])⟩), (1, ⟨false, 1, N, (fun i_1 => (if (i_1 = (g e).2.1.toNat) then [.p (.int .i64 (F1 (g e).2.1.toNat - 1))] else [.p (.int .i64 (F1 i_1))]))⟩), (164, ⟨true, 2, 1, (fun i_1 => [.p (.int .i64 ((g e).1)), .p (.int .i64 ((g e).2.1))])⟩)] [0, 1, 2, 3, 1572, 1924] 1 (if (i < m) then [.p (.int .i64 (T1 i))] else [.p (.int .i64 ((g e).2.1))])).2 ∧ (((cvtL false [(0, ⟨true, 3, 1, (fun i_1 => [.ar 1 1 0 N, .ar 1 1572 0 (m + 1), .ar 1 1924 0 (m + 1)])⟩), (1924, ⟨false, 1, (m + 1), (fun i_1 => (if (i_1 < m) then [.p (.int .i64 (Q i_1))] else [.p (.int .i64 (↑e : Int))]))⟩), (1892, ⟨false, 1, 1, (fun i_1 => [.p (.int .i64 (↑e : Int))])⟩), (1572, ⟨false, 1, (m + 1), (fun i_1 => (if (i_1 < m) then [.p (.int .i64 (T1 i_1))] else [.p (.int .i64 ((g e).2.1))]))⟩), (1540, ⟨false, 1, 1, (fun i_1 => [.p (.int .i64 ((g e).2.1))])⟩), (1, ⟨false, 1, N, (fun i_1 => (if (i_1 = (g e).2.1.toNat) then [.p (.int .i64 (F1 (g e).2.1.toNat - 1))] else [.p (.int .i64 (F1 i_1))]))⟩), (164, ⟨true, 2, 1, (fun i_1 => [.p (.int .i64 ((g e).1)), .p (.int .i64 ((g e).2.1))])⟩)] [0, 1, 2, 3, 1572, 1924] 1 (if (i < m) then [.p (.int .i64 (T1 i))] else [.p (.int .i64 ((g e).2.1))])).1 : List AV) = [.p (.int .i64 (if i < m then T1 i else (g e).2.1))])))),
  ((1 : Nat) = 1),
  (((m + 1) : Nat) ≤ (m + 1)),
  (∀ i : Nat, (((i : Nat) < (m + 1)) → (All (cvtL false [(0, ⟨true, 3, 1, (fun i_1 => [.ar 1 1 0 N, .ar 1 1572 0 (m + 1), .ar 1 1924 0 (m + 1)])⟩), (1924, ⟨false, 1, (m + 1), (fun i_1 => (if (i_1 < m) then [.p (.int .i64 (Q i_1))] else [.p (.int .i64 (↑e : Int))]))⟩), (1892, ⟨false, 1, 1, (fun i_1 => [.p (.int .i64 (↑e : Int))])⟩), (1572, ⟨false, 1, (m + 1), (fun i_1 => (if (i_1 < m) then [.p (.int .i64 (T1 i_1))] else [.p (.int .i64 ((g e).2.1))]))⟩), (1540, ⟨false, 1, 1, (fun i_1 => [.p (.int .i64 ((g e).2.1))])⟩), (1, ⟨false, 1, N, (fun i_1 => (if (i_1 = (g e).2.1.toNat) then [.p (.int .i64 (F1 (g e).2.1.toNat - 1))] else [.p (.int .i64 (F1 i_1))]))⟩), (164, ⟨true, 2, 1, (fun i_1 => [.p (.int .i64 ((g e).1)), .p (.int .i64 ((g e).2.1))])⟩)] [0, 1, 2, 3, 1572, 1924] 1 (if (i < m) then [.p (.int .i64 (Q i))] else [.p (.int .i64 (↑e : Int))])).2 ∧ (((cvtL false [(0, ⟨true, 3, 1, (fun i_1 => [.ar 1 1 0 N, .ar 1 1572 0 (m + 1), .ar 1 1924 0 (m + 1)])⟩), (1924, ⟨false, 1, (m + 1), (fun i_1 => (if (i_1 < m) then [.p (.int .i64 (Q i_1))] else [.p (.int .i64 (↑e : Int))]))⟩), (1892, ⟨false, 1, 1, (fun i_1 => [.p (.int .i64 (↑e : Int))])⟩), (1572, ⟨false, 1, (m + 1), (fun i_1 => (if (i_1 < m) then [.p (.int .i64 (T1 i_1))] else [.p (.int .i64 ((g e).2.1))]))⟩), (1540, ⟨false, 1, 1, (fun i_1 => [.p (.int .i64 ((g e).2.1))])⟩), (1, ⟨false, 1, N, (fun i_1 => (if (i_1 = (g e).2.1.toNat) then [.p (.int .i64 (F1 (g e).2.1.toNat - 1))] else [.p (.int .i64 (F1 i_1))]))⟩), (164, ⟨true, 2, 1, (fun i_1 => [.p (.int .i64 ((g e).1)), .p (.int .i64 ((g e).2.1))])⟩)] [0, 1, 2, 3, 1572, 1924] 1 (if (i < m) then [.p (.int .i64 (Q i))] else [.p (.int .i64 (↑e : Int))])).1 : List AV) = [.p (.int .i64 (if i < m then Q i else (↑e : Int)))])))),
  (∀ i : Nat, (((i : Nat) < 1) → All [])),
  (∀ i : Nat, (((i : Nat) < N) → All [])),
  (∀ i : Nat, (((i : Nat) < (m + 1)) → All [])),
  (∀ i : Nat, (((i : Nat) < (m + 1)) → All []))] := by kernel_rfl
def brN (x : T_Bar) : Nat × Nat := (x.1.toNat, x.2.1.toNat)
def plL (g : Nat → T_Bar) (Q : Nat → Int) : Nat → List (Nat × Nat)
  | 0 => []
  | m + 1 => plL g Q m ++ [brN (g (Q m).toNat)]
def gmL (g : Nat → T_Bar) (T Q : Nat → Int) : Nat → List Mat.PB
  | 0 => []
  | m + 1 => gmL g T Q m ++ [((T m).toNat, brN (g (Q m).toNat))]
theorem barsOf_app : ∀ a b : List Mat.PB, Mat.barsOf (a ++ b) = Mat.barsOf a ++ Mat.barsOf b
  | [], _ => rfl
  | p :: a, b => by simp only [List.cons_append, Mat.barsOf, barsOf_app a b]
theorem tc_app (v : Nat) : ∀ a b : List Mat.PB, Mat.tc v (a ++ b) = Mat.tc v a + Mat.tc v b
  | [], b => by simp [Mat.tc]
  | p :: a, b => by simp only [List.cons_append, Mat.tc, tc_app v a b]; omega
theorem barsOf_gm (g : Nat → T_Bar) (T Q : Nat → Int) : ∀ m, Mat.barsOf (gmL g T Q m) = plL g Q m
  | 0 => rfl
  | m + 1 => by simp only [gmL, plL, barsOf_app, barsOf_gm g T Q m, Mat.barsOf]
theorem tc_gm (g : Nat → T_Bar) (T Q : Nat → Int) (v : Nat) : ∀ m, (∀ j, j < m → 0 ≤ T j) → (Mat.tc v (gmL g T Q m) : Int) = tcI T m v
  | 0, _ => rfl
  | m + 1, h => by
    have ih := tc_gm g T Q v m (fun j hj => h j (by omega))
    have h1 := h m (by omega)
    simp only [gmL, tc_app, Mat.tc, tcI]
    by_cases e : T m = v
    · have e' : ((T m).toNat == v) = true := by simp; omega
      rw [e', if_pos e]; simp; omega
    · have e' : ((T m).toNat == v) = false := by simp; omega
      rw [e', if_neg e]; simp; omega
theorem mem_gm (g : Nat → T_Bar) (T Q : Nat → Int) (p : Mat.PB) : ∀ m, p ∈ gmL g T Q m → ∃ j, j < m ∧ p = ((T j).toNat, brN (g (Q j).toNat))
  | 0, h => by cases h
  | m + 1, h => by
    simp only [gmL, List.mem_append, List.mem_singleton] at h
    rcases h with h | h
    · obtain ⟨j, h1, h2⟩ := mem_gm g T Q p m h
      exact ⟨j, by omega, h2⟩
    · exact ⟨m, by omega, h⟩
theorem PInv.t0 {N k nb m : Nat} {g : Nat → T_Bar} {F T Q : Nat → Int} (h : PInv N k nb m g F T Q) : ∀ j, j < m → 0 ≤ T j ∧ T j < N := by
  intro j hj
  have h1 := h.q j hj
  have h2 := h.bars (Q j).toNat (by omega)
  rcases h.t j hj with e | e <;> rw [e] <;> omega
theorem PInv.game {N k nb m : Nat} {g : Nat → T_Bar} {F T Q : Nat → Int} (h : PInv N k nb m g F T Q) (l : Nat) : Mat.Game N k l (fun v => (F v).toNat) (gmL g T Q m) := by
  refine ⟨fun p hp => ?_, fun p hp => ?_, fun v hv => ?_⟩
  · obtain ⟨j, h1, rfl⟩ := mem_gm g T Q p m hp
    simp only [brN]
    rcases h.t j h1 with e | e
    · left; rw [e]
    · right; rw [e]
  · obtain ⟨j, h1, rfl⟩ := mem_gm g T Q p m hp
    have h2 := h.q j h1
    have h3 := h.bars (Q j).toNat (by omega)
    simp only [brN, Mat.GoodBar]
    omega
  · have h1 := h.sum v hv
    have h2 := h.f0 v hv
    have h3 := tc_gm g T Q v m (fun j hj => (h.t0 j hj).1)
    show (F v).toNat + Mat.tc v (gmL g T Q m) = k
    omega
theorem gather_no {N k nb m l : Nat} {g : Nat → T_Bar} {F T Q : Nat → Int} {a b : Int} (hp : PInv N k nb m g F T Q) (ha : 0 ≤ a ∧ a < N) (hb : 0 ≤ b ∧ b < N) (hab : a ≠ b) (hs : F a.toNat + F b.toNat ≤ l)
    {F1 T1 F2 T2 : Nat → Int} (h1 : Moved N k nb m g F T Q a b F1 T1 false) (h2 : Moved N k nb m g F T Q b a F2 T2 false) : ¬ Mat.Sparse N k l (plL g Q m ++ [(a.toNat, b.toNat)]) := by
  obtain ⟨_, _, R1, r1, c1, z1⟩ := h1.no rfl
  obtain ⟨_, _, R2, r2, c2, z2⟩ := h2.no rfl
  have f1 := hp.f0 a.toNat (by omega)
  have f2 := hp.f0 b.toNat (by omega)
  rw [← barsOf_gm g T Q m]
  refine (hp.game l).reject a.toNat b.toNat ⟨by show a.toNat ≠ b.toNat; omega, by show a.toNat < N; omega, by show b.toNat < N; omega⟩ (by show (F a.toNat).toNat + (F b.toNat).toNat ≤ l; omega) (fun v => R1 v || R2 v) (by simp [r1]) (by simp [r2]) (fun p hpm hR => ?_) (fun v hR v1 v2 => ?_)
  · obtain ⟨j, h3, rfl⟩ := mem_gm g T Q p m hpm
    have key : ∀ R : Nat → Bool, R (T j).toNat = true → R (othF (g (Q j).toNat) (T j)).toNat = true → R (g (Q j).toNat).1.toNat = true ∧ R (g (Q j).toNat).2.1.toNat = true := by
      intro R k1 k2
      unfold othF at k2
      by_cases e : (g (Q j).toNat).1 = T j
      · rw [if_pos e] at k2
        exact ⟨by rw [e]; exact k1, k2⟩
      · rw [if_neg e] at k2
        rcases hp.t j h3 with e' | e'
        · exact absurd e'.symm e
        · exact ⟨k2, by rw [← e']; exact k1⟩
    simp only [Mat.inn, brN]
    simp only [Bool.or_eq_true] at hR
    rcases hR with hR | hR
    · obtain ⟨k1, k2⟩ := key R1 hR (c1 j h3 hR)
      simp [k1, k2]
    · obtain ⟨k1, k2⟩ := key R2 hR (c2 j h3 hR)
      simp [k1, k2]
  · simp only [Bool.or_eq_true] at hR
    have : F v = 0 := by
      rcases hR with hR | hR
      · exact z1 v hR (by omega) (by omega)
      · exact z2 v hR (by omega) (by omega)
    show (F v).toNat = 0
    rw [this]; rfl
theorem con_gather {N k nb m l : Nat} {g : Nat → T_Bar} {F T Q : Nat → Int} {a b : Int} (hp : PInv N k nb m g F T Q) (hk : k ≤ 1048576) (hN : N ≤ 1048576) (hm : m ≤ 1048576) (hnb : nb ≤ 1048576)
    (ha : 0 ≤ a ∧ a < N) (hb : 0 ≤ b ∧ b < N) (hab : a ≠ b) : ∃ F' T' r, Con Try.prog 170 4 (pebH N m F T Q) [brL g nb, .pt 3 0 0 0, .p (.int .i64 a), .p (.int .i64 b), .p (.int .i64 ((l : Int) + 1))] (pebH N m F' T' Q) (.p (.bool r)) ∧
      PInv N k nb m g F' T' Q ∧ (r = true → (l : Int) + 1 ≤ F' a.toNat + F' b.toNat) ∧ (r = false → ¬ Mat.Sparse N k l (plL g Q m ++ [(a.toNat, b.toNat)])) := by
  have lp : ∀ d F T, PInv N k nb m g F T Q → (l : Int) + 1 ≤ F a.toNat + F b.toNat + (d : Nat) → ∃ F' T' r, (∀ c, c.n = 4 → Run Try.prog c 170 [.code (cAt (bodyOf Try.f170) [1, 0, 0, 0]), .inLoop (cAt (bodyOf Try.f170) [1, 0, 0, 0]), .inBlock 0, .code (cAt (bodyOf Try.f170) [1, 1])] (SG g nb N m F T Q a b ((l : Int) + 1)) (Post c (pebH N m F' T' Q) (.p (.bool r)))) ∧
      PInv N k nb m g F' T' Q ∧ (r = true → (l : Int) + 1 ≤ F' a.toNat + F' b.toNat) ∧ (r = false → ¬ Mat.Sparse N k l (plL g Q m ++ [(a.toNat, b.toNat)])) := by
    intro d
    induction d with
    | zero =>
      intro F T hp hw
      have hd : decide (F a.toNat + F b.toNat < (l : Int) + 1) = false := by simp; omega
      have l1 := hp.le (v := a.toNat) (by omega)
      have l2 := hp.le (v := b.toNat) (by omega)
      refine ⟨F, T, true, fun c hc => ?_, hp, (fun _ => by omega), (fun h => by cases h)⟩
      refine path_ok mixed Try.func170 hc (pGd g nb N m F T Q a b ((l : Int) + 1)) ?_
      simp only [All]
      repeat' (first | exact trivial | with_reducible apply And.intro)
      all_goals (first | omega | rfl | (intros; first | assumption | exact True.intro | rfl | exact absurd (show false = true by assumption) Bool.false_ne_true | ((repeat' (first | assumption | apply anda | apply notf)); done)) | (exact hd) | (intro i hi; simp [All]))
    | succ d ih =>
      intro F T hp hw
      have l1 := hp.le (v := a.toNat) (by omega)
      have l2 := hp.le (v := b.toNat) (by omega)
      by_cases hs : F a.toNat + F b.toNat < (l : Int) + 1
      · have hd : decide (F a.toNat + F b.toNat < (l : Int) + 1) = true := by simp; omega
        obtain ⟨F1, T1, r1, hc1, hm1⟩ := con_moveTo hp hk hN hm hnb ha hb hab
        cases r1 with
        | true =>
          obtain ⟨y1, y2⟩ := hm1.yes rfl
          obtain ⟨F', T', r, hrun, h1, h2, h3⟩ := ih F1 T1 hm1.inv (by omega)
          refine ⟨F', T', r, fun c hc => ?_, h1, h2, h3⟩
          refine piece_ok mixed hc (pGa g nb N m F T Q F1 T1 a b ((l : Int) + 1)) ?_ (hrun c hc)
          simp only [All]
          repeat' (first | exact trivial | with_reducible apply And.intro)
          all_goals (first | omega | rfl | (intros; first | assumption | exact True.intro | rfl | exact absurd (show false = true by assumption) Bool.false_ne_true | ((repeat' (first | assumption | apply anda | apply notf)); done)) | (exact hd) | (exact hc1) | (intro i hi; simp [All]))
        | false =>
          obtain ⟨n1, n2, _⟩ := hm1.no rfl
          subst n1; subst n2
          obtain ⟨F2, T2, r2, hc2, hm2⟩ := con_moveTo hp hk hN hm hnb hb ha (Ne.symm hab)
          cases r2 with
          | true =>
            obtain ⟨y1, y2⟩ := hm2.yes rfl
            obtain ⟨F', T', r, hrun, h1, h2, h3⟩ := ih F2 T2 hm2.inv (by omega)
            refine ⟨F', T', r, fun c hc => ?_, h1, h2, h3⟩
            refine piece_ok mixed hc (pGb g nb N m F1 T1 Q F1 T1 F2 T2 a b ((l : Int) + 1)) ?_ (hrun c hc)
            simp only [All]
            repeat' (first | exact trivial | with_reducible apply And.intro)
            all_goals (first | omega | rfl | (intros; first | assumption | exact True.intro | rfl | exact absurd (show false = true by assumption) Bool.false_ne_true | ((repeat' (first | assumption | apply anda | apply notf)); done)) | (exact hd) | (exact hc1) | (exact hc2) | (intro i hi; simp [All]))
          | false =>
            refine ⟨F2, T2, false, fun c hc => ?_, hm2.inv, (fun h => by cases h), fun _ => gather_no hp ha hb hab (by omega) hm1 hm2⟩
            refine path_ok mixed Try.func170 hc (pGc g nb N m F1 T1 Q F1 T1 F2 T2 a b ((l : Int) + 1)) ?_
            simp only [All]
            repeat' (first | exact trivial | with_reducible apply And.intro)
            all_goals (first | omega | rfl | (intros; first | assumption | exact True.intro | rfl | exact absurd (show false = true by assumption) Bool.false_ne_true | ((repeat' (first | assumption | apply anda | apply notf)); done)) | (exact hd) | (exact hc1) | (exact hc2) | (intro i hi; simp [All]))
      · have hd : decide (F a.toNat + F b.toNat < (l : Int) + 1) = false := by simp; omega
        refine ⟨F, T, true, fun c hc => ?_, hp, (fun _ => by omega), (fun h => by cases h)⟩
        refine path_ok mixed Try.func170 hc (pGd g nb N m F T Q a b ((l : Int) + 1)) ?_
        simp only [All]
        repeat' (first | exact trivial | with_reducible apply And.intro)
        all_goals (first | omega | rfl | (intros; first | assumption | exact True.intro | rfl | exact absurd (show false = true by assumption) Bool.false_ne_true | ((repeat' (first | assumption | apply anda | apply notf)); done)) | (exact hd) | (intro i hi; simp [All]))
  have l1 := hp.le (v := a.toNat) (by omega)
  have l2 := hp.le (v := b.toNat) (by omega)
  obtain ⟨F', T', r, hrun, h⟩ := lp (l + 1) F T hp (by omega)
  refine ⟨F', T', r, ?_, h⟩
  refine con_start Try.func170 rfl (by kernel_rfl) rfl (fun c hc => ?_)
  refine piece_ok mixed hc (pGz g nb N m F T Q a b ((l : Int) + 1)) ?_ (hrun c hc)
  simp only [All]
  repeat' (first | exact trivial | with_reducible apply And.intro)
  all_goals (first | omega | rfl | (intros; first | assumption | exact True.intro | rfl | exact absurd (show false = true by assumption) Bool.false_ne_true | ((repeat' (first | assumption | apply anda | apply notf)); done)) | (intro i hi; simp [All]))
theorem tcI_congr {T T' : Nat → Int} (x : Int) : ∀ m, (∀ j, j < m → T j = T' j) → tcI T m x = tcI T' m x
  | 0, _ => rfl
  | m + 1, h => by simp only [tcI]; rw [tcI_congr x m (fun j hj => h j (by omega)), h m (by omega)]
theorem PInv.placed {N k nb m : Nat} {g : Nat → T_Bar} {F T Q : Nat → Int} (hp : PInv N k nb m g F T Q) (e : Nat) (he : e < nb) (tl : Int) (ht : tl = (g e).1 ∨ tl = (g e).2.1) (hf : 1 ≤ F tl.toNat) :
    PInv N k nb (m + 1) g (fun s => if s = tl.toNat then F s - 1 else F s) (fun s => if s < m then T s else tl) (fun s => if s < m then Q s else e) := by
  have hb := hp.bars e he
  have h0 : 0 ≤ tl ∧ tl < N := by rcases ht with h | h <;> rw [h] <;> omega
  refine ⟨hp.bars, fun j hj => ?_, fun j hj => ?_, fun v hv => ?_, fun v hv => ?_⟩
  · show 0 ≤ (if j < m then Q j else (e : Int)) ∧ (if j < m then Q j else (e : Int)) < nb
    by_cases h : j < m
    · rw [if_pos h]; exact hp.q j h
    · rw [if_neg h]; omega
  · show (if j < m then T j else tl) = (g (if j < m then Q j else (e : Int)).toNat).1 ∨ (if j < m then T j else tl) = (g (if j < m then Q j else (e : Int)).toNat).2.1
    by_cases h : j < m
    · rw [if_pos h, if_pos h]; exact hp.t j h
    · rw [if_neg h, if_neg h]; exact ht
  · have := hp.f0 v hv
    show 0 ≤ (if v = tl.toNat then F v - 1 else F v)
    by_cases h : v = tl.toNat
    · rw [if_pos h, h]; omega
    · rw [if_neg h]; exact this
  · have h1 := hp.sum v hv
    show (if v = tl.toNat then F v - 1 else F v) + (tcI (fun s => if s < m then T s else tl) m v + (if (if m < m then T m else tl) = (v : Int) then 1 else 0)) = k
    rw [tcI_congr (T' := T) v m (fun j hj => by show (if j < m then T j else tl) = T j; rw [if_pos hj])]
    simp only [Nat.lt_irrefl, if_false]
    by_cases h : v = tl.toNat
    · rw [if_pos h, if_pos (by omega)]; omega
    · rw [if_neg h, if_neg (by omega)]; omega
theorem con_place {N k nb m l : Nat} {g : Nat → T_Bar} {F T Q : Nat → Int} (hp : PInv N k nb m g F T Q) (hk : k ≤ 1048576) (hl : l ≤ 1048576) (hN : N ≤ 1048576) (hm : m ≤ 1048576) (hnb : nb ≤ 1048576) (e : Nat) (he : e < nb)
    (hsp : Mat.Sparse N k l (plL g Q m)) :
    (∃ F' T', Con Try.prog 159 4 (pebH N m F T Q) [brL g nb, .p (.int .i64 l), .pt 3 0 0 0, .p (.int .i64 e)] (pebH2 N (m + 1) F' T' (fun s => if s < m then Q s else e)) (.p (.bool true)) ∧
      PInv N k nb (m + 1) g F' T' (fun s => if s < m then Q s else e) ∧ Mat.Sparse N k l (plL g Q m ++ [brN (g e)])) ∨
    (∃ F' T', Con Try.prog 159 4 (pebH N m F T Q) [brL g nb, .p (.int .i64 l), .pt 3 0 0 0, .p (.int .i64 e)] (pebH N m F' T' Q) (.p (.bool false)) ∧ ¬ Mat.Sparse N k l (plL g Q m ++ [brN (g e)])) := by
  have hbar := hp.bars e he
  obtain ⟨F1, T1, r, hc1, h1, h2, h3⟩ := con_gather (l := l) (a := (g e).1) (b := (g e).2.1) hp hk hN hm hnb (by omega) (by omega) (by omega)
  have hlA := h1.le (v := (g e).1.toNat) (by omega)
  have hlB := h1.le (v := (g e).2.1.toNat) (by omega)
  cases r with
  | false =>
    right
    refine ⟨F1, T1, ?_, h3 rfl⟩
    refine con_start Try.func159 rfl (by kernel_rfl) rfl (fun c hc => ?_)
    refine path_ok mixed Try.func159 hc (pPf g nb N m F T Q F1 T1 l e) ?_
    simp only [All]
    repeat' (first | exact trivial | with_reducible apply And.intro)
    all_goals (first | omega | rfl | (intros; first | assumption | exact True.intro | rfl | exact absurd (show false = true by assumption) Bool.false_ne_true | ((repeat' (first | assumption | apply anda | apply notf)); done)) | (exact hc1) | (intro i hi; simp [All]))
  | true =>
    left
    have hw := h2 rfl
    have hacc : Mat.Sparse N k l (plL g Q m ++ [brN (g e)]) := by
      have := (h1.game l).accept (by rw [barsOf_gm]; exact hsp) (g e).1.toNat (g e).2.1.toNat ⟨by show (g e).1.toNat ≠ (g e).2.1.toNat; omega, by show (g e).1.toNat < N; omega, by show (g e).2.1.toNat < N; omega⟩
        (by show l + 1 ≤ (F1 (g e).1.toNat).toNat + (F1 (g e).2.1.toNat).toNat; omega)
      rw [barsOf_gm] at this
      exact this
    by_cases hz : F1 (g e).1.toNat = 0
    · have hzb : (F1 (g e).1.toNat == 0) = true := by simp [hz]
      refine ⟨_, _, ?_, h1.placed e he (g e).2.1 (.inr rfl) (by omega), hacc⟩
      refine con_start Try.func159 rfl (by kernel_rfl) rfl (fun c hc => ?_)
      refine path_ok mixed Try.func159 hc (pPb g nb N m F T Q F1 T1 l e) ?_
      simp only [All]
      repeat' (first | exact trivial | with_reducible apply And.intro)
      all_goals (first | omega | rfl | (intros; first | assumption | exact True.intro | rfl | exact absurd (show false = true by assumption) Bool.false_ne_true | ((repeat' (first | assumption | apply anda | apply notf)); done)) | (exact hc1) | (exact hzb) | (intro i hi; simp [All]; done) | (intro i hi; by_cases h : i < m <;> simp [h, cvtL, cvt, tg, tru, All]; done) | (intro i hi; by_cases h : i = (g e).2.1.toNat <;> simp [h, cvtL, cvt, tg, tru, All]))
    · have hzb : (F1 (g e).1.toNat == 0) = false := by simp [hz]
      refine ⟨_, _, ?_, h1.placed e he (g e).1 (.inl rfl) (by omega), hacc⟩
      refine con_start Try.func159 rfl (by kernel_rfl) rfl (fun c hc => ?_)
      refine path_ok mixed Try.func159 hc (pPa g nb N m F T Q F1 T1 l e) ?_
      simp only [All]
      repeat' (first | exact trivial | with_reducible apply And.intro)
      all_goals (first | omega | rfl | (intros; first | assumption | exact True.intro | rfl | exact absurd (show false = true by assumption) Bool.false_ne_true | ((repeat' (first | assumption | apply anda | apply notf)); done)) | (exact hc1) | (exact hzb) | (intro i hi; simp [All]; done) | (intro i hi; by_cases h : i < m <;> simp [h, cvtL, cvt, tg, tru, All]; done) | (intro i hi; by_cases h : i = (g e).1.toNat <;> simp [h, cvtL, cvt, tg, tru, All]))
end Go.Proofs.Ytgdbnnmogddkaaa.Mach
namespace Go.Proofs.Ytgdbnnmogddkaaa.Mach
open Go
set_option linter.unusedVariables false
set_option linter.unusedSimpArgs false
def inD (n : Nat) (F : Nat → Int) : AV := .p (.seq true 1 n (fun i => [.int .i64 (F i)]))
def pebO (N m : Nat) (j : Nat) : AV := .agg [.ar 1 j 0 N, .ar 1 (j + 1) 0 m, .ar 1 (j + 2) 0 m]
def pebR (N m : Nat) (F T Q : Nat → Int) : Hp := [(0, iOb N F), (1, iOb m T), (2, iOb m Q)]
def SY0 (g : Nat → T_Bar) (nb N k l i : Nat) : St :=
  ⟨[.p (.int .i64 N), brL g nb, .p (.int .i64 k), .p (.int .i64 l), .p .any, .p .any, .p .any, .p .any, .pt 3 0 0 0, .pt 3 1 0 0, .p .any, .p .any, .p .any, .p (.int .i64 N), .p (.int .i64 i)] ++ List.replicate 22 anyA,
   [(0, ⟨true, 3, 1, fun _ => [.p .nil, .p .nil, .p .nil]⟩), (1, ⟨true, 3, 1, fun _ => [.ar 1 2 0 i, .ar 1 3 0 0, .ar 1 4 0 0]⟩), (2, iOb i (fun _ => k)), (3, iOb 0 (fun _ => 0)), (4, iOb 0 (fun _ => 0))], 5⟩
def SY1 (g : Nat → T_Bar) (nb N m k l e : Nat) (F T Q : Nat → Int) : St :=
  ⟨[.p (.int .i64 N), brL g nb, .p (.int .i64 k), .p (.int .i64 l), .p .any, .p .any, .p .any, .p .any, .pt 3 0 0 0, .pt 3 1 0 0] ++ List.replicate 14 anyA ++ [.p (.int .i64 nb), .p (.int .i64 e)] ++ List.replicate 11 anyA,
   [(0, ⟨true, 3, 1, fun _ => [.p .nil, .p .nil, .p .nil]⟩), (1, ⟨true, 3, 1, fun _ => [.ar 1 2 0 N, .ar 1 3 0 m, .ar 1 4 0 m]⟩), (2, iOb N F), (3, iOb m T), (4, iOb m Q)], 5⟩
theorem pCi (n : Nat) (F : Nat → Int) :
    pathOb Try.prog Try.f84 0 [.reg [oT], .reg [oT, oT, oT, oT]] [.code (bodyOf Try.f84)] (start Try.f84 [] 0 [inD n F]) [96] 1 [(0, iOb n F)] (.ar 1 0 0 n) =
    some [((0 : Nat) ≤ 0),
  ((((0 + n) * 8) : Nat) ≤ 140737488355328),
  (((0 + n) : Nat) ≤ 9223372036854775807),
  ((0 : Nat) = 0),
  (((0 + n) : Nat) = n),
  ((1 : Nat) = 1),
  ((n : Nat) ≤ (0 + n)),
  (∀ i : Nat, (((i : Nat) < n) → (All [] ∧ (([.p (.int .i64 (F i))] : List AV) = [.p (.int .i64 (F i))])))),
  (∀ i : Nat, (((i : Nat) < n) → All []))] := by kernel_rfl
theorem pCp (N m m' : Nat) (F T Q : Nat → Int) :
    pathOb Try.prog Try.f158 0 [.reg [oT, oT], .reg [oT, oT, ⟨true, (some ⟨[], [], 1, [(0, iOb N F)], .ar 1 0 0 N⟩), none⟩, oT, oT, ⟨true, (some ⟨[], [], 1, [(0, iOb m T)], .ar 1 0 0 m⟩), none⟩, oT, oT, ⟨true, (some ⟨[], [], 1, [(0, iOb m Q)], .ar 1 0 0 m⟩), none⟩, oT, oT]] [.code (bodyOf Try.f158)] (start Try.f158 [] 0 [.agg [inD N F, inD m T, inD m Q]]) [128, 224, 320] 1 (pebR N m F T Q) (pebO N m 0) =
    some [((0 : Nat) < 1),
  Con Try.prog 84 0 [] [.p (.seq true 1 N (fun i => [.int .i64 (F i)]))] [(0, ⟨false, 1, N, (fun i => [.p (.int .i64 (F i))])⟩)] (.ar 1 0 0 N),
  ((0 : Nat) < 1),
  Con Try.prog 84 0 [] [.p (.seq true 1 m (fun i => [.int .i64 (T i)]))] [(0, ⟨false, 1, m, (fun i => [.p (.int .i64 (T i))])⟩)] (.ar 1 0 0 m),
  ((0 : Nat) < 1),
  Con Try.prog 84 0 [] [.p (.seq true 1 m (fun i => [.int .i64 (Q i)]))] [(0, ⟨false, 1, m, (fun i => [.p (.int .i64 (Q i))])⟩)] (.ar 1 0 0 m),
  ((0 : Nat) < 1),
  ((true = true) → ((1 : Nat) = 1)),
  ((0 : Nat) < 1),
  ((0 : Nat) = 0),
  ((N : Nat) = N),
  ((0 : Nat) = 0),
  ((m : Nat) = m),
  ((0 : Nat) = 0),
  ((m : Nat) = m),
  ((1 : Nat) = 1),
  ((N : Nat) ≤ N),
  (∀ i : Nat, (((i : Nat) < N) → (All [] ∧ (([.p (.int .i64 (F i))] : List AV) = [.p (.int .i64 (F i))])))),
  ((1 : Nat) = 1),
  ((m : Nat) ≤ m),
  (∀ i : Nat, (((i : Nat) < m) → (All [] ∧ (([.p (.int .i64 (T i))] : List AV) = [.p (.int .i64 (T i))])))),
  ((1 : Nat) = 1),
  ((m : Nat) ≤ m),
  (∀ i : Nat, (((i : Nat) < m) → (All [] ∧ (([.p (.int .i64 (Q i))] : List AV) = [.p (.int .i64 (Q i))])))),
  (∀ i : Nat, (((i : Nat) < N) → All [])),
  (∀ i : Nat, (((i : Nat) < m) → All [])),
  (∀ i : Nat, (((i : Nat) < m) → All []))] := by kernel_rfl
theorem pYz (g : Nat → T_Bar) (nb N k l : Nat) :
    pieceOb Try.prog 0 [.reg [oT], .reg [oT, oT, oT], .reg [oT, oT], .head] [.code (bodyOf Try.f140)] (start Try.f140 [] 0 [.p (.int .i64 N), brL g nb, .p (.int .i64 k), .p (.int .i64 l)]) [0, 64] 1 (SY0 g nb N k l 0) =
    some ([.code (cAt (bodyOf Try.f140) [1, 1, 0, 1, 0, 0]), .inLoop (cAt (bodyOf Try.f140) [1, 1, 0, 1, 0, 0]), .inBlock 0, .code (cAt (bodyOf Try.f140) [1, 1, 1])], [((0 : Nat) < 1),
  ((true = true) → ((1 : Nat) = 1)),
  (((↑N : Int) : Int) = (↑N : Int)),
  ((nb : Nat) = nb),
  (∀ i : Nat, (((i : Nat) < nb) → (([.int .i64 ((g i).1), .int .i64 ((g i).2.1)] : List PV) = [.int .i64 ((g i).1), .int .i64 ((g i).2.1)]))),
  (((↑k : Int) : Int) = (↑k : Int)),
  (((↑l : Int) : Int) = (↑l : Int)),
  ((0 : Nat) = 0),
  ((0 : Nat) = 0),
  (((↑N : Int) : Int) = (↑N : Int)),
  ((0 : Int) = (↑0 : Int)),
  ((((List.map (fun v => AV.p (absV v)) [Value.slice none 0 0, Value.slice none 0 0, Value.slice none 0 0]).length) : Nat) = 3),
  ((1 : Nat) ≤ 1),
  ((1 : Nat) ≤ 1),
  ((((List.map (fun v => AV.p (absV v)) [Value.slice none 0 0, Value.slice none 0 0, Value.slice none 0 0]).length) : Nat) = 3),
  ((1 : Nat) ≤ 1),
  ((1 : Nat) ≤ 1),
  ((0 : Nat) = 0),
  ((0 : Nat) = 0),
  ((0 : Nat) = 0),
  ((0 : Nat) = 0),
  ((0 : Nat) = 0),
  ((0 : Nat) = 0)]) := by kernel_rfl
theorem pY0 (g : Nat → T_Bar) (nb N k l i : Nat) :
    pieceOb Try.prog 0 [.reg [oT], .dec true, .reg [oT, oT, oT, oT, oT, oT, oT], .reg [oT, oT], .head] [.code (cAt (bodyOf Try.f140) [1, 1, 0, 1, 0, 0]), .inLoop (cAt (bodyOf Try.f140) [1, 1, 0, 1, 0, 0]), .inBlock 0, .code (cAt (bodyOf Try.f140) [1, 1, 1])] (SY0 g nb N k l i) [0, 1, 165, 3, 4] 1 (SY0 g nb N k l (i + 1)) =
    some ([.code (cAt (bodyOf Try.f140) [1, 1, 0, 1, 0, 0]), .inLoop (cAt (bodyOf Try.f140) [1, 1, 0, 1, 0, 0]), .inBlock 0, .code (cAt (bodyOf Try.f140) [1, 1, 1])], [((decide ((↑i : Int) < (↑N : Int))) = true),
  ((0 : Nat) < 1),
  ((1 : Nat) ≤ 1),
  ((i : Nat) ≤ i),
  ((((i + 1) * 8) : Nat) ≤ 140737488355328),
  (((i + 1) : Nat) ≤ 9223372036854775807),
  ((0 : Nat) < 1),
  ((true = true) → ((1 : Nat) = 1)),
  (((-9223372036854775808) : Int) ≤ ((↑i : Int) + 1)),
  ((((↑i : Int) + 1) : Int) ≤ 9223372036854775807),
  (((↑N : Int) : Int) = (↑N : Int)),
  ((nb : Nat) = nb),
  (∀ i_1 : Nat, (((i_1 : Nat) < nb) → (([.int .i64 ((g i_1).1), .int .i64 ((g i_1).2.1)] : List PV) = [.int .i64 ((g i_1).1), .int .i64 ((g i_1).2.1)]))),
  (((↑k : Int) : Int) = (↑k : Int)),
  (((↑l : Int) : Int) = (↑l : Int)),
  ((0 : Nat) = 0),
  ((0 : Nat) = 0),
  (((↑N : Int) : Int) = (↑N : Int)),
  ((((↑i : Int) + 1) : Int) = (↑(i + 1) : Int)),
  ((3 : Nat) = 3),
  ((1 : Nat) ≤ 1),
  ((1 : Nat) ≤ 1),
  ((3 : Nat) = 3),
  ((1 : Nat) ≤ 1),
  ((1 : Nat) ≤ 1),
  ((0 : Nat) = 0),
  (((i + 1) : Nat) = (i + 1)),
  ((0 : Nat) = 0),
  ((0 : Nat) = 0),
  ((0 : Nat) = 0),
  ((0 : Nat) = 0),
  ((1 : Nat) = 1),
  (((i + 1) : Nat) ≤ (i + 1)),
  (∀ i_1 : Nat, (((i_1 : Nat) < (i + 1)) → (All (cvtL false [(1, ⟨true, 3, 1, (fun i_2 => [.ar 1 165 0 (i + 1), .ar 1 3 0 0, .ar 1 4 0 0])⟩), (165, ⟨false, 1, (i + 1), (fun i_2 => (if (i_2 < i) then [.p (.int .i64 (↑k : Int))] else [.p (.int .i64 (↑k : Int))]))⟩), (133, ⟨false, 1, 1, (fun i_2 => [.p (.int .i64 (↑k : Int))])⟩), (0, ⟨true, 3, 1, (fun i_2 => [.p (.nil), .p (.nil), .p (.nil)])⟩), (3, ⟨false, 1, 0, (fun i_2 => [.p (.int .i64 0)])⟩), (4, ⟨false, 1, 0, (fun i_2 => [.p (.int .i64 0)])⟩)] [0, 1, 165, 3, 4] 1 (if (i_1 < i) then [.p (.int .i64 (↑k : Int))] else [.p (.int .i64 (↑k : Int))])).2 ∧ (((cvtL false [(1, ⟨true, 3, 1, (fun i_2 => [.ar 1 165 0 (i + 1), .ar 1 3 0 0, .ar 1 4 0 0])⟩), (165, ⟨false, 1, (i + 1), (fun i_2 => (if (i_2 < i) then [.p (.int .i64 (↑k : Int))] else [.p (.int .i64 (↑k : Int))]))⟩), (133, ⟨false, 1, 1, (fun i_2 => [.p (.int .i64 (↑k : Int))])⟩), (0, ⟨true, 3, 1, (fun i_2 => [.p (.nil), .p (.nil), .p (.nil)])⟩), (3, ⟨false, 1, 0, (fun i_2 => [.p (.int .i64 0)])⟩), (4, ⟨false, 1, 0, (fun i_2 => [.p (.int .i64 0)])⟩)] [0, 1, 165, 3, 4] 1 (if (i_1 < i) then [.p (.int .i64 (↑k : Int))] else [.p (.int .i64 (↑k : Int))])).1 : List AV) = [.p (.int .i64 (↑k : Int))])))),
  ((1 : Nat) = 1),
  ((0 : Nat) ≤ 0),
  (∀ i_1 : Nat, (((i_1 : Nat) < 0) → (All [] ∧ (([.p (.int .i64 0)] : List AV) = [.p (.int .i64 0)])))),
  ((1 : Nat) = 1),
  ((0 : Nat) ≤ 0),
  (∀ i_1 : Nat, (((i_1 : Nat) < 0) → (All [] ∧ (([.p (.int .i64 0)] : List AV) = [.p (.int .i64 0)]))))]) := by kernel_rfl
theorem pY01 (g : Nat → T_Bar) (nb N k l i : Nat) :
    pieceOb Try.prog 0 [.reg [oT], .dec false, .reg [oT, oT, oT], .head] [.code (cAt (bodyOf Try.f140) [1, 1, 0, 1, 0, 0]), .inLoop (cAt (bodyOf Try.f140) [1, 1, 0, 1, 0, 0]), .inBlock 0, .code (cAt (bodyOf Try.f140) [1, 1, 1])] (SY0 g nb N k l i) [0, 1, 2, 3, 4] 1 (SY1 g nb N 0 k l 0 (fun _ => k) (fun _ => 0) (fun _ => 0)) =
    some ([.code (cAt (bodyOf Try.f140) [1, 1, 1, 0, 1, 0, 0]), .inLoop (cAt (bodyOf Try.f140) [1, 1, 1, 0, 1, 0, 0]), .inBlock 2, .code (cAt (bodyOf Try.f140) [1, 1, 1, 1])], [((decide ((↑i : Int) < (↑N : Int))) = false),
  (((↑N : Int) : Int) = (↑N : Int)),
  ((nb : Nat) = nb),
  (∀ i_1 : Nat, (((i_1 : Nat) < nb) → (([.int .i64 ((g i_1).1), .int .i64 ((g i_1).2.1)] : List PV) = [.int .i64 ((g i_1).1), .int .i64 ((g i_1).2.1)]))),
  (((↑k : Int) : Int) = (↑k : Int)),
  (((↑l : Int) : Int) = (↑l : Int)),
  ((0 : Nat) = 0),
  ((0 : Nat) = 0),
  (((↑nb : Int) : Int) = (↑nb : Int)),
  ((0 : Int) = (↑0 : Int)),
  ((3 : Nat) = 3),
  ((1 : Nat) ≤ 1),
  ((1 : Nat) ≤ 1),
  ((3 : Nat) = 3),
  ((1 : Nat) ≤ 1),
  ((1 : Nat) ≤ 1),
  ((0 : Nat) = 0),
  ((i : Nat) = N),
  ((0 : Nat) = 0),
  ((0 : Nat) = 0),
  ((0 : Nat) = 0),
  ((0 : Nat) = 0),
  ((1 : Nat) = 1),
  ((N : Nat) ≤ i),
  (∀ i_1 : Nat, (((i_1 : Nat) < N) → (All [] ∧ (([.p (.int .i64 (↑k : Int))] : List AV) = [.p (.int .i64 (↑k : Int))])))),
  ((1 : Nat) = 1),
  ((0 : Nat) ≤ 0),
  (∀ i_1 : Nat, (((i_1 : Nat) < 0) → (All [] ∧ (([.p (.int .i64 0)] : List AV) = [.p (.int .i64 0)])))),
  ((1 : Nat) = 1),
  ((0 : Nat) ≤ 0),
  (∀ i_1 : Nat, (((i_1 : Nat) < 0) → (All [] ∧ (([.p (.int .i64 0)] : List AV) = [.p (.int .i64 0)]))))]) := by kernel_rfl
theorem pY1t (g : Nat → T_Bar) (nb N m k l e : Nat) (F T Q F1 T1 : Nat → Int) :
    pieceOb Try.prog 0 [.reg [oT], .dec true, .reg [oT, oT], .reg [oT, ⟨true, (some ⟨[], [], 1, pebR N m F T Q, pebO N m 0⟩), none⟩, oT, oT], .reg [oT, oT, oT, ⟨true, (some ⟨[165, 133, 134, 135], [], 1, pebH2 N (m + 1) F1 T1 (fun s => if s < m then Q s else e), .p (.bool true)⟩), none⟩], .dec true, .reg [oT, oT], .reg [oT, oT], .head] [.code (cAt (bodyOf Try.f140) [1, 1, 1, 0, 1, 0, 0]), .inLoop (cAt (bodyOf Try.f140) [1, 1, 1, 0, 1, 0, 0]), .inBlock 2, .code (cAt (bodyOf Try.f140) [1, 1, 1, 1])] (SY1 g nb N m k l e F T Q) [0, 1, 133, 325, 326] 1 (SY1 g nb N (m + 1) k l (e + 1) F1 T1 (fun s => if s < m then Q s else e)) =
    some ([.code (cAt (bodyOf Try.f140) [1, 1, 1, 0, 1, 0, 0]), .inLoop (cAt (bodyOf Try.f140) [1, 1, 1, 0, 1, 0, 0]), .inBlock 2, .code (cAt (bodyOf Try.f140) [1, 1, 1, 1])], [((decide ((↑e : Int) < (↑nb : Int))) = true),
  ((0 : Nat) < 1),
  ((1 : Nat) = 1),
  ((N : Nat) ≤ N),
  ((1 : Nat) = 1),
  ((m : Nat) ≤ m),
  ((1 : Nat) = 1),
  ((m : Nat) ≤ m),
  Con Try.prog 158 0 [] [.agg [.p (.seq true 1 N (fun i => [.int .i64 (F i)])), .p (.seq true 1 m (fun i => [.int .i64 (T i)])), .p (.seq true 1 m (fun i => [.int .i64 (Q i)]))]] [(0, ⟨false, 1, N, (fun i => [.p (.int .i64 (F i))])⟩), (1, ⟨false, 1, m, (fun i => [.p (.int .i64 (T i))])⟩), (2, ⟨false, 1, m, (fun i => [.p (.int .i64 (Q i))])⟩)] (.agg [.ar 1 0 0 N, .ar 1 1 0 m, .ar 1 2 0 m]),
  ((0 : Nat) < 1),
  ((true = true) → ((1 : Nat) = 1)),
  (∀ i : Nat, (((i : Nat) < 1) → All [])),
  (∀ i : Nat, (((i : Nat) < N) → All [])),
  (∀ i : Nat, (((i : Nat) < m) → All [])),
  (∀ i : Nat, (((i : Nat) < m) → All [])),
  Con Try.prog 159 4 [(0, ⟨true, 3, 1, (fun i => [.ar 1 1 0 N, .ar 1 2 0 m, .ar 1 3 0 m])⟩), (1, ⟨false, 1, N, (fun i => [.p (.int .i64 (F i))])⟩), (2, ⟨false, 1, m, (fun i => [.p (.int .i64 (T i))])⟩), (3, ⟨false, 1, m, (fun i => [.p (.int .i64 (Q i))])⟩)] [.p (.seq true 2 nb (fun i => [.int .i64 ((g i).1), .int .i64 ((g i).2.1)])), .p (.int .i64 (↑l : Int)), .pt 3 0 0 0, .p (.int .i64 (↑e : Int))] [(0, ⟨true, 3, 1, (fun i => [.ar 1 1 0 N, .ar 1 4 0 (m + 1), .ar 1 5 0 (m + 1)])⟩), (1, ⟨false, 1, N, (fun i => [.p (.int .i64 (F1 i))])⟩), (4, ⟨false, 1, (m + 1), (fun i => [.p (.int .i64 (T1 i))])⟩), (5, ⟨false, 1, (m + 1), (fun i => [.p (.int .i64 (if i < m then Q i else (↑e : Int)))])⟩)] (.p (.bool true)),
  (true = true),
  ((0 : Nat) < 1),
  ((0 : Nat) < 1),
  ((true = true) → ((1 : Nat) = 1)),
  (((-9223372036854775808) : Int) ≤ ((↑e : Int) + 1)),
  ((((↑e : Int) + 1) : Int) ≤ 9223372036854775807),
  (((↑N : Int) : Int) = (↑N : Int)),
  ((nb : Nat) = nb),
  (∀ i : Nat, (((i : Nat) < nb) → (([.int .i64 ((g i).1), .int .i64 ((g i).2.1)] : List PV) = [.int .i64 ((g i).1), .int .i64 ((g i).2.1)]))),
  (((↑k : Int) : Int) = (↑k : Int)),
  (((↑l : Int) : Int) = (↑l : Int)),
  ((0 : Nat) = 0),
  ((0 : Nat) = 0),
  (((↑nb : Int) : Int) = (↑nb : Int)),
  ((((↑e : Int) + 1) : Int) = (↑(e + 1) : Int)),
  ((3 : Nat) = 3),
  ((1 : Nat) ≤ 1),
  ((1 : Nat) ≤ 1),
  ((3 : Nat) = 3),
  ((1 : Nat) ≤ 1),
  ((1 : Nat) ≤ 1),
  ((0 : Nat) = 0),
  ((N : Nat) = N),
  ((0 : Nat) = 0),
  (((m + 1) : Nat) = (m + 1)),
  ((0 : Nat) = 0),
  (((m + 1) : Nat) = (m + 1)),
  ((1 : Nat) = 1),
  ((N : Nat) ≤ N),
  (∀ i : Nat, (((i : Nat) < N) → (All [] ∧ (([.p (.int .i64 (F1 i))] : List AV) = [.p (.int .i64 (F1 i))])))),
  ((1 : Nat) = 1),
  (((m + 1) : Nat) ≤ (m + 1)),
  (∀ i : Nat, (((i : Nat) < (m + 1)) → (All [] ∧ (([.p (.int .i64 (T1 i))] : List AV) = [.p (.int .i64 (T1 i))])))),
  ((1 : Nat) = 1),
  (((m + 1) : Nat) ≤ (m + 1)),
  (∀ i : Nat, (((i : Nat) < (m + 1)) → (All [] ∧ (([.p (.int .i64 (if i < m then Q i else (↑e : Int)))] : List AV) = [.p (.int .i64 (if i < m then Q i else (↑e : Int)))]))))]) := by kernel_rfl
theorem pY1f (g : Nat → T_Bar) (nb N m k l e : Nat) (F T Q F1 T1 : Nat → Int) :
    pieceOb Try.prog 0 [.reg [oT], .dec true, .reg [oT, oT], .reg [oT, ⟨true, (some ⟨[], [], 1, pebR N m F T Q, pebO N m 0⟩), none⟩, oT, oT], .reg [oT, oT, oT, ⟨true, (some ⟨[165, 133, 134, 135], [], 1, pebH N m F1 T1 Q, .p (.bool false)⟩), none⟩], .dec false, .reg [oT, oT], .head] [.code (cAt (bodyOf Try.f140) [1, 1, 1, 0, 1, 0, 0]), .inLoop (cAt (bodyOf Try.f140) [1, 1, 1, 0, 1, 0, 0]), .inBlock 2, .code (cAt (bodyOf Try.f140) [1, 1, 1, 1])] (SY1 g nb N m k l e F T Q) [0, 1, 2, 3, 4] 1 (SY1 g nb N m k l (e + 1) F T Q) =
    some ([.code (cAt (bodyOf Try.f140) [1, 1, 1, 0, 1, 0, 0]), .inLoop (cAt (bodyOf Try.f140) [1, 1, 1, 0, 1, 0, 0]), .inBlock 2, .code (cAt (bodyOf Try.f140) [1, 1, 1, 1])], [((decide ((↑e : Int) < (↑nb : Int))) = true),
  ((0 : Nat) < 1),
  ((1 : Nat) = 1),
  ((N : Nat) ≤ N),
  ((1 : Nat) = 1),
  ((m : Nat) ≤ m),
  ((1 : Nat) = 1),
  ((m : Nat) ≤ m),
  Con Try.prog 158 0 [] [.agg [.p (.seq true 1 N (fun i => [.int .i64 (F i)])), .p (.seq true 1 m (fun i => [.int .i64 (T i)])), .p (.seq true 1 m (fun i => [.int .i64 (Q i)]))]] [(0, ⟨false, 1, N, (fun i => [.p (.int .i64 (F i))])⟩), (1, ⟨false, 1, m, (fun i => [.p (.int .i64 (T i))])⟩), (2, ⟨false, 1, m, (fun i => [.p (.int .i64 (Q i))])⟩)] (.agg [.ar 1 0 0 N, .ar 1 1 0 m, .ar 1 2 0 m]),
  ((0 : Nat) < 1),
  ((true = true) → ((1 : Nat) = 1)),
  (∀ i : Nat, (((i : Nat) < 1) → All [])),
  (∀ i : Nat, (((i : Nat) < N) → All [])),
  (∀ i : Nat, (((i : Nat) < m) → All [])),
  (∀ i : Nat, (((i : Nat) < m) → All [])),
  Con Try.prog 159 4 [(0, ⟨true, 3, 1, (fun i => [.ar 1 1 0 N, .ar 1 2 0 m, .ar 1 3 0 m])⟩), (1, ⟨false, 1, N, (fun i => [.p (.int .i64 (F i))])⟩), (2, ⟨false, 1, m, (fun i => [.p (.int .i64 (T i))])⟩), (3, ⟨false, 1, m, (fun i => [.p (.int .i64 (Q i))])⟩)] [.p (.seq true 2 nb (fun i => [.int .i64 ((g i).1), .int .i64 ((g i).2.1)])), .p (.int .i64 (↑l : Int)), .pt 3 0 0 0, .p (.int .i64 (↑e : Int))] [(0, ⟨true, 3, 1, (fun i => [.ar 1 1 0 N, .ar 1 2 0 m, .ar 1 3 0 m])⟩), (1, ⟨false, 1, N, (fun i => [.p (.int .i64 (F1 i))])⟩), (2, ⟨false, 1, m, (fun i => [.p (.int .i64 (T1 i))])⟩), (3, ⟨false, 1, m, (fun i => [.p (.int .i64 (Q i))])⟩)] (.p (.bool false)),
  (false = false),
  (((-9223372036854775808) : Int) ≤ ((↑e : Int) + 1)),
  ((((↑e : Int) + 1) : Int) ≤ 9223372036854775807),
  (((↑N : Int) : Int) = (↑N : Int)),
  ((nb : Nat) = nb),
  (∀ i : Nat, (((i : Nat) < nb) → (([.int .i64 ((g i).1), .int .i64 ((g i).2.1)] : List PV) = [.int .i64 ((g i).1), .int .i64 ((g i).2.1)]))),
  (((↑k : Int) : Int) = (↑k : Int)),
  (((↑l : Int) : Int) = (↑l : Int)),
  ((0 : Nat) = 0),
  ((0 : Nat) = 0),
  (((↑nb : Int) : Int) = (↑nb : Int)),
  ((((↑e : Int) + 1) : Int) = (↑(e + 1) : Int)),
  ((3 : Nat) = 3),
  ((1 : Nat) ≤ 1),
  ((1 : Nat) ≤ 1),
  ((3 : Nat) = 3),
  ((1 : Nat) ≤ 1),
  ((1 : Nat) ≤ 1),
  ((0 : Nat) = 0),
  ((N : Nat) = N),
  ((0 : Nat) = 0),
  ((m : Nat) = m),
  ((0 : Nat) = 0),
  ((m : Nat) = m),
  ((1 : Nat) = 1),
  ((N : Nat) ≤ N),
  (∀ i : Nat, (((i : Nat) < N) → (All [] ∧ (([.p (.int .i64 (F i))] : List AV) = [.p (.int .i64 (F i))])))),
  ((1 : Nat) = 1),
  ((m : Nat) ≤ m),
  (∀ i : Nat, (((i : Nat) < m) → (All [] ∧ (([.p (.int .i64 (T i))] : List AV) = [.p (.int .i64 (T i))])))),
  ((1 : Nat) = 1),
  ((m : Nat) ≤ m),
  (∀ i : Nat, (((i : Nat) < m) → (All [] ∧ (([.p (.int .i64 (Q i))] : List AV) = [.p (.int .i64 (Q i))]))))]) := by kernel_rfl
theorem pY2 (g : Nat → T_Bar) (nb N m k l e : Nat) (F T Q : Nat → Int) :
    pathOb Try.prog Try.f140 0 [.reg [oT], .dec false, .reg [oT, oT]] [.code (cAt (bodyOf Try.f140) [1, 1, 1, 0, 1, 0, 0]), .inLoop (cAt (bodyOf Try.f140) [1, 1, 1, 0, 1, 0, 0]), .inBlock 2, .code (cAt (bodyOf Try.f140) [1, 1, 1, 1])] (SY1 g nb N m k l e F T Q) [2, 3, 4] 1 (pebR N m F T Q) (pebO N m 0) =
    some [((decide ((↑e : Int) < (↑nb : Int))) = false),
  ((0 : Nat) < 1),
  ((0 : Nat) < 1),
  ((true = true) → ((1 : Nat) = 1)),
  ((0 : Nat) < 1),
  ((0 : Nat) = 0),
  ((N : Nat) = N),
  ((0 : Nat) = 0),
  ((m : Nat) = m),
  ((0 : Nat) = 0),
  ((m : Nat) = m),
  ((1 : Nat) = 1),
  ((N : Nat) ≤ N),
  (∀ i : Nat, (((i : Nat) < N) → (All [] ∧ (([.p (.int .i64 (F i))] : List AV) = [.p (.int .i64 (F i))])))),
  ((1 : Nat) = 1),
  ((m : Nat) ≤ m),
  (∀ i : Nat, (((i : Nat) < m) → (All [] ∧ (([.p (.int .i64 (T i))] : List AV) = [.p (.int .i64 (T i))])))),
  ((1 : Nat) = 1),
  ((m : Nat) ≤ m),
  (∀ i : Nat, (((i : Nat) < m) → (All [] ∧ (([.p (.int .i64 (Q i))] : List AV) = [.p (.int .i64 (Q i))])))),
  (∀ i : Nat, (((i : Nat) < N) → All [])),
  (∀ i : Nat, (((i : Nat) < m) → All [])),
  (∀ i : Nat, (((i : Nat) < m) → All []))] := by kernel_rfl
theorem con_copyInts (n : Nat) (F : Nat → Int) (hn : n ≤ 1048576) : Con Try.prog 84 0 [] [inD n F] [(0, iOb n F)] (.ar 1 0 0 n) := by
  refine con_start Try.func84 rfl (by kernel_rfl) rfl (fun c hc => ?_)
  refine path_ok mixed Try.func84 hc (pCi n F) ?_
  simp only [All]
  repeat' (first | exact trivial | with_reducible apply And.intro)
  all_goals (first | omega | rfl | (intros; first | assumption | exact True.intro | rfl | exact absurd (show false = true by assumption) Bool.false_ne_true | ((repeat' (first | assumption | apply anda | apply notf)); done)) | (intro i hi; simp [All]))
theorem con_copyPebbles (N m : Nat) (F T Q : Nat → Int) (hN : N ≤ 1048576) (hm : m ≤ 1048576) : Con Try.prog 158 0 [] [.agg [inD N F, inD m T, inD m Q]] (pebR N m F T Q) (pebO N m 0) := by
  refine con_start Try.func158 rfl (by kernel_rfl) rfl (fun c hc => ?_)
  refine path_ok mixed Try.func158 hc (pCp N m m F T Q) ?_
  simp only [All]
  repeat' (first | exact trivial | with_reducible apply And.intro)
  all_goals (first | omega | rfl | (intros; first | assumption | exact True.intro | rfl | exact absurd (show false = true by assumption) Bool.false_ne_true | ((repeat' (first | assumption | apply anda | apply notf)); done)) | (exact con_copyInts N F hN) | (exact con_copyInts m T hm) | (exact con_copyInts m Q hm) | (intro i hi; simp [All]))
open Classical in
noncomputable def accI (N k l : Nat) (g : Nat → T_Bar) : Nat → List Nat
  | 0 => []
  | e + 1 => if Mat.Sparse N k l ((accI N k l g e).map (fun i => brN (g i)) ++ [brN (g e)]) then accI N k l g e ++ [e] else accI N k l g e
theorem accI_sparse (N k l : Nat) (g : Nat → T_Bar) : ∀ e, Mat.Sparse N k l ((accI N k l g e).map (fun i => brN (g i)))
  | 0 => Mat.sparse_nil N k l
  | e + 1 => by
    simp only [accI]
    split
    · rename_i h; rw [List.map_append]; exact h
    · exact accI_sparse N k l g e
def qL (Q : Nat → Int) : Nat → List Nat
  | 0 => []
  | m + 1 => qL Q m ++ [(Q m).toNat]
theorem qL_length (Q : Nat → Int) : ∀ m, (qL Q m).length = m
  | 0 => rfl
  | m + 1 => by simp [qL, qL_length Q m]
theorem qL_congr {Q Q' : Nat → Int} : ∀ m, (∀ j, j < m → Q j = Q' j) → qL Q m = qL Q' m
  | 0, _ => rfl
  | m + 1, h => by simp only [qL]; rw [qL_congr m (fun j hj => h j (by omega)), h m (by omega)]
theorem plL_qL (g : Nat → T_Bar) (Q : Nat → Int) : ∀ m, plL g Q m = (qL Q m).map (fun i => brN (g i))
  | 0 => rfl
  | m + 1 => by simp only [plL, qL, plL_qL g Q m, List.map_append, List.map_cons, List.map_nil]
theorem accI_len (N k l : Nat) (g : Nat → T_Bar) : ∀ e, (accI N k l g e).length ≤ e
  | 0 => Nat.le_refl _
  | e + 1 => by
    have := accI_len N k l g e
    simp only [accI]
    split
    · simp; omega
    · omega
theorem PInv.start {N k nb : Nat} {g : Nat → T_Bar} (hb : ∀ e, e < nb → 0 ≤ (g e).1 ∧ (g e).1 < (g e).2.1 ∧ (g e).2.1 < N) : PInv N k nb 0 g (fun _ => (k : Int)) (fun _ => 0) (fun _ => 0) :=
  ⟨hb, fun j hj => absurd hj (Nat.not_lt_zero _), fun j hj => absurd hj (Nat.not_lt_zero _), fun v _ => by show (0 : Int) ≤ k; omega, fun v _ => by show (k : Int) + 0 = k; omega⟩
theorem con_play {N k l nb : Nat} {g : Nat → T_Bar} (hb : ∀ e, e < nb → 0 ≤ (g e).1 ∧ (g e).1 < (g e).2.1 ∧ (g e).2.1 < N) (hk : k ≤ 1048576) (hl : l ≤ 1048576) (hN : N ≤ 1048576) (hnb : nb ≤ 1048576) :
    ∃ m F T Q, Con Try.prog 140 0 [] [.p (.int .i64 N), brL g nb, .p (.int .i64 k), .p (.int .i64 l)] (pebR N m F T Q) (pebO N m 0) ∧ PInv N k nb m g F T Q ∧ qL Q m = accI N k l g nb := by
  have lp1 : ∀ d e m F T Q, e + d = nb → PInv N k nb m g F T Q → qL Q m = accI N k l g e →
      ∃ m' F' T' Q', (∀ c, c.n = 0 → Run Try.prog c 140 [.code (cAt (bodyOf Try.f140) [1, 1, 1, 0, 1, 0, 0]), .inLoop (cAt (bodyOf Try.f140) [1, 1, 1, 0, 1, 0, 0]), .inBlock 2, .code (cAt (bodyOf Try.f140) [1, 1, 1, 1])] (SY1 g nb N m k l e F T Q) (Post c (pebR N m' F' T' Q') (pebO N m' 0))) ∧ PInv N k nb m' g F' T' Q' ∧ qL Q' m' = accI N k l g nb := by
    intro d
    induction d with
    | zero =>
      intro e m F T Q he hp hq
      obtain rfl : e = nb := by omega
      refine ⟨m, F, T, Q, fun c hc => ?_, hp, hq⟩
      have hd : decide ((e : Int) < (e : Int)) = false := by simp
      refine path_ok mixed Try.func140 hc (pY2 g e N m k l e F T Q) ?_
      simp only [All]
      repeat' (first | exact trivial | with_reducible apply And.intro)
      all_goals (first | omega | rfl | (intros; first | assumption | exact True.intro | rfl | exact absurd (show false = true by assumption) Bool.false_ne_true | ((repeat' (first | assumption | apply anda | apply notf)); done)) | (intro i hi; simp [All]))
    | succ d ih =>
      intro e m F T Q he hp hq
      have hd : decide ((e : Int) < (nb : Int)) = true := by simp; omega
      have hm : m ≤ 1048576 := by
        have := accI_len N k l g e
        rw [← hq, qL_length] at this
        omega
      have hsp : Mat.Sparse N k l (plL g Q m) := by rw [plL_qL, hq]; exact accI_sparse N k l g e
      have hcc := con_copyPebbles N m F T Q hN hm
      rcases con_place hp hk hl hN hm hnb e (by omega) hsp with ⟨F1, T1, hc1, hp1, hs1⟩ | ⟨F1, T1, hc1, hs1⟩
      · obtain ⟨m', F', T', Q', hrun, h1, h2⟩ := ih (e + 1) (m + 1) F1 T1 _ (by omega) hp1 (by
          simp only [accI]
          rw [← hq, ← plL_qL, if_pos hs1]
          simp only [qL, Nat.lt_irrefl, if_false, Int.toNat_natCast]
          rw [qL_congr (Q' := Q) m (fun j hj => by simp only [hj, if_true])])
        refine ⟨m', F', T', Q', fun c hc => ?_, h1, h2⟩
        refine piece_ok mixed hc (pY1t g nb N m k l e F T Q F1 T1) ?_ (hrun c hc)
        simp only [All]
        repeat' (first | exact trivial | with_reducible apply And.intro)
        all_goals (first | omega | rfl | (intros; first | assumption | exact True.intro | rfl | exact absurd (show false = true by assumption) Bool.false_ne_true | ((repeat' (first | assumption | apply anda | apply notf)); done)) | (exact hcc) | (exact hc1) | (intro i hi; simp [All]))
      · obtain ⟨m', F', T', Q', hrun, h1, h2⟩ := ih (e + 1) m F T Q (by omega) hp (by
          simp only [accI]
          rw [← hq, ← plL_qL, if_neg hs1])
        refine ⟨m', F', T', Q', fun c hc => ?_, h1, h2⟩
        refine piece_ok mixed hc (pY1f g nb N m k l e F T Q F1 T1) ?_ (hrun c hc)
        simp only [All]
        repeat' (first | exact trivial | with_reducible apply And.intro)
        all_goals (first | omega | rfl | (intros; first | assumption | exact True.intro | rfl | exact absurd (show false = true by assumption) Bool.false_ne_true | ((repeat' (first | assumption | apply anda | apply notf)); done)) | (exact hcc) | (exact hc1) | (intro i hi; simp [All]))
  obtain ⟨m', F', T', Q', hrun, h1, h2⟩ := lp1 nb 0 0 _ _ _ (by omega) (PInv.start hb) rfl
  refine ⟨m', F', T', Q', ?_, h1, h2⟩
  refine con_start Try.func140 rfl (by kernel_rfl) rfl (fun c hc => ?_)
  have lp0 : ∀ d i, i + d = N → Run Try.prog c 140 [.code (cAt (bodyOf Try.f140) [1, 1, 0, 1, 0, 0]), .inLoop (cAt (bodyOf Try.f140) [1, 1, 0, 1, 0, 0]), .inBlock 0, .code (cAt (bodyOf Try.f140) [1, 1, 1])] (SY0 g nb N k l i) (Post c (pebR N m' F' T' Q') (pebO N m' 0)) := by
    intro d
    induction d with
    | zero =>
      intro i hi
      obtain rfl : i = N := by omega
      have hd : decide ((i : Int) < (i : Int)) = false := by simp
      refine piece_ok mixed hc (pY01 g nb i k l i) ?_ (hrun c hc)
      simp only [All]
      repeat' (first | exact trivial | with_reducible apply And.intro)
      all_goals (first | omega | rfl | (intros; first | assumption | exact True.intro | rfl | exact absurd (show false = true by assumption) Bool.false_ne_true | ((repeat' (first | assumption | apply anda | apply notf)); done)) | (intro i hi; simp [All]))
    | succ d ih =>
      intro i hi
      have hd : decide ((i : Int) < (N : Int)) = true := by simp; omega
      refine piece_ok mixed hc (pY0 g nb N k l i) ?_ (ih (i + 1) (by omega))
      simp only [All]
      repeat' (first | exact trivial | with_reducible apply And.intro)
      all_goals (first | omega | rfl | (intros; first | assumption | exact True.intro | rfl | exact absurd (show false = true by assumption) Bool.false_ne_true | ((repeat' (first | assumption | apply anda | apply notf)); done)) | (intro j hj; simp [All]; done) | (intro j hj; by_cases h : j < i <;> simp [h, cvtL, cvt, tg, tru, All]))
  refine piece_ok mixed hc (pYz g nb N k l) ?_ (lp0 N 0 (by omega))
  simp only [All]
  repeat' (first | exact trivial | with_reducible apply And.intro)
  all_goals (first | omega | rfl | (intros; first | assumption | exact True.intro | rfl | exact absurd (show false = true by assumption) Bool.false_ne_true | ((repeat' (first | assumption | apply anda | apply notf)); done)) | (intro i hi; simp [All]))
end Go.Proofs.Ytgdbnnmogddkaaa.Mach
namespace Go.Proofs.Ytgdbnnmogddkaaa.Mach
open Go
set_option linter.unusedVariables false
set_option linter.unusedSimpArgs false
def grG (g : Nat → T_Bar) (nb N : Nat) : AV := .agg [.p (.int .i64 N), brL g nb]
def bxG (g : Nat → T_Bar) (nb N : Nat) : Ob := ⟨true, 2, 1, fun _ => [.p (.int .i64 N), brL g nb]⟩
def bx0 : Ob := ⟨true, 3, 1, fun _ => [.p .nil, .p .nil, .p .nil]⟩
def bxP (N m j : Nat) : Ob := ⟨true, 3, 1, fun _ => [.ar 1 j 0 N, .ar 1 (j + 1) 0 m, .ar 1 (j + 2) 0 m]⟩
def bxD (N m : Nat) (F T Q : Nat → Int) : Ob := ⟨true, 3, 1, fun _ => [inD N F, inD m T, inD m Q]⟩
def pebD (N m : Nat) (F T Q : Nat → Int) : AV := .agg [inD N F, inD m T, inD m Q]
def bOb (n : Nat) (S : Nat → Bool) : Ob := ⟨false, 1, n, fun i => [.p (.bool (S i))]⟩
def SSc (g : Nat → T_Bar) (nb N m : Nat) (F T Q FR F1 T1 : Nat → Int) (a u : Int) : St :=
  ⟨[grG g nb N, pebD N m F T Q, inD N FR, .p (.int .i64 a), .p (.int .i64 u), .pt 2 0 0 0, .pt 3 1 0 0, .p .any, .p .any, .p .any, .pt 3 2 0 0, .pt 3 3 0 0] ++ List.replicate 51 anyA,
   [(0, bxG g nb N), (1, bxD N m F T Q), (2, bx0), (3, bxP N m 4), (4, iOb N F1), (5, iOb m T1), (6, iOb m Q)], 7⟩
def SSl (g : Nat → T_Bar) (nb N m : Nat) (F T Q FR F1 T1 : Nat → Int) (a u at' : Int) : St :=
  ⟨[grG g nb N, pebD N m F T Q, inD N FR, .p (.int .i64 a), .p (.int .i64 u), .pt 2 0 0 0, .pt 3 1 0 0, .p .any, .p .any, .p .any, .pt 3 2 0 0, .pt 3 3 0 0, .p (.int .i64 at')] ++ List.replicate 50 anyA,
   [(0, bxG g nb N), (1, bxD N m F T Q), (2, bx0), (3, bxP N m 4), (4, iOb N F1), (5, iOb m T1), (6, iOb m Q)], 7⟩
def SF0 (g : Nat → T_Bar) (nb N m : Nat) (F T Q : Nat → Int) (a b : Int) (i : Nat) : St :=
  ⟨[grG g nb N, pebO N m 0, .p (.int .i64 a), .p (.int .i64 b), .pt 2 3 0 0, .pt 3 4 0 0, .p .any, .p .any, .pt 3 5 0 0, .p .any, .ar 1 6 0 N, .p (.int .i64 i)] ++ List.replicate 94 anyA,
   [(0, iOb N F), (1, iOb m T), (2, iOb m Q), (3, bxG g nb N), (4, bxP N m 0), (5, bx0), (6, iOb N (fun s => if s < i then -1 else 0))], 7⟩
def SF1 (g : Nat → T_Bar) (nb N m : Nat) (F T Q td FR : Nat → Int) (SN : Nat → Bool) (a b : Int) (i tn : Nat) : St :=
  ⟨[grG g nb N, pebO N m 0, .p (.int .i64 a), .p (.int .i64 b), .pt 2 3 0 0, .pt 3 4 0 0, .p .any, .p .any, .pt 3 5 0 0, .p .any, .ar 1 6 0 N, .p .any, .ar 1 8 0 tn, .ar 1 7 0 N, .p (.int .i64 i)] ++ List.replicate 91 anyA,
   [(0, iOb N F), (1, iOb m T), (2, iOb m Q), (3, bxG g nb N), (4, bxP N m 0), (5, bx0), (6, iOb N FR), (7, bOb N SN), (8, iOb tn td)], 9⟩
def SF2 (g : Nat → T_Bar) (nb N m : Nat) (F T Q td FR : Nat → Int) (SN : Nat → Bool) (a b v : Int) (i j tn : Nat) : St :=
  ⟨[grG g nb N, pebO N m 0, .p (.int .i64 a), .p (.int .i64 b), .pt 2 3 0 0, .pt 3 4 0 0, .p .any, .p .any, .pt 3 5 0 0, .p .any, .ar 1 6 0 N, .p .any, .ar 1 8 0 tn, .ar 1 7 0 N, .p (.int .i64 i), .p (.int .i64 v), .p (.int .i64 j)] ++ List.replicate 89 anyA,
   [(0, iOb N F), (1, iOb m T), (2, iOb m Q), (3, bxG g nb N), (4, bxP N m 0), (5, bx0), (6, iOb N FR), (7, bOb N SN), (8, iOb tn td)], 9⟩
def SF3 (g : Nat → T_Bar) (nb N m : Nat) (F T Q FR : Nat → Int) (a b u : Int) : St :=
  ⟨[grG g nb N, pebO N m 0, .p (.int .i64 a), .p (.int .i64 b), .pt 2 3 0 0, .pt 3 4 0 0, .p .any, .p .any, .pt 3 5 0 0, .p .any, .ar 1 6 0 N, .p .any, .p .any, .p .any, .p .any, .p .any, .p .any, .p (.int .i64 u)] ++ List.replicate 88 anyA,
   [(0, iOb N F), (1, iOb m T), (2, iOb m Q), (3, bxG g nb N), (4, bxP N m 0), (5, bx0), (6, iOb N FR)], 7⟩
def pebR3 (N m : Nat) (F T Q F' T' Q' : Nat → Int) : Hp := [(0, iOb N F), (1, iOb m T), (2, iOb m Q), (3, iOb N F'), (4, iOb m T'), (5, iOb m Q')]
theorem qOt (x : T_Bar) (v : Int) :
    pathOb Try.prog Try.f168 0 [.reg [oT, oT], .reg [oT, oT, oT, oT, oT, oT, oT, oT]] [.code (bodyOf Try.f168)] (start Try.f168 [] 0 [brA x, .p (.int .i64 v)]) [] 1 [] (.p (.int .i64 (x.1 + x.2.1 - v))) =
    some [((0 : Nat) < 1),
  ((0 : Nat) < 1),
  (((-9223372036854775808) : Int) ≤ (x.1 + x.2.1)),
  (((x.1 + x.2.1) : Int) ≤ 9223372036854775807),
  (((-9223372036854775808) : Int) ≤ (x.1 + x.2.1 - v)),
  (((x.1 + x.2.1 - v) : Int) ≤ 9223372036854775807),
  (((x.1 + x.2.1 - v) : Int) = (x.1 + x.2.1 - v))] := by kernel_rfl
theorem qCp (N m : Nat) (F T Q : Nat → Int) :
    pathOb Try.prog Try.f156 0 [.reg [oT, oT], .reg [oT, oT, oT, oT, oT, oT, oT, oT, oT, oT, oT, oT, oT, oT]] [.code (bodyOf Try.f156)] (start Try.f156 [] 0 [pebD N m F T Q]) [160, 288, 416] 1 (pebR N m F T Q) (pebO N m 0) =
    some [((0 : Nat) < 1),
  ((0 : Nat) ≤ 0),
  ((((0 + N) * 8) : Nat) ≤ 140737488355328),
  (((0 + N) : Nat) ≤ 9223372036854775807),
  ((0 : Nat) < 1),
  ((0 : Nat) ≤ 0),
  ((((0 + m) * 8) : Nat) ≤ 140737488355328),
  (((0 + m) : Nat) ≤ 9223372036854775807),
  ((0 : Nat) < 1),
  ((0 : Nat) ≤ 0),
  ((((0 + m) * 8) : Nat) ≤ 140737488355328),
  (((0 + m) : Nat) ≤ 9223372036854775807),
  ((0 : Nat) < 1),
  ((true = true) → ((1 : Nat) = 1)),
  ((0 : Nat) < 1),
  ((0 : Nat) = 0),
  (((0 + N) : Nat) = N),
  ((0 : Nat) = 0),
  (((0 + m) : Nat) = m),
  ((0 : Nat) = 0),
  (((0 + m) : Nat) = m),
  ((1 : Nat) = 1),
  ((N : Nat) ≤ (0 + N)),
  (∀ i : Nat, (((i : Nat) < N) → (All [] ∧ (([.p (.int .i64 (F i))] : List AV) = [.p (.int .i64 (F i))])))),
  ((1 : Nat) = 1),
  ((m : Nat) ≤ (0 + m)),
  (∀ i : Nat, (((i : Nat) < m) → (All [] ∧ (([.p (.int .i64 (T i))] : List AV) = [.p (.int .i64 (T i))])))),
  ((1 : Nat) = 1),
  ((m : Nat) ≤ (0 + m)),
  (∀ i : Nat, (((i : Nat) < m) → (All [] ∧ (([.p (.int .i64 (Q i))] : List AV) = [.p (.int .i64 (Q i))])))),
  (∀ i : Nat, (((i : Nat) < N) → All [])),
  (∀ i : Nat, (((i : Nat) < m) → All [])),
  (∀ i : Nat, (((i : Nat) < m) → All []))] := by kernel_rfl
theorem qSz (g : Nat → T_Bar) (nb N m : Nat) (F T Q FR : Nat → Int) (a u : Int) :
    pieceOb Try.prog 0 [.reg [oT, oT, oT], .reg [oT, ⟨true, (some ⟨[], [], 1, pebR N m F T Q, pebO N m 0⟩), none⟩, oT, oT], .reg [oT, oT, oT, oT, oT, oT, oT, oT, oT, oT, oT], .head] [.code (bodyOf Try.f169)] (start Try.f169 [] 0 [grG g nb N, pebD N m F T Q, inD N FR, .p (.int .i64 a), .p (.int .i64 u)]) [0, 32, 64, 160, 128, 129, 130] 1 (SSc g nb N m F T Q FR (fun s => if s = u.toNat then F s - 1 else F s) T a u) =
    some ([.code (cAt (bodyOf Try.f169) [1, 1, 1, 0]), .code (cAt (bodyOf Try.f169) [1, 1, 1, 1])], [((0 : Nat) < 1),
  Con Try.prog 156 0 [] [.agg [.p (.seq true 1 N (fun i => [.int .i64 (F i)])), .p (.seq true 1 m (fun i => [.int .i64 (T i)])), .p (.seq true 1 m (fun i => [.int .i64 (Q i)]))]] [(0, ⟨false, 1, N, (fun i => [.p (.int .i64 (F i))])⟩), (1, ⟨false, 1, m, (fun i => [.p (.int .i64 (T i))])⟩), (2, ⟨false, 1, m, (fun i => [.p (.int .i64 (Q i))])⟩)] (.agg [.ar 1 0 0 N, .ar 1 1 0 m, .ar 1 2 0 m]),
  ((0 : Nat) < 1),
  ((true = true) → ((1 : Nat) = 1)),
  ((0 : Nat) < 1),
  ((0 : Nat) < 1),
  ((0 : Int) ≤ u),
  ((u : Int) < (↑N : Int)),
  ((u.toNat : Nat) < N),
  (((-9223372036854775808) : Int) ≤ (F u.toNat - 1)),
  (((F u.toNat - 1) : Int) ≤ 9223372036854775807),
  ((0 : Int) ≤ u),
  ((u : Int) < (↑N : Int)),
  ((u.toNat : Nat) < N),
  ((false = true) → ((N : Nat) = 1)),
  (((↑N : Int) : Int) = (↑N : Int)),
  ((nb : Nat) = nb),
  (∀ i : Nat, (((i : Nat) < nb) → (([.int .i64 ((g i).1), .int .i64 ((g i).2.1)] : List PV) = [.int .i64 ((g i).1), .int .i64 ((g i).2.1)]))),
  ((N : Nat) = N),
  (∀ i : Nat, (((i : Nat) < N) → (([.int .i64 (F i)] : List PV) = [.int .i64 (F i)]))),
  ((m : Nat) = m),
  (∀ i : Nat, (((i : Nat) < m) → (([.int .i64 (T i)] : List PV) = [.int .i64 (T i)]))),
  ((m : Nat) = m),
  (∀ i : Nat, (((i : Nat) < m) → (([.int .i64 (Q i)] : List PV) = [.int .i64 (Q i)]))),
  ((N : Nat) = N),
  (∀ i : Nat, (((i : Nat) < N) → (([.int .i64 (FR i)] : List PV) = [.int .i64 (FR i)]))),
  ((a : Int) = a),
  ((u : Int) = u),
  ((0 : Nat) = 0),
  ((0 : Nat) = 0),
  ((0 : Nat) = 0),
  ((0 : Nat) = 0),
  ((([AV.p (PV.int IntKind.i64 (↑N : Int)), brL g nb].length) : Nat) = 2),
  ((1 : Nat) ≤ 1),
  ((1 : Nat) ≤ 1),
  (((↑N : Int) : Int) = (↑N : Int)),
  ((nb : Nat) = nb),
  (∀ i : Nat, (((i : Nat) < nb) → (([.int .i64 ((g i).1), .int .i64 ((g i).2.1)] : List PV) = [.int .i64 ((g i).1), .int .i64 ((g i).2.1)]))),
  ((([inD N F, inD m T, inD m Q].length) : Nat) = 3),
  ((1 : Nat) ≤ 1),
  ((1 : Nat) ≤ 1),
  ((N : Nat) = N),
  (∀ i : Nat, (((i : Nat) < N) → (([.int .i64 (F i)] : List PV) = [.int .i64 (F i)]))),
  ((m : Nat) = m),
  (∀ i : Nat, (((i : Nat) < m) → (([.int .i64 (T i)] : List PV) = [.int .i64 (T i)]))),
  ((m : Nat) = m),
  (∀ i : Nat, (((i : Nat) < m) → (([.int .i64 (Q i)] : List PV) = [.int .i64 (Q i)]))),
  ((((List.map (fun v => AV.p (absV v)) [Value.slice none 0 0, Value.slice none 0 0, Value.slice none 0 0]).length) : Nat) = 3),
  ((1 : Nat) ≤ 1),
  ((1 : Nat) ≤ 1),
  ((((List.map (fun v => AV.p (absV v)) [Value.slice none 0 0, Value.slice none 0 0, Value.slice none 0 0]).length) : Nat) = 3),
  ((1 : Nat) ≤ 1),
  ((1 : Nat) ≤ 1),
  ((0 : Nat) = 0),
  ((N : Nat) = N),
  ((0 : Nat) = 0),
  ((m : Nat) = m),
  ((0 : Nat) = 0),
  ((m : Nat) = m),
  ((1 : Nat) = 1),
  ((N : Nat) ≤ N),
  (∀ i : Nat, (((i : Nat) < N) → (All (cvtL false [(128, ⟨false, 1, N, (fun i_1 => (if (i_1 = u.toNat) then [.p (.int .i64 (F u.toNat - 1))] else [.p (.int .i64 (F i_1))]))⟩), (160, ⟨true, 3, 1, (fun i_1 => [.ar 1 128 0 N, .ar 1 129 0 m, .ar 1 130 0 m])⟩), (130, ⟨false, 1, m, (fun i_1 => [.p (.int .i64 (Q i_1))])⟩), (129, ⟨false, 1, m, (fun i_1 => [.p (.int .i64 (T i_1))])⟩), (64, ⟨true, 3, 1, (fun i_1 => [.p (.nil), .p (.nil), .p (.nil)])⟩), (32, ⟨true, 3, 1, (fun i_1 => [.p (.seq true 1 N (fun i_2 => [.int .i64 (F i_2)])), .p (.seq true 1 m (fun i_2 => [.int .i64 (T i_2)])), .p (.seq true 1 m (fun i_2 => [.int .i64 (Q i_2)]))])⟩), (0, ⟨true, 2, 1, (fun i_1 => [.p (.int .i64 (↑N : Int)), .p (.seq true 2 nb (fun i_2 => [.int .i64 ((g i_2).1), .int .i64 ((g i_2).2.1)]))])⟩)] [0, 32, 64, 160, 128, 129, 130] 1 (if (i = u.toNat) then [.p (.int .i64 (F u.toNat - 1))] else [.p (.int .i64 (F i))])).2 ∧ (((cvtL false [(128, ⟨false, 1, N, (fun i_1 => (if (i_1 = u.toNat) then [.p (.int .i64 (F u.toNat - 1))] else [.p (.int .i64 (F i_1))]))⟩), (160, ⟨true, 3, 1, (fun i_1 => [.ar 1 128 0 N, .ar 1 129 0 m, .ar 1 130 0 m])⟩), (130, ⟨false, 1, m, (fun i_1 => [.p (.int .i64 (Q i_1))])⟩), (129, ⟨false, 1, m, (fun i_1 => [.p (.int .i64 (T i_1))])⟩), (64, ⟨true, 3, 1, (fun i_1 => [.p (.nil), .p (.nil), .p (.nil)])⟩), (32, ⟨true, 3, 1, (fun i_1 => [.p (.seq true 1 N (fun i_2 => [.int .i64 (F i_2)])), .p (.seq true 1 m (fun i_2 => [.int .i64 (T i_2)])), .p (.seq true 1 m (fun i_2 => [.int .i64 (Q i_2)]))])⟩), (0, ⟨true, 2, 1, (fun i_1 => [.p (.int .i64 (↑N : Int)), .p (.seq true 2 nb (fun i_2 => [.int .i64 ((g i_2).1), .int .i64 ((g i_2).2.1)]))])⟩)] [0, 32, 64, 160, 128, 129, 130] 1 (if (i = u.toNat) then [.p (.int .i64 (F u.toNat - 1))] else [.p (.int .i64 (F i))])).1 : List AV) = [.p (.int .i64 (if i = u.toNat then F i - 1 else F i))])))),
  ((1 : Nat) = 1),
  ((m : Nat) ≤ m),
  (∀ i : Nat, (((i : Nat) < m) → (All [] ∧ (([.p (.int .i64 (T i))] : List AV) = [.p (.int .i64 (T i))])))),
  ((1 : Nat) = 1),
  ((m : Nat) ≤ m),
  (∀ i : Nat, (((i : Nat) < m) → (All [] ∧ (([.p (.int .i64 (Q i))] : List AV) = [.p (.int .i64 (Q i))]))))]) := by kernel_rfl
theorem qSa (g : Nat → T_Bar) (nb N m : Nat) (F T Q FR F1 T1 : Nat → Int) (a u : Int) :
    pieceOb Try.prog 0 [.reg [oT, oT, oT, oT, oT, oT, oT, oT, oT, oT, oT], .reg [oT, oT], .head] [.code (cAt (bodyOf Try.f169) [1, 1, 1, 0]), .code (cAt (bodyOf Try.f169) [1, 1, 1, 1])] (SSc g nb N m F T Q FR F1 T1 a u) [0, 1, 2, 3, 4, 5, 6] 1 (SSl g nb N m F T Q FR (fun s => if s = a.toNat then F1 s + 1 else F1 s) T1 a u u) =
    some ([.code (cAt (bodyOf Try.f169) [1, 1, 1, 1, 1, 0, 0, 0]), .inLoop (cAt (bodyOf Try.f169) [1, 1, 1, 1, 1, 0, 0, 0]), .inBlock 0, .code (cAt (bodyOf Try.f169) [1, 1, 1, 1, 1, 1])], [((0 : Nat) < 1),
  ((0 : Nat) < 1),
  ((0 : Int) ≤ a),
  ((a : Int) < (↑N : Int)),
  ((a.toNat : Nat) < N),
  (((-9223372036854775808) : Int) ≤ (F1 a.toNat + 1)),
  (((F1 a.toNat + 1) : Int) ≤ 9223372036854775807),
  ((0 : Int) ≤ a),
  ((a : Int) < (↑N : Int)),
  ((a.toNat : Nat) < N),
  ((false = true) → ((N : Nat) = 1)),
  (((↑N : Int) : Int) = (↑N : Int)),
  ((nb : Nat) = nb),
  (∀ i : Nat, (((i : Nat) < nb) → (([.int .i64 ((g i).1), .int .i64 ((g i).2.1)] : List PV) = [.int .i64 ((g i).1), .int .i64 ((g i).2.1)]))),
  ((N : Nat) = N),
  (∀ i : Nat, (((i : Nat) < N) → (([.int .i64 (F i)] : List PV) = [.int .i64 (F i)]))),
  ((m : Nat) = m),
  (∀ i : Nat, (((i : Nat) < m) → (([.int .i64 (T i)] : List PV) = [.int .i64 (T i)]))),
  ((m : Nat) = m),
  (∀ i : Nat, (((i : Nat) < m) → (([.int .i64 (Q i)] : List PV) = [.int .i64 (Q i)]))),
  ((N : Nat) = N),
  (∀ i : Nat, (((i : Nat) < N) → (([.int .i64 (FR i)] : List PV) = [.int .i64 (FR i)]))),
  ((a : Int) = a),
  ((u : Int) = u),
  ((0 : Nat) = 0),
  ((0 : Nat) = 0),
  ((0 : Nat) = 0),
  ((0 : Nat) = 0),
  ((u : Int) = u),
  ((2 : Nat) = 2),
  ((1 : Nat) ≤ 1),
  ((1 : Nat) ≤ 1),
  (((↑N : Int) : Int) = (↑N : Int)),
  ((nb : Nat) = nb),
  (∀ i : Nat, (((i : Nat) < nb) → (([.int .i64 ((g i).1), .int .i64 ((g i).2.1)] : List PV) = [.int .i64 ((g i).1), .int .i64 ((g i).2.1)]))),
  ((3 : Nat) = 3),
  ((1 : Nat) ≤ 1),
  ((1 : Nat) ≤ 1),
  ((N : Nat) = N),
  (∀ i : Nat, (((i : Nat) < N) → (([.int .i64 (F i)] : List PV) = [.int .i64 (F i)]))),
  ((m : Nat) = m),
  (∀ i : Nat, (((i : Nat) < m) → (([.int .i64 (T i)] : List PV) = [.int .i64 (T i)]))),
  ((m : Nat) = m),
  (∀ i : Nat, (((i : Nat) < m) → (([.int .i64 (Q i)] : List PV) = [.int .i64 (Q i)]))),
  ((3 : Nat) = 3),
  ((1 : Nat) ≤ 1),
  ((1 : Nat) ≤ 1),
  ((3 : Nat) = 3),
  ((1 : Nat) ≤ 1),
  ((1 : Nat) ≤ 1),
  ((0 : Nat) = 0),
  ((N : Nat) = N),
  ((0 : Nat) = 0),
  ((m : Nat) = m),
  ((0 : Nat) = 0),
  ((m : Nat) = m),
  ((1 : Nat) = 1),
  ((N : Nat) ≤ N),
  (∀ i : Nat, (((i : Nat) < N) → (All (cvtL false [(4, ⟨false, 1, N, (fun i_1 => (if (i_1 = a.toNat) then [.p (.int .i64 (F1 a.toNat + 1))] else [.p (.int .i64 (F1 i_1))]))⟩), (0, ⟨true, 2, 1, (fun i_1 => [.p (.int .i64 (↑N : Int)), .p (.seq true 2 nb (fun i_2 => [.int .i64 ((g i_2).1), .int .i64 ((g i_2).2.1)]))])⟩), (1, ⟨true, 3, 1, (fun i_1 => [.p (.seq true 1 N (fun i_2 => [.int .i64 (F i_2)])), .p (.seq true 1 m (fun i_2 => [.int .i64 (T i_2)])), .p (.seq true 1 m (fun i_2 => [.int .i64 (Q i_2)]))])⟩), (2, ⟨true, 3, 1, (fun i_1 => [.p (.nil), .p (.nil), .p (.nil)])⟩), (3, ⟨true, 3, 1, (fun i_1 => [.ar 1 4 0 N, .ar 1 5 0 m, .ar 1 6 0 m])⟩), (5, ⟨false, 1, m, (fun i_1 => [.p (.int .i64 (T1 i_1))])⟩), (6, ⟨false, 1, m, (fun i_1 => [.p (.int .i64 (Q i_1))])⟩)] [0, 1, 2, 3, 4, 5, 6] 1 (if (i = a.toNat) then [.p (.int .i64 (F1 a.toNat + 1))] else [.p (.int .i64 (F1 i))])).2 ∧ (((cvtL false [(4, ⟨false, 1, N, (fun i_1 => (if (i_1 = a.toNat) then [.p (.int .i64 (F1 a.toNat + 1))] else [.p (.int .i64 (F1 i_1))]))⟩), (0, ⟨true, 2, 1, (fun i_1 => [.p (.int .i64 (↑N : Int)), .p (.seq true 2 nb (fun i_2 => [.int .i64 ((g i_2).1), .int .i64 ((g i_2).2.1)]))])⟩), (1, ⟨true, 3, 1, (fun i_1 => [.p (.seq true 1 N (fun i_2 => [.int .i64 (F i_2)])), .p (.seq true 1 m (fun i_2 => [.int .i64 (T i_2)])), .p (.seq true 1 m (fun i_2 => [.int .i64 (Q i_2)]))])⟩), (2, ⟨true, 3, 1, (fun i_1 => [.p (.nil), .p (.nil), .p (.nil)])⟩), (3, ⟨true, 3, 1, (fun i_1 => [.ar 1 4 0 N, .ar 1 5 0 m, .ar 1 6 0 m])⟩), (5, ⟨false, 1, m, (fun i_1 => [.p (.int .i64 (T1 i_1))])⟩), (6, ⟨false, 1, m, (fun i_1 => [.p (.int .i64 (Q i_1))])⟩)] [0, 1, 2, 3, 4, 5, 6] 1 (if (i = a.toNat) then [.p (.int .i64 (F1 a.toNat + 1))] else [.p (.int .i64 (F1 i))])).1 : List AV) = [.p (.int .i64 (if i = a.toNat then F1 i + 1 else F1 i))])))),
  ((1 : Nat) = 1),
  ((m : Nat) ≤ m),
  (∀ i : Nat, (((i : Nat) < m) → (All [] ∧ (([.p (.int .i64 (T1 i))] : List AV) = [.p (.int .i64 (T1 i))])))),
  ((1 : Nat) = 1),
  ((m : Nat) ≤ m),
  (∀ i : Nat, (((i : Nat) < m) → (All [] ∧ (([.p (.int .i64 (Q i))] : List AV) = [.p (.int .i64 (Q i))]))))]) := by kernel_rfl
theorem qSl (g : Nat → T_Bar) (nb N m : Nat) (F T Q FR F1 T1 : Nat → Int) (a u at' w : Int) :
    pieceOb Try.prog 0 [.reg [oT, oT, oT], .dec true, .reg [oT, oT, oT, oT, oT], .reg [oT, oT, oT, oT, oT, oT, oT, oT, oT, oT, ⟨true, (some ⟨[], [], 1, [], .p (.int .i64 w)⟩), none⟩, oT], .reg [oT, oT, oT, oT, oT, oT], .reg [oT, oT], .head] [.code (cAt (bodyOf Try.f169) [1, 1, 1, 1, 1, 0, 0, 0]), .inLoop (cAt (bodyOf Try.f169) [1, 1, 1, 1, 1, 0, 0, 0]), .inBlock 0, .code (cAt (bodyOf Try.f169) [1, 1, 1, 1, 1, 1])] (SSl g nb N m F T Q FR F1 T1 a u at') [0, 1, 2, 3, 4, 5, 6] 1 (SSl g nb N m F T Q FR F1 (fun s => if s = (FR at'.toNat).toNat then at' else T1 s) a u w) =
    some ([.code (cAt (bodyOf Try.f169) [1, 1, 1, 1, 1, 0, 0, 0]), .inLoop (cAt (bodyOf Try.f169) [1, 1, 1, 1, 1, 0, 0, 0]), .inBlock 0, .code (cAt (bodyOf Try.f169) [1, 1, 1, 1, 1, 1])], [((at' != a) = true),
  ((0 : Int) ≤ at'),
  ((at' : Int) < (↑N : Int)),
  ((0 : Nat) < 1),
  ((0 : Nat) < 1),
  ((0 : Int) ≤ (FR at'.toNat)),
  (((FR at'.toNat) : Int) < (↑m : Int)),
  ((0 : Int) ≤ (Q (FR at'.toNat).toNat)),
  (((Q (FR at'.toNat).toNat) : Int) < (↑nb : Int)),
  Con Try.prog 168 0 [] [.agg [.p (.int .i64 ((g (Q (FR at'.toNat).toNat).toNat).1)), .p (.int .i64 ((g (Q (FR at'.toNat).toNat).toNat).2.1))], .p (.int .i64 at')] [] (.p (.int .i64 w)),
  ((0 : Nat) < 1),
  ((0 : Int) ≤ (FR at'.toNat)),
  (((FR at'.toNat) : Int) < (↑m : Int)),
  ((((FR at'.toNat).toNat) : Nat) < m),
  ((false = true) → ((m : Nat) = 1)),
  (((↑N : Int) : Int) = (↑N : Int)),
  ((nb : Nat) = nb),
  (∀ i : Nat, (((i : Nat) < nb) → (([.int .i64 ((g i).1), .int .i64 ((g i).2.1)] : List PV) = [.int .i64 ((g i).1), .int .i64 ((g i).2.1)]))),
  ((N : Nat) = N),
  (∀ i : Nat, (((i : Nat) < N) → (([.int .i64 (F i)] : List PV) = [.int .i64 (F i)]))),
  ((m : Nat) = m),
  (∀ i : Nat, (((i : Nat) < m) → (([.int .i64 (T i)] : List PV) = [.int .i64 (T i)]))),
  ((m : Nat) = m),
  (∀ i : Nat, (((i : Nat) < m) → (([.int .i64 (Q i)] : List PV) = [.int .i64 (Q i)]))),
  ((N : Nat) = N),
  (∀ i : Nat, (((i : Nat) < N) → (([.int .i64 (FR i)] : List PV) = [.int .i64 (FR i)]))),
  ((a : Int) = a),
  ((u : Int) = u),
  ((0 : Nat) = 0),
  ((0 : Nat) = 0),
  ((0 : Nat) = 0),
  ((0 : Nat) = 0),
  ((w : Int) = w),
  ((2 : Nat) = 2),
  ((1 : Nat) ≤ 1),
  ((1 : Nat) ≤ 1),
  (((↑N : Int) : Int) = (↑N : Int)),
  ((nb : Nat) = nb),
  (∀ i : Nat, (((i : Nat) < nb) → (([.int .i64 ((g i).1), .int .i64 ((g i).2.1)] : List PV) = [.int .i64 ((g i).1), .int .i64 ((g i).2.1)]))),
  ((3 : Nat) = 3),
  ((1 : Nat) ≤ 1),
  ((1 : Nat) ≤ 1),
  ((N : Nat) = N),
  (∀ i : Nat, (((i : Nat) < N) → (([.int .i64 (F i)] : List PV) = [.int .i64 (F i)]))),
  ((m : Nat) = m),
  (∀ i : Nat, (((i : Nat) < m) → (([.int .i64 (T i)] : List PV) = [.int .i64 (T i)]))),
  ((m : Nat) = m),
  (∀ i : Nat, (((i : Nat) < m) → (([.int .i64 (Q i)] : List PV) = [.int .i64 (Q i)]))),
  ((3 : Nat) = 3),
  ((1 : Nat) ≤ 1),
  ((1 : Nat) ≤ 1),
  ((3 : Nat) = 3),
  ((1 : Nat) ≤ 1),
  ((1 : Nat) ≤ 1),
  ((0 : Nat) = 0),
  ((N : Nat) = N),
  ((0 : Nat) = 0),
  ((m : Nat) = m),
  ((0 : Nat) = 0),
  ((m : Nat) = m),
  ((1 : Nat) = 1),
  ((N : Nat) ≤ N),
  (∀ i : Nat, (((i : Nat) < N) → (All [] ∧ (([.p (.int .i64 (F1 i))] : List AV) = [.p (.int .i64 (F1 i))])))),
  ((1 : Nat) = 1),
  ((m : Nat) ≤ m),
  (∀ i : Nat, (((i : Nat) < m) → (All (cvtL false [(5, ⟨false, 1, m, (fun i_1 => (if (i_1 = (FR at'.toNat).toNat) then [.p (.int .i64 at')] else [.p (.int .i64 (T1 i_1))]))⟩), (0, ⟨true, 2, 1, (fun i_1 => [.p (.int .i64 (↑N : Int)), .p (.seq true 2 nb (fun i_2 => [.int .i64 ((g i_2).1), .int .i64 ((g i_2).2.1)]))])⟩), (1, ⟨true, 3, 1, (fun i_1 => [.p (.seq true 1 N (fun i_2 => [.int .i64 (F i_2)])), .p (.seq true 1 m (fun i_2 => [.int .i64 (T i_2)])), .p (.seq true 1 m (fun i_2 => [.int .i64 (Q i_2)]))])⟩), (2, ⟨true, 3, 1, (fun i_1 => [.p (.nil), .p (.nil), .p (.nil)])⟩), (3, ⟨true, 3, 1, (fun i_1 => [.ar 1 4 0 N, .ar 1 5 0 m, .ar 1 6 0 m])⟩), (4, ⟨false, 1, N, (fun i_1 => [.p (.int .i64 (F1 i_1))])⟩), (6, ⟨false, 1, m, (fun i_1 => [.p (.int .i64 (Q i_1))])⟩)] [0, 1, 2, 3, 4, 5, 6] 1 (if (i = (FR at'.toNat).toNat) then [.p (.int .i64 at')] else [.p (.int .i64 (T1 i))])).2 ∧ (((cvtL false [(5, ⟨false, 1, m, (fun i_1 => (if (i_1 = (FR at'.toNat).toNat) then [.p (.int .i64 at')] else [.p (.int .i64 (T1 i_1))]))⟩), (0, ⟨true, 2, 1, (fun i_1 => [.p (.int .i64 (↑N : Int)), .p (.seq true 2 nb (fun i_2 => [.int .i64 ((g i_2).1), .int .i64 ((g i_2).2.1)]))])⟩), (1, ⟨true, 3, 1, (fun i_1 => [.p (.seq true 1 N (fun i_2 => [.int .i64 (F i_2)])), .p (.seq true 1 m (fun i_2 => [.int .i64 (T i_2)])), .p (.seq true 1 m (fun i_2 => [.int .i64 (Q i_2)]))])⟩), (2, ⟨true, 3, 1, (fun i_1 => [.p (.nil), .p (.nil), .p (.nil)])⟩), (3, ⟨true, 3, 1, (fun i_1 => [.ar 1 4 0 N, .ar 1 5 0 m, .ar 1 6 0 m])⟩), (4, ⟨false, 1, N, (fun i_1 => [.p (.int .i64 (F1 i_1))])⟩), (6, ⟨false, 1, m, (fun i_1 => [.p (.int .i64 (Q i_1))])⟩)] [0, 1, 2, 3, 4, 5, 6] 1 (if (i = (FR at'.toNat).toNat) then [.p (.int .i64 at')] else [.p (.int .i64 (T1 i))])).1 : List AV) = [.p (.int .i64 (if i = (FR at'.toNat).toNat then at' else T1 i))])))),
  ((1 : Nat) = 1),
  ((m : Nat) ≤ m),
  (∀ i : Nat, (((i : Nat) < m) → (All [] ∧ (([.p (.int .i64 (Q i))] : List AV) = [.p (.int .i64 (Q i))]))))]) := by kernel_rfl
theorem qSe (g : Nat → T_Bar) (nb N m : Nat) (F T Q FR F1 T1 : Nat → Int) (a u at' : Int) :
    pathOb Try.prog Try.f169 0 [.reg [oT, oT, oT], .dec false, .reg [oT, oT]] [.code (cAt (bodyOf Try.f169) [1, 1, 1, 1, 1, 0, 0, 0]), .inLoop (cAt (bodyOf Try.f169) [1, 1, 1, 1, 1, 0, 0, 0]), .inBlock 0, .code (cAt (bodyOf Try.f169) [1, 1, 1, 1, 1, 1])] (SSl g nb N m F T Q FR F1 T1 a u at') [4, 5, 6] 1 (pebR N m F1 T1 Q) (pebO N m 0) =
    some [((at' != a) = false),
  ((0 : Nat) < 1),
  ((0 : Nat) < 1),
  ((true = true) → ((1 : Nat) = 1)),
  ((0 : Nat) < 1),
  ((0 : Nat) = 0),
  ((N : Nat) = N),
  ((0 : Nat) = 0),
  ((m : Nat) = m),
  ((0 : Nat) = 0),
  ((m : Nat) = m),
  ((1 : Nat) = 1),
  ((N : Nat) ≤ N),
  (∀ i : Nat, (((i : Nat) < N) → (All [] ∧ (([.p (.int .i64 (F1 i))] : List AV) = [.p (.int .i64 (F1 i))])))),
  ((1 : Nat) = 1),
  ((m : Nat) ≤ m),
  (∀ i : Nat, (((i : Nat) < m) → (All [] ∧ (([.p (.int .i64 (T1 i))] : List AV) = [.p (.int .i64 (T1 i))])))),
  ((1 : Nat) = 1),
  ((m : Nat) ≤ m),
  (∀ i : Nat, (((i : Nat) < m) → (All [] ∧ (([.p (.int .i64 (Q i))] : List AV) = [.p (.int .i64 (Q i))])))),
  (∀ i : Nat, (((i : Nat) < N) → All [])),
  (∀ i : Nat, (((i : Nat) < m) → All [])),
  (∀ i : Nat, (((i : Nat) < m) → All []))] := by kernel_rfl
theorem qFz (g : Nat → T_Bar) (nb N m : Nat) (F T Q : Nat → Int) (a b : Int) :
    pieceOb Try.prog 3 [.reg [oT, oT, oT, oT], .reg [oT, oT, oT, oT], .reg [oT], .head] [.code (bodyOf Try.f157)] (start Try.f157 (pebR N m F T Q) 3 [grG g nb N, pebO N m 0, .p (.int .i64 a), .p (.int .i64 b)]) [0, 1, 2, 3, 35, 67, 195] 1 (SF0 g nb N m F T Q a b 0) =
    some ([.code (cAt (bodyOf Try.f157) [1, 1, 0, 1, 0, 0]), .inLoop (cAt (bodyOf Try.f157) [1, 1, 0, 1, 0, 0]), .inBlock 0, .code (cAt (bodyOf Try.f157) [1, 1, 1])], [((0 : Nat) < 1),
  ((0 : Int) ≤ (↑N : Int)),
  (((↑N : Int) : Int) ≤ (↑N : Int)),
  ((((↑N : Int) * (↑8 : Int)) : Int) ≤ 281474976710656),
  (((↑N : Int) : Int) ≤ 9223372036854775807),
  (((↑N : Int) : Int) = (↑N : Int)),
  ((nb : Nat) = nb),
  (∀ i : Nat, (((i : Nat) < nb) → (([.int .i64 ((g i).1), .int .i64 ((g i).2.1)] : List PV) = [.int .i64 ((g i).1), .int .i64 ((g i).2.1)]))),
  ((0 : Nat) = 0),
  ((N : Nat) = N),
  ((0 : Nat) = 0),
  ((m : Nat) = m),
  ((0 : Nat) = 0),
  ((m : Nat) = m),
  ((a : Int) = a),
  ((b : Int) = b),
  ((0 : Nat) = 0),
  ((0 : Nat) = 0),
  ((0 : Nat) = 0),
  ((0 : Nat) = 0),
  ((N : Nat) = N),
  ((0 : Int) = (↑0 : Int)),
  ((1 : Nat) = 1),
  ((N : Nat) ≤ N),
  (∀ i : Nat, (((i : Nat) < N) → (All [] ∧ (([.p (.int .i64 (F i))] : List AV) = [.p (.int .i64 (F i))])))),
  ((1 : Nat) = 1),
  ((m : Nat) ≤ m),
  (∀ i : Nat, (((i : Nat) < m) → (All [] ∧ (([.p (.int .i64 (T i))] : List AV) = [.p (.int .i64 (T i))])))),
  ((1 : Nat) = 1),
  ((m : Nat) ≤ m),
  (∀ i : Nat, (((i : Nat) < m) → (All [] ∧ (([.p (.int .i64 (Q i))] : List AV) = [.p (.int .i64 (Q i))])))),
  ((([AV.p (PV.int IntKind.i64 (↑N : Int)), brL g nb].length) : Nat) = 2),
  ((1 : Nat) ≤ 1),
  ((1 : Nat) ≤ 1),
  (((↑N : Int) : Int) = (↑N : Int)),
  ((nb : Nat) = nb),
  (∀ i : Nat, (((i : Nat) < nb) → (([.int .i64 ((g i).1), .int .i64 ((g i).2.1)] : List PV) = [.int .i64 ((g i).1), .int .i64 ((g i).2.1)]))),
  ((([AV.ar 1 0 0 N, AV.ar 1 1 0 m, AV.ar 1 2 0 m].length) : Nat) = 3),
  ((1 : Nat) ≤ 1),
  ((1 : Nat) ≤ 1),
  ((0 : Nat) = 0),
  ((N : Nat) = N),
  ((0 : Nat) = 0),
  ((m : Nat) = m),
  ((0 : Nat) = 0),
  ((m : Nat) = m),
  ((((List.map (fun v => AV.p (absV v)) [Value.slice none 0 0, Value.slice none 0 0, Value.slice none 0 0]).length) : Nat) = 3),
  ((1 : Nat) ≤ 1),
  ((1 : Nat) ≤ 1),
  ((1 : Nat) = 1),
  ((N : Nat) ≤ N),
  (∀ i : Nat, (((i : Nat) < N) → (All [] ∧ (([.p (.int .i64 0)] : List AV) = [.p (.int .i64 (if i < 0 then -1 else 0))]))))]) := by kernel_rfl
theorem qF0 (g : Nat → T_Bar) (nb N m : Nat) (F T Q : Nat → Int) (a b : Int) (i : Nat) :
    pieceOb Try.prog 3 [.reg [oT, oT, oT, oT], .dec true, .reg [oT, oT, oT, oT], .reg [oT, oT, oT], .head] [.code (cAt (bodyOf Try.f157) [1, 1, 0, 1, 0, 0]), .inLoop (cAt (bodyOf Try.f157) [1, 1, 0, 1, 0, 0]), .inBlock 0, .code (cAt (bodyOf Try.f157) [1, 1, 1])] (SF0 g nb N m F T Q a b i) [0, 1, 2, 3, 4, 5, 6] 1 (SF0 g nb N m F T Q a b (i + 1)) =
    some ([.code (cAt (bodyOf Try.f157) [1, 1, 0, 1, 0, 0]), .inLoop (cAt (bodyOf Try.f157) [1, 1, 0, 1, 0, 0]), .inBlock 0, .code (cAt (bodyOf Try.f157) [1, 1, 1])], [((0 : Nat) < 1),
  ((decide ((↑i : Int) < (↑N : Int))) = true),
  ((0 : Int) ≤ (↑i : Int)),
  (((↑i : Int) : Int) < (↑N : Int)),
  ((i : Nat) < N),
  ((false = true) → ((N : Nat) = 1)),
  (((-9223372036854775808) : Int) ≤ ((↑i : Int) + 1)),
  ((((↑i : Int) + 1) : Int) ≤ 9223372036854775807),
  (((↑N : Int) : Int) = (↑N : Int)),
  ((nb : Nat) = nb),
  (∀ i_1 : Nat, (((i_1 : Nat) < nb) → (([.int .i64 ((g i_1).1), .int .i64 ((g i_1).2.1)] : List PV) = [.int .i64 ((g i_1).1), .int .i64 ((g i_1).2.1)]))),
  ((0 : Nat) = 0),
  ((N : Nat) = N),
  ((0 : Nat) = 0),
  ((m : Nat) = m),
  ((0 : Nat) = 0),
  ((m : Nat) = m),
  ((a : Int) = a),
  ((b : Int) = b),
  ((0 : Nat) = 0),
  ((0 : Nat) = 0),
  ((0 : Nat) = 0),
  ((0 : Nat) = 0),
  ((N : Nat) = N),
  ((((↑i : Int) + 1) : Int) = (↑(i + 1) : Int)),
  ((1 : Nat) = 1),
  ((N : Nat) ≤ N),
  (∀ i_1 : Nat, (((i_1 : Nat) < N) → (All [] ∧ (([.p (.int .i64 (F i_1))] : List AV) = [.p (.int .i64 (F i_1))])))),
  ((1 : Nat) = 1),
  ((m : Nat) ≤ m),
  (∀ i_1 : Nat, (((i_1 : Nat) < m) → (All [] ∧ (([.p (.int .i64 (T i_1))] : List AV) = [.p (.int .i64 (T i_1))])))),
  ((1 : Nat) = 1),
  ((m : Nat) ≤ m),
  (∀ i_1 : Nat, (((i_1 : Nat) < m) → (All [] ∧ (([.p (.int .i64 (Q i_1))] : List AV) = [.p (.int .i64 (Q i_1))])))),
  ((2 : Nat) = 2),
  ((1 : Nat) ≤ 1),
  ((1 : Nat) ≤ 1),
  (((↑N : Int) : Int) = (↑N : Int)),
  ((nb : Nat) = nb),
  (∀ i_1 : Nat, (((i_1 : Nat) < nb) → (([.int .i64 ((g i_1).1), .int .i64 ((g i_1).2.1)] : List PV) = [.int .i64 ((g i_1).1), .int .i64 ((g i_1).2.1)]))),
  ((3 : Nat) = 3),
  ((1 : Nat) ≤ 1),
  ((1 : Nat) ≤ 1),
  ((0 : Nat) = 0),
  ((N : Nat) = N),
  ((0 : Nat) = 0),
  ((m : Nat) = m),
  ((0 : Nat) = 0),
  ((m : Nat) = m),
  ((3 : Nat) = 3),
  ((1 : Nat) ≤ 1),
  ((1 : Nat) ≤ 1),
  ((1 : Nat) = 1),
  ((N : Nat) ≤ N),
  (∀ i_1 : Nat, (((i_1 : Nat) < N) → (All (cvtL false [(6, ⟨false, 1, N, (fun i_2 => (if (i_2 = i) then [.p (.int .i64 (-1))] else [.p (.int .i64 (if i_2 < i then -1 else 0))]))⟩), (0, ⟨false, 1, N, (fun i_2 => [.p (.int .i64 (F i_2))])⟩), (1, ⟨false, 1, m, (fun i_2 => [.p (.int .i64 (T i_2))])⟩), (2, ⟨false, 1, m, (fun i_2 => [.p (.int .i64 (Q i_2))])⟩), (3, ⟨true, 2, 1, (fun i_2 => [.p (.int .i64 (↑N : Int)), .p (.seq true 2 nb (fun i_3 => [.int .i64 ((g i_3).1), .int .i64 ((g i_3).2.1)]))])⟩), (4, ⟨true, 3, 1, (fun i_2 => [.ar 1 0 0 N, .ar 1 1 0 m, .ar 1 2 0 m])⟩), (5, ⟨true, 3, 1, (fun i_2 => [.p (.nil), .p (.nil), .p (.nil)])⟩)] [0, 1, 2, 3, 4, 5, 6] 1 (if (i_1 = i) then [.p (.int .i64 (-1))] else [.p (.int .i64 (if i_1 < i then -1 else 0))])).2 ∧ (((cvtL false [(6, ⟨false, 1, N, (fun i_2 => (if (i_2 = i) then [.p (.int .i64 (-1))] else [.p (.int .i64 (if i_2 < i then -1 else 0))]))⟩), (0, ⟨false, 1, N, (fun i_2 => [.p (.int .i64 (F i_2))])⟩), (1, ⟨false, 1, m, (fun i_2 => [.p (.int .i64 (T i_2))])⟩), (2, ⟨false, 1, m, (fun i_2 => [.p (.int .i64 (Q i_2))])⟩), (3, ⟨true, 2, 1, (fun i_2 => [.p (.int .i64 (↑N : Int)), .p (.seq true 2 nb (fun i_3 => [.int .i64 ((g i_3).1), .int .i64 ((g i_3).2.1)]))])⟩), (4, ⟨true, 3, 1, (fun i_2 => [.ar 1 0 0 N, .ar 1 1 0 m, .ar 1 2 0 m])⟩), (5, ⟨true, 3, 1, (fun i_2 => [.p (.nil), .p (.nil), .p (.nil)])⟩)] [0, 1, 2, 3, 4, 5, 6] 1 (if (i_1 = i) then [.p (.int .i64 (-1))] else [.p (.int .i64 (if i_1 < i then -1 else 0))])).1 : List AV) = [.p (.int .i64 (if i_1 < i + 1 then -1 else 0))]))))]) := by kernel_rfl
theorem qF01 (g : Nat → T_Bar) (nb N m : Nat) (F T Q : Nat → Int) (a b : Int) (i : Nat) :
    pieceOb Try.prog 3 [.reg [oT, oT, oT, oT], .dec false, .reg [oT, oT, oT], .reg [oT, oT, oT, oT], .reg [oT, oT, oT, oT], .reg [oT], .head] [.code (cAt (bodyOf Try.f157) [1, 1, 0, 1, 0, 0]), .inLoop (cAt (bodyOf Try.f157) [1, 1, 0, 1, 0, 0]), .inBlock 0, .code (cAt (bodyOf Try.f157) [1, 1, 1])] (SF0 g nb N m F T Q a b i) [0, 1, 2, 3, 4, 5, 6, 295, 167] 1 (SF1 g nb N m F T Q (fun _ => a) (fun _ => -1) (fun s => if s = a.toNat then true else false) a b 0 1) =
    some ([.code (cAt (bodyOf Try.f157) [1, 1, 1, 1, 1, 1, 0, 1, 0, 0]), .inLoop (cAt (bodyOf Try.f157) [1, 1, 1, 1, 1, 1, 0, 1, 0, 0]), .inBlock 2, .code (cAt (bodyOf Try.f157) [1, 1, 1, 1, 1, 1, 1])], [((0 : Nat) < 1),
  ((decide ((↑i : Int) < (↑N : Int))) = false),
  ((0 : Nat) < 1),
  ((0 : Int) ≤ (↑N : Int)),
  (((↑N : Int) : Int) ≤ (↑N : Int)),
  ((((↑N : Int) * (↑1 : Int)) : Int) ≤ 281474976710656),
  (((↑N : Int) : Int) ≤ 9223372036854775807),
  ((0 : Int) ≤ a),
  ((a : Int) < (↑N : Int)),
  ((a.toNat : Nat) < N),
  ((false = true) → ((N : Nat) = 1)),
  (((↑N : Int) : Int) = (↑N : Int)),
  ((nb : Nat) = nb),
  (∀ i_1 : Nat, (((i_1 : Nat) < nb) → (([.int .i64 ((g i_1).1), .int .i64 ((g i_1).2.1)] : List PV) = [.int .i64 ((g i_1).1), .int .i64 ((g i_1).2.1)]))),
  ((0 : Nat) = 0),
  ((N : Nat) = N),
  ((0 : Nat) = 0),
  ((m : Nat) = m),
  ((0 : Nat) = 0),
  ((m : Nat) = m),
  ((a : Int) = a),
  ((b : Int) = b),
  ((0 : Nat) = 0),
  ((0 : Nat) = 0),
  ((0 : Nat) = 0),
  ((0 : Nat) = 0),
  ((N : Nat) = N),
  ((0 : Nat) = 0),
  ((1 : Nat) = 1),
  ((0 : Nat) = 0),
  ((N : Nat) = N),
  ((0 : Int) = (↑0 : Int)),
  ((1 : Nat) = 1),
  ((N : Nat) ≤ N),
  (∀ i_1 : Nat, (((i_1 : Nat) < N) → (All [] ∧ (([.p (.int .i64 (F i_1))] : List AV) = [.p (.int .i64 (F i_1))])))),
  ((1 : Nat) = 1),
  ((m : Nat) ≤ m),
  (∀ i_1 : Nat, (((i_1 : Nat) < m) → (All [] ∧ (([.p (.int .i64 (T i_1))] : List AV) = [.p (.int .i64 (T i_1))])))),
  ((1 : Nat) = 1),
  ((m : Nat) ≤ m),
  (∀ i_1 : Nat, (((i_1 : Nat) < m) → (All [] ∧ (([.p (.int .i64 (Q i_1))] : List AV) = [.p (.int .i64 (Q i_1))])))),
  ((2 : Nat) = 2),
  ((1 : Nat) ≤ 1),
  ((1 : Nat) ≤ 1),
  (((↑N : Int) : Int) = (↑N : Int)),
  ((nb : Nat) = nb),
  (∀ i_1 : Nat, (((i_1 : Nat) < nb) → (([.int .i64 ((g i_1).1), .int .i64 ((g i_1).2.1)] : List PV) = [.int .i64 ((g i_1).1), .int .i64 ((g i_1).2.1)]))),
  ((3 : Nat) = 3),
  ((1 : Nat) ≤ 1),
  ((1 : Nat) ≤ 1),
  ((0 : Nat) = 0),
  ((N : Nat) = N),
  ((0 : Nat) = 0),
  ((m : Nat) = m),
  ((0 : Nat) = 0),
  ((m : Nat) = m),
  ((3 : Nat) = 3),
  ((1 : Nat) ≤ 1),
  ((1 : Nat) ≤ 1),
  ((1 : Nat) = 1),
  ((N : Nat) ≤ N),
  (∀ i_1 : Nat, (((i_1 : Nat) < N) → (All [] ∧ (([.p (.int .i64 (if i_1 < i then -1 else 0))] : List AV) = [.p (.int .i64 (-1))])))),
  ((1 : Nat) = 1),
  ((N : Nat) ≤ N),
  (∀ i_1 : Nat, (((i_1 : Nat) < N) → (All (cvtL false [(295, ⟨false, 1, N, (fun i_2 => (if (i_2 = a.toNat) then [.p (.bool true)] else [.p (.bool false)]))⟩), (167, ⟨false, 1, 1, (fun i_2 => [.p (.int .i64 a)])⟩), (0, ⟨false, 1, N, (fun i_2 => [.p (.int .i64 (F i_2))])⟩), (1, ⟨false, 1, m, (fun i_2 => [.p (.int .i64 (T i_2))])⟩), (2, ⟨false, 1, m, (fun i_2 => [.p (.int .i64 (Q i_2))])⟩), (3, ⟨true, 2, 1, (fun i_2 => [.p (.int .i64 (↑N : Int)), .p (.seq true 2 nb (fun i_3 => [.int .i64 ((g i_3).1), .int .i64 ((g i_3).2.1)]))])⟩), (4, ⟨true, 3, 1, (fun i_2 => [.ar 1 0 0 N, .ar 1 1 0 m, .ar 1 2 0 m])⟩), (5, ⟨true, 3, 1, (fun i_2 => [.p (.nil), .p (.nil), .p (.nil)])⟩), (6, ⟨false, 1, N, (fun i_2 => [.p (.int .i64 (if i_2 < i then -1 else 0))])⟩)] [0, 1, 2, 3, 4, 5, 6, 295, 167] 1 (if (i_1 = a.toNat) then [.p (.bool true)] else [.p (.bool false)])).2 ∧ (((cvtL false [(295, ⟨false, 1, N, (fun i_2 => (if (i_2 = a.toNat) then [.p (.bool true)] else [.p (.bool false)]))⟩), (167, ⟨false, 1, 1, (fun i_2 => [.p (.int .i64 a)])⟩), (0, ⟨false, 1, N, (fun i_2 => [.p (.int .i64 (F i_2))])⟩), (1, ⟨false, 1, m, (fun i_2 => [.p (.int .i64 (T i_2))])⟩), (2, ⟨false, 1, m, (fun i_2 => [.p (.int .i64 (Q i_2))])⟩), (3, ⟨true, 2, 1, (fun i_2 => [.p (.int .i64 (↑N : Int)), .p (.seq true 2 nb (fun i_3 => [.int .i64 ((g i_3).1), .int .i64 ((g i_3).2.1)]))])⟩), (4, ⟨true, 3, 1, (fun i_2 => [.ar 1 0 0 N, .ar 1 1 0 m, .ar 1 2 0 m])⟩), (5, ⟨true, 3, 1, (fun i_2 => [.p (.nil), .p (.nil), .p (.nil)])⟩), (6, ⟨false, 1, N, (fun i_2 => [.p (.int .i64 (if i_2 < i then -1 else 0))])⟩)] [0, 1, 2, 3, 4, 5, 6, 295, 167] 1 (if (i_1 = a.toNat) then [.p (.bool true)] else [.p (.bool false)])).1 : List AV) = [.p (.bool (if i_1 = a.toNat then true else false))])))),
  ((1 : Nat) = 1),
  ((1 : Nat) ≤ 1),
  (∀ i_1 : Nat, (((i_1 : Nat) < 1) → (All [] ∧ (([.p (.int .i64 a)] : List AV) = [.p (.int .i64 a)]))))]) := by kernel_rfl
theorem qF1 (g : Nat → T_Bar) (nb N m : Nat) (F T Q td FR : Nat → Int) (SN : Nat → Bool) (a b : Int) (i tn : Nat) :
    pieceOb Try.prog 3 [.reg [oT, oT, oT, oT], .dec true, .reg [oT, oT, oT, oT, oT], .reg [oT], .head] [.code (cAt (bodyOf Try.f157) [1, 1, 1, 1, 1, 1, 0, 1, 0, 0]), .inLoop (cAt (bodyOf Try.f157) [1, 1, 1, 1, 1, 1, 0, 1, 0, 0]), .inBlock 2, .code (cAt (bodyOf Try.f157) [1, 1, 1, 1, 1, 1, 1])] (SF1 g nb N m F T Q td FR SN a b i tn) [0, 1, 2, 3, 4, 5, 6, 7, 8] 1 (SF2 g nb N m F T Q td FR SN a b (td i) i 0 tn) =
    some ([.code (cAt (bodyOf Try.f157) [1, 1, 1, 1, 1, 1, 0, 1, 0, 0, 1, 0, 0, 1, 1, 0, 0]), .inLoop (cAt (bodyOf Try.f157) [1, 1, 1, 1, 1, 1, 0, 1, 0, 0, 1, 0, 0, 1, 1, 0, 0]), .inBlock 4, .inBlock 3, .code (cAt (bodyOf Try.f157) [1, 1, 1, 1, 1, 1, 0, 1, 0, 0, 1, 1]), .inLoop (cAt (bodyOf Try.f157) [1, 1, 1, 1, 1, 1, 0, 1, 0, 0]), .inBlock 2, .code (cAt (bodyOf Try.f157) [1, 1, 1, 1, 1, 1, 1])], [((decide ((↑i : Int) < (↑tn : Int))) = true),
  ((0 : Int) ≤ (↑i : Int)),
  (((↑i : Int) : Int) < (↑tn : Int)),
  ((i : Nat) < tn),
  (((↑N : Int) : Int) = (↑N : Int)),
  ((nb : Nat) = nb),
  (∀ i_1 : Nat, (((i_1 : Nat) < nb) → (([.int .i64 ((g i_1).1), .int .i64 ((g i_1).2.1)] : List PV) = [.int .i64 ((g i_1).1), .int .i64 ((g i_1).2.1)]))),
  ((0 : Nat) = 0),
  ((N : Nat) = N),
  ((0 : Nat) = 0),
  ((m : Nat) = m),
  ((0 : Nat) = 0),
  ((m : Nat) = m),
  ((a : Int) = a),
  ((b : Int) = b),
  ((0 : Nat) = 0),
  ((0 : Nat) = 0),
  ((0 : Nat) = 0),
  ((0 : Nat) = 0),
  ((N : Nat) = N),
  ((0 : Nat) = 0),
  ((tn : Nat) = tn),
  ((0 : Nat) = 0),
  ((N : Nat) = N),
  (((↑i : Int) : Int) = (↑i : Int)),
  (((td i) : Int) = (td i)),
  ((0 : Int) = (↑0 : Int)),
  ((1 : Nat) = 1),
  ((N : Nat) ≤ N),
  (∀ i_1 : Nat, (((i_1 : Nat) < N) → (All [] ∧ (([.p (.int .i64 (F i_1))] : List AV) = [.p (.int .i64 (F i_1))])))),
  ((1 : Nat) = 1),
  ((m : Nat) ≤ m),
  (∀ i_1 : Nat, (((i_1 : Nat) < m) → (All [] ∧ (([.p (.int .i64 (T i_1))] : List AV) = [.p (.int .i64 (T i_1))])))),
  ((1 : Nat) = 1),
  ((m : Nat) ≤ m),
  (∀ i_1 : Nat, (((i_1 : Nat) < m) → (All [] ∧ (([.p (.int .i64 (Q i_1))] : List AV) = [.p (.int .i64 (Q i_1))])))),
  ((2 : Nat) = 2),
  ((1 : Nat) ≤ 1),
  ((1 : Nat) ≤ 1),
  (((↑N : Int) : Int) = (↑N : Int)),
  ((nb : Nat) = nb),
  (∀ i_1 : Nat, (((i_1 : Nat) < nb) → (([.int .i64 ((g i_1).1), .int .i64 ((g i_1).2.1)] : List PV) = [.int .i64 ((g i_1).1), .int .i64 ((g i_1).2.1)]))),
  ((3 : Nat) = 3),
  ((1 : Nat) ≤ 1),
  ((1 : Nat) ≤ 1),
  ((0 : Nat) = 0),
  ((N : Nat) = N),
  ((0 : Nat) = 0),
  ((m : Nat) = m),
  ((0 : Nat) = 0),
  ((m : Nat) = m),
  ((3 : Nat) = 3),
  ((1 : Nat) ≤ 1),
  ((1 : Nat) ≤ 1),
  ((1 : Nat) = 1),
  ((N : Nat) ≤ N),
  (∀ i_1 : Nat, (((i_1 : Nat) < N) → (All [] ∧ (([.p (.int .i64 (FR i_1))] : List AV) = [.p (.int .i64 (FR i_1))])))),
  ((1 : Nat) = 1),
  ((N : Nat) ≤ N),
  (∀ i_1 : Nat, (((i_1 : Nat) < N) → (All [] ∧ (([.p (.bool (SN i_1))] : List AV) = [.p (.bool (SN i_1))])))),
  ((1 : Nat) = 1),
  ((tn : Nat) ≤ tn),
  (∀ i_1 : Nat, (((i_1 : Nat) < tn) → (All [] ∧ (([.p (.int .i64 (td i_1))] : List AV) = [.p (.int .i64 (td i_1))]))))]) := by kernel_rfl
theorem qF1e (g : Nat → T_Bar) (nb N m : Nat) (F T Q td FR : Nat → Int) (SN : Nat → Bool) (a b : Int) (i tn : Nat) :
    pathOb Try.prog Try.f157 3 [.reg [oT, oT, oT, oT], .dec false, .reg [oT, oT, oT]] [.code (cAt (bodyOf Try.f157) [1, 1, 1, 1, 1, 1, 0, 1, 0, 0]), .inLoop (cAt (bodyOf Try.f157) [1, 1, 1, 1, 1, 1, 0, 1, 0, 0]), .inBlock 2, .code (cAt (bodyOf Try.f157) [1, 1, 1, 1, 1, 1, 1])] (SF1 g nb N m F T Q td FR SN a b i tn) [0, 1, 2] 1 (pebR N m F T Q) (.tup [pebO N m 0, .p (.bool false)]) =
    some [((decide ((↑i : Int) < (↑tn : Int))) = false),
  ((0 : Nat) < 1),
  ((0 : Nat) < 1),
  ((true = true) → ((1 : Nat) = 1)),
  ((0 : Nat) < 1),
  ((0 : Nat) = 0),
  ((N : Nat) = N),
  ((0 : Nat) = 0),
  ((m : Nat) = m),
  ((0 : Nat) = 0),
  ((m : Nat) = m),
  (false = false),
  ((1 : Nat) = 1),
  ((N : Nat) ≤ N),
  (∀ i_1 : Nat, (((i_1 : Nat) < N) → (All [] ∧ (([.p (.int .i64 (F i_1))] : List AV) = [.p (.int .i64 (F i_1))])))),
  ((1 : Nat) = 1),
  ((m : Nat) ≤ m),
  (∀ i_1 : Nat, (((i_1 : Nat) < m) → (All [] ∧ (([.p (.int .i64 (T i_1))] : List AV) = [.p (.int .i64 (T i_1))])))),
  ((1 : Nat) = 1),
  ((m : Nat) ≤ m),
  (∀ i_1 : Nat, (((i_1 : Nat) < m) → (All [] ∧ (([.p (.int .i64 (Q i_1))] : List AV) = [.p (.int .i64 (Q i_1))])))),
  (∀ i_1 : Nat, (((i_1 : Nat) < N) → All [])),
  (∀ i_1 : Nat, (((i_1 : Nat) < m) → All [])),
  (∀ i_1 : Nat, (((i_1 : Nat) < m) → All []))] := by kernel_rfl
theorem qF2e (g : Nat → T_Bar) (nb N m : Nat) (F T Q td FR : Nat → Int) (SN : Nat → Bool) (a b v : Int) (i j tn : Nat) :
    pieceOb Try.prog 3 [.reg [oT, oT, oT, oT, oT], .dec false, .reg [oT, oT, oT], .head] [.code (cAt (bodyOf Try.f157) [1, 1, 1, 1, 1, 1, 0, 1, 0, 0, 1, 0, 0, 1, 1, 0, 0]), .inLoop (cAt (bodyOf Try.f157) [1, 1, 1, 1, 1, 1, 0, 1, 0, 0, 1, 0, 0, 1, 1, 0, 0]), .inBlock 4, .inBlock 3, .code (cAt (bodyOf Try.f157) [1, 1, 1, 1, 1, 1, 0, 1, 0, 0, 1, 1]), .inLoop (cAt (bodyOf Try.f157) [1, 1, 1, 1, 1, 1, 0, 1, 0, 0]), .inBlock 2, .code (cAt (bodyOf Try.f157) [1, 1, 1, 1, 1, 1, 1])] (SF2 g nb N m F T Q td FR SN a b v i j tn) [0, 1, 2, 3, 4, 5, 6, 7, 8] 1 (SF1 g nb N m F T Q td FR SN a b (i + 1) tn) =
    some ([.code (cAt (bodyOf Try.f157) [1, 1, 1, 1, 1, 1, 0, 1, 0, 0]), .inLoop (cAt (bodyOf Try.f157) [1, 1, 1, 1, 1, 1, 0, 1, 0, 0]), .inBlock 2, .code (cAt (bodyOf Try.f157) [1, 1, 1, 1, 1, 1, 1])], [((0 : Nat) < 1),
  ((decide ((↑j : Int) < (↑m : Int))) = false),
  (((-9223372036854775808) : Int) ≤ ((↑i : Int) + 1)),
  ((((↑i : Int) + 1) : Int) ≤ 9223372036854775807),
  (((↑N : Int) : Int) = (↑N : Int)),
  ((nb : Nat) = nb),
  (∀ i_1 : Nat, (((i_1 : Nat) < nb) → (([.int .i64 ((g i_1).1), .int .i64 ((g i_1).2.1)] : List PV) = [.int .i64 ((g i_1).1), .int .i64 ((g i_1).2.1)]))),
  ((0 : Nat) = 0),
  ((N : Nat) = N),
  ((0 : Nat) = 0),
  ((m : Nat) = m),
  ((0 : Nat) = 0),
  ((m : Nat) = m),
  ((a : Int) = a),
  ((b : Int) = b),
  ((0 : Nat) = 0),
  ((0 : Nat) = 0),
  ((0 : Nat) = 0),
  ((0 : Nat) = 0),
  ((N : Nat) = N),
  ((0 : Nat) = 0),
  ((tn : Nat) = tn),
  ((0 : Nat) = 0),
  ((N : Nat) = N),
  ((((↑i : Int) + 1) : Int) = (↑(i + 1) : Int)),
  ((1 : Nat) = 1),
  ((N : Nat) ≤ N),
  (∀ i_1 : Nat, (((i_1 : Nat) < N) → (All [] ∧ (([.p (.int .i64 (F i_1))] : List AV) = [.p (.int .i64 (F i_1))])))),
  ((1 : Nat) = 1),
  ((m : Nat) ≤ m),
  (∀ i_1 : Nat, (((i_1 : Nat) < m) → (All [] ∧ (([.p (.int .i64 (T i_1))] : List AV) = [.p (.int .i64 (T i_1))])))),
  ((1 : Nat) = 1),
  ((m : Nat) ≤ m),
  (∀ i_1 : Nat, (((i_1 : Nat) < m) → (All [] ∧ (([.p (.int .i64 (Q i_1))] : List AV) = [.p (.int .i64 (Q i_1))])))),
  ((2 : Nat) = 2),
  ((1 : Nat) ≤ 1),
  ((1 : Nat) ≤ 1),
  (((↑N : Int) : Int) = (↑N : Int)),
  ((nb : Nat) = nb),
  (∀ i_1 : Nat, (((i_1 : Nat) < nb) → (([.int .i64 ((g i_1).1), .int .i64 ((g i_1).2.1)] : List PV) = [.int .i64 ((g i_1).1), .int .i64 ((g i_1).2.1)]))),
  ((3 : Nat) = 3),
  ((1 : Nat) ≤ 1),
  ((1 : Nat) ≤ 1),
  ((0 : Nat) = 0),
  ((N : Nat) = N),
  ((0 : Nat) = 0),
  ((m : Nat) = m),
  ((0 : Nat) = 0),
  ((m : Nat) = m),
  ((3 : Nat) = 3),
  ((1 : Nat) ≤ 1),
  ((1 : Nat) ≤ 1),
  ((1 : Nat) = 1),
  ((N : Nat) ≤ N),
  (∀ i_1 : Nat, (((i_1 : Nat) < N) → (All [] ∧ (([.p (.int .i64 (FR i_1))] : List AV) = [.p (.int .i64 (FR i_1))])))),
  ((1 : Nat) = 1),
  ((N : Nat) ≤ N),
  (∀ i_1 : Nat, (((i_1 : Nat) < N) → (All [] ∧ (([.p (.bool (SN i_1))] : List AV) = [.p (.bool (SN i_1))])))),
  ((1 : Nat) = 1),
  ((tn : Nat) ≤ tn),
  (∀ i_1 : Nat, (((i_1 : Nat) < tn) → (All [] ∧ (([.p (.int .i64 (td i_1))] : List AV) = [.p (.int .i64 (td i_1))]))))]) := by kernel_rfl
theorem qF2a (g : Nat → T_Bar) (nb N m : Nat) (F T Q td FR : Nat → Int) (SN : Nat → Bool) (a b v : Int) (i j tn : Nat) :
    pieceOb Try.prog 3 [.reg [oT, oT, oT, oT, oT], .dec true, .reg [oT, oT, oT, oT, oT, oT, oT], .dec true, .reg [oT, oT, oT], .head] [.code (cAt (bodyOf Try.f157) [1, 1, 1, 1, 1, 1, 0, 1, 0, 0, 1, 0, 0, 1, 1, 0, 0]), .inLoop (cAt (bodyOf Try.f157) [1, 1, 1, 1, 1, 1, 0, 1, 0, 0, 1, 0, 0, 1, 1, 0, 0]), .inBlock 4, .inBlock 3, .code (cAt (bodyOf Try.f157) [1, 1, 1, 1, 1, 1, 0, 1, 0, 0, 1, 1]), .inLoop (cAt (bodyOf Try.f157) [1, 1, 1, 1, 1, 1, 0, 1, 0, 0]), .inBlock 2, .code (cAt (bodyOf Try.f157) [1, 1, 1, 1, 1, 1, 1])] (SF2 g nb N m F T Q td FR SN a b v i j tn) [0, 1, 2, 3, 4, 5, 6, 7, 8] 1 (SF2 g nb N m F T Q td FR SN a b v i (j + 1) tn) =
    some ([.code (cAt (bodyOf Try.f157) [1, 1, 1, 1, 1, 1, 0, 1, 0, 0, 1, 0, 0, 1, 1, 0, 0]), .inLoop (cAt (bodyOf Try.f157) [1, 1, 1, 1, 1, 1, 0, 1, 0, 0, 1, 0, 0, 1, 1, 0, 0]), .inBlock 4, .inBlock 3, .code (cAt (bodyOf Try.f157) [1, 1, 1, 1, 1, 1, 0, 1, 0, 0, 1, 1]), .inLoop (cAt (bodyOf Try.f157) [1, 1, 1, 1, 1, 1, 0, 1, 0, 0]), .inBlock 2, .code (cAt (bodyOf Try.f157) [1, 1, 1, 1, 1, 1, 1])], [((0 : Nat) < 1),
  ((decide ((↑j : Int) < (↑m : Int))) = true),
  ((0 : Nat) < 1),
  ((0 : Int) ≤ (↑j : Int)),
  (((↑j : Int) : Int) < (↑m : Int)),
  ((j : Nat) < m),
  ((T j != v) = true),
  (((-9223372036854775808) : Int) ≤ ((↑j : Int) + 1)),
  ((((↑j : Int) + 1) : Int) ≤ 9223372036854775807),
  (((↑N : Int) : Int) = (↑N : Int)),
  ((nb : Nat) = nb),
  (∀ i_1 : Nat, (((i_1 : Nat) < nb) → (([.int .i64 ((g i_1).1), .int .i64 ((g i_1).2.1)] : List PV) = [.int .i64 ((g i_1).1), .int .i64 ((g i_1).2.1)]))),
  ((0 : Nat) = 0),
  ((N : Nat) = N),
  ((0 : Nat) = 0),
  ((m : Nat) = m),
  ((0 : Nat) = 0),
  ((m : Nat) = m),
  ((a : Int) = a),
  ((b : Int) = b),
  ((0 : Nat) = 0),
  ((0 : Nat) = 0),
  ((0 : Nat) = 0),
  ((0 : Nat) = 0),
  ((N : Nat) = N),
  ((0 : Nat) = 0),
  ((tn : Nat) = tn),
  ((0 : Nat) = 0),
  ((N : Nat) = N),
  (((↑i : Int) : Int) = (↑i : Int)),
  ((v : Int) = v),
  ((((↑j : Int) + 1) : Int) = (↑(j + 1) : Int)),
  ((1 : Nat) = 1),
  ((N : Nat) ≤ N),
  (∀ i_1 : Nat, (((i_1 : Nat) < N) → (All [] ∧ (([.p (.int .i64 (F i_1))] : List AV) = [.p (.int .i64 (F i_1))])))),
  ((1 : Nat) = 1),
  ((m : Nat) ≤ m),
  (∀ i_1 : Nat, (((i_1 : Nat) < m) → (All [] ∧ (([.p (.int .i64 (T i_1))] : List AV) = [.p (.int .i64 (T i_1))])))),
  ((1 : Nat) = 1),
  ((m : Nat) ≤ m),
  (∀ i_1 : Nat, (((i_1 : Nat) < m) → (All [] ∧ (([.p (.int .i64 (Q i_1))] : List AV) = [.p (.int .i64 (Q i_1))])))),
  ((2 : Nat) = 2),
  ((1 : Nat) ≤ 1),
  ((1 : Nat) ≤ 1),
  (((↑N : Int) : Int) = (↑N : Int)),
  ((nb : Nat) = nb),
  (∀ i_1 : Nat, (((i_1 : Nat) < nb) → (([.int .i64 ((g i_1).1), .int .i64 ((g i_1).2.1)] : List PV) = [.int .i64 ((g i_1).1), .int .i64 ((g i_1).2.1)]))),
  ((3 : Nat) = 3),
  ((1 : Nat) ≤ 1),
  ((1 : Nat) ≤ 1),
  ((0 : Nat) = 0),
  ((N : Nat) = N),
  ((0 : Nat) = 0),
  ((m : Nat) = m),
  ((0 : Nat) = 0),
  ((m : Nat) = m),
  ((3 : Nat) = 3),
  ((1 : Nat) ≤ 1),
  ((1 : Nat) ≤ 1),
  ((1 : Nat) = 1),
  ((N : Nat) ≤ N),
  (∀ i_1 : Nat, (((i_1 : Nat) < N) → (All [] ∧ (([.p (.int .i64 (FR i_1))] : List AV) = [.p (.int .i64 (FR i_1))])))),
  ((1 : Nat) = 1),
  ((N : Nat) ≤ N),
  (∀ i_1 : Nat, (((i_1 : Nat) < N) → (All [] ∧ (([.p (.bool (SN i_1))] : List AV) = [.p (.bool (SN i_1))])))),
  ((1 : Nat) = 1),
  ((tn : Nat) ≤ tn),
  (∀ i_1 : Nat, (((i_1 : Nat) < tn) → (All [] ∧ (([.p (.int .i64 (td i_1))] : List AV) = [.p (.int .i64 (td i_1))]))))]) := by kernel_rfl
theorem qF2b (g : Nat → T_Bar) (nb N m : Nat) (F T Q td FR : Nat → Int) (SN : Nat → Bool) (a b v u : Int) (i j tn : Nat) :
    pieceOb Try.prog 3 [.reg [oT, oT, oT, oT, oT], .dec true, .reg [oT, oT, oT, oT, oT, oT, oT], .dec false, .reg [oT, oT, oT, oT, oT, oT, oT, oT, oT, oT, ⟨true, (some ⟨[], [], 1, [], .p (.int .i64 u)⟩), none⟩, oT], .reg [oT, oT, oT, oT], .dec true, .reg [oT, oT, oT], .head] [.code (cAt (bodyOf Try.f157) [1, 1, 1, 1, 1, 1, 0, 1, 0, 0, 1, 0, 0, 1, 1, 0, 0]), .inLoop (cAt (bodyOf Try.f157) [1, 1, 1, 1, 1, 1, 0, 1, 0, 0, 1, 0, 0, 1, 1, 0, 0]), .inBlock 4, .inBlock 3, .code (cAt (bodyOf Try.f157) [1, 1, 1, 1, 1, 1, 0, 1, 0, 0, 1, 1]), .inLoop (cAt (bodyOf Try.f157) [1, 1, 1, 1, 1, 1, 0, 1, 0, 0]), .inBlock 2, .code (cAt (bodyOf Try.f157) [1, 1, 1, 1, 1, 1, 1])] (SF2 g nb N m F T Q td FR SN a b v i j tn) [0, 1, 2, 3, 4, 5, 6, 7, 8] 1 (SF2 g nb N m F T Q td FR SN a b v i (j + 1) tn) =
    some ([.code (cAt (bodyOf Try.f157) [1, 1, 1, 1, 1, 1, 0, 1, 0, 0, 1, 0, 0, 1, 1, 0, 0]), .inLoop (cAt (bodyOf Try.f157) [1, 1, 1, 1, 1, 1, 0, 1, 0, 0, 1, 0, 0, 1, 1, 0, 0]), .inBlock 4, .inBlock 3, .code (cAt (bodyOf Try.f157) [1, 1, 1, 1, 1, 1, 0, 1, 0, 0, 1, 1]), .inLoop (cAt (bodyOf Try.f157) [1, 1, 1, 1, 1, 1, 0, 1, 0, 0]), .inBlock 2, .code (cAt (bodyOf Try.f157) [1, 1, 1, 1, 1, 1, 1])], [((0 : Nat) < 1),
  ((decide ((↑j : Int) < (↑m : Int))) = true),
  ((0 : Nat) < 1),
  ((0 : Int) ≤ (↑j : Int)),
  (((↑j : Int) : Int) < (↑m : Int)),
  ((j : Nat) < m),
  ((T j != v) = false),
  ((0 : Nat) < 1),
  ((0 : Nat) < 1),
  ((0 : Int) ≤ (↑j : Int)),
  (((↑j : Int) : Int) < (↑m : Int)),
  ((j : Nat) < m),
  ((0 : Int) ≤ (Q j)),
  (((Q j) : Int) < (↑nb : Int)),
  Con Try.prog 168 0 [] [.agg [.p (.int .i64 ((g (Q j).toNat).1)), .p (.int .i64 ((g (Q j).toNat).2.1))], .p (.int .i64 v)] [] (.p (.int .i64 u)),
  ((0 : Int) ≤ u),
  ((u : Int) < (↑N : Int)),
  ((u.toNat : Nat) < N),
  ((SN u.toNat) = true),
  (((-9223372036854775808) : Int) ≤ ((↑j : Int) + 1)),
  ((((↑j : Int) + 1) : Int) ≤ 9223372036854775807),
  (((↑N : Int) : Int) = (↑N : Int)),
  ((nb : Nat) = nb),
  (∀ i_1 : Nat, (((i_1 : Nat) < nb) → (([.int .i64 ((g i_1).1), .int .i64 ((g i_1).2.1)] : List PV) = [.int .i64 ((g i_1).1), .int .i64 ((g i_1).2.1)]))),
  ((0 : Nat) = 0),
  ((N : Nat) = N),
  ((0 : Nat) = 0),
  ((m : Nat) = m),
  ((0 : Nat) = 0),
  ((m : Nat) = m),
  ((a : Int) = a),
  ((b : Int) = b),
  ((0 : Nat) = 0),
  ((0 : Nat) = 0),
  ((0 : Nat) = 0),
  ((0 : Nat) = 0),
  ((N : Nat) = N),
  ((0 : Nat) = 0),
  ((tn : Nat) = tn),
  ((0 : Nat) = 0),
  ((N : Nat) = N),
  (((↑i : Int) : Int) = (↑i : Int)),
  ((v : Int) = v),
  ((((↑j : Int) + 1) : Int) = (↑(j + 1) : Int)),
  ((1 : Nat) = 1),
  ((N : Nat) ≤ N),
  (∀ i_1 : Nat, (((i_1 : Nat) < N) → (All [] ∧ (([.p (.int .i64 (F i_1))] : List AV) = [.p (.int .i64 (F i_1))])))),
  ((1 : Nat) = 1),
  ((m : Nat) ≤ m),
  (∀ i_1 : Nat, (((i_1 : Nat) < m) → (All [] ∧ (([.p (.int .i64 (T i_1))] : List AV) = [.p (.int .i64 (T i_1))])))),
  ((1 : Nat) = 1),
  ((m : Nat) ≤ m),
  (∀ i_1 : Nat, (((i_1 : Nat) < m) → (All [] ∧ (([.p (.int .i64 (Q i_1))] : List AV) = [.p (.int .i64 (Q i_1))])))),
  ((2 : Nat) = 2),
  ((1 : Nat) ≤ 1),
  ((1 : Nat) ≤ 1),
  (((↑N : Int) : Int) = (↑N : Int)),
  ((nb : Nat) = nb),
  (∀ i_1 : Nat, (((i_1 : Nat) < nb) → (([.int .i64 ((g i_1).1), .int .i64 ((g i_1).2.1)] : List PV) = [.int .i64 ((g i_1).1), .int .i64 ((g i_1).2.1)]))),
  ((3 : Nat) = 3),
  ((1 : Nat) ≤ 1),
  ((1 : Nat) ≤ 1),
  ((0 : Nat) = 0),
  ((N : Nat) = N),
  ((0 : Nat) = 0),
  ((m : Nat) = m),
  ((0 : Nat) = 0),
  ((m : Nat) = m),
  ((3 : Nat) = 3),
  ((1 : Nat) ≤ 1),
  ((1 : Nat) ≤ 1),
  ((1 : Nat) = 1),
  ((N : Nat) ≤ N),
  (∀ i_1 : Nat, (((i_1 : Nat) < N) → (All [] ∧ (([.p (.int .i64 (FR i_1))] : List AV) = [.p (.int .i64 (FR i_1))])))),
  ((1 : Nat) = 1),
  ((N : Nat) ≤ N),
  (∀ i_1 : Nat, (((i_1 : Nat) < N) → (All [] ∧ (([.p (.bool (SN i_1))] : List AV) = [.p (.bool (SN i_1))])))),
  ((1 : Nat) = 1),
  ((tn : Nat) ≤ tn),
  (∀ i_1 : Nat, (((i_1 : Nat) < tn) → (All [] ∧ (([.p (.int .i64 (td i_1))] : List AV) = [.p (.int .i64 (td i_1))]))))]) := by kernel_rfl
theorem qF2c (g : Nat → T_Bar) (nb N m : Nat) (F T Q td FR : Nat → Int) (SN : Nat → Bool) (a b v u : Int) (i j tn : Nat) :
    pieceOb Try.prog 3 [.reg [oT, oT, oT, oT, oT], .dec true, .reg [oT, oT, oT, oT, oT, oT, oT], .dec false, .reg [oT, oT, oT, oT, oT, oT, oT, oT, oT, oT, ⟨true, (some ⟨[], [], 1, [], .p (.int .i64 u)⟩), none⟩, oT], .reg [oT, oT, oT, oT], .dec false, .reg [oT, oT, oT, oT], .reg [oT, oT, oT, oT, oT], .reg [oT, oT, oT, oT, oT, oT, oT, oT, oT, oT, oT], .dec false, .reg [oT, oT, oT, oT, oT], .reg [oT, oT, oT], .head] [.code (cAt (bodyOf Try.f157) [1, 1, 1, 1, 1, 1, 0, 1, 0, 0, 1, 0, 0, 1, 1, 0, 0]), .inLoop (cAt (bodyOf Try.f157) [1, 1, 1, 1, 1, 1, 0, 1, 0, 0, 1, 0, 0, 1, 1, 0, 0]), .inBlock 4, .inBlock 3, .code (cAt (bodyOf Try.f157) [1, 1, 1, 1, 1, 1, 0, 1, 0, 0, 1, 1]), .inLoop (cAt (bodyOf Try.f157) [1, 1, 1, 1, 1, 1, 0, 1, 0, 0]), .inBlock 2, .code (cAt (bodyOf Try.f157) [1, 1, 1, 1, 1, 1, 1])] (SF2 g nb N m F T Q td FR SN a b v i j tn) [0, 1, 2, 3, 4, 5, 6, 7, 1641] 1 (SF2 g nb N m F T Q (fun s => if s < tn then td s else u) (fun s => if s = u.toNat then j else FR s) (fun s => if s = u.toNat then true else SN s) a b v i (j + 1) (tn + 1)) =
    some ([.code (cAt (bodyOf Try.f157) [1, 1, 1, 1, 1, 1, 0, 1, 0, 0, 1, 0, 0, 1, 1, 0, 0]), .inLoop (cAt (bodyOf Try.f157) [1, 1, 1, 1, 1, 1, 0, 1, 0, 0, 1, 0, 0, 1, 1, 0, 0]), .inBlock 4, .inBlock 3, .code (cAt (bodyOf Try.f157) [1, 1, 1, 1, 1, 1, 0, 1, 0, 0, 1, 1]), .inLoop (cAt (bodyOf Try.f157) [1, 1, 1, 1, 1, 1, 0, 1, 0, 0]), .inBlock 2, .code (cAt (bodyOf Try.f157) [1, 1, 1, 1, 1, 1, 1])], [((0 : Nat) < 1),
  ((decide ((↑j : Int) < (↑m : Int))) = true),
  ((0 : Nat) < 1),
  ((0 : Int) ≤ (↑j : Int)),
  (((↑j : Int) : Int) < (↑m : Int)),
  ((j : Nat) < m),
  ((T j != v) = false),
  ((0 : Nat) < 1),
  ((0 : Nat) < 1),
  ((0 : Int) ≤ (↑j : Int)),
  (((↑j : Int) : Int) < (↑m : Int)),
  ((j : Nat) < m),
  ((0 : Int) ≤ (Q j)),
  (((Q j) : Int) < (↑nb : Int)),
  Con Try.prog 168 0 [] [.agg [.p (.int .i64 ((g (Q j).toNat).1)), .p (.int .i64 ((g (Q j).toNat).2.1))], .p (.int .i64 v)] [] (.p (.int .i64 u)),
  ((0 : Int) ≤ u),
  ((u : Int) < (↑N : Int)),
  ((u.toNat : Nat) < N),
  ((SN u.toNat) = false),
  ((0 : Int) ≤ u),
  ((u : Int) < (↑N : Int)),
  ((u.toNat : Nat) < N),
  ((false = true) → ((N : Nat) = 1)),
  ((0 : Int) ≤ u),
  ((u : Int) < (↑N : Int)),
  ((u.toNat : Nat) < N),
  ((false = true) → ((N : Nat) = 1)),
  (((u != b) = true) → ((u != b) = true)),
  (((u != b) = true) → ((0 : Nat) < 1)),
  (((u != b) = true) → ((u != b) = true)),
  (((u != b) = true) → ((u != b) = true)),
  (((u != b) = true) → ((0 : Int) ≤ u)),
  (((u != b) = true) → ((u : Int) < (↑N : Int))),
  (((u != b) = true) → ((u != b) = true)),
  (((u != b) = true) → ((u.toNat : Nat) < N)),
  (((u != b) = true) → ((u != b) = true)),
  (((u != b) = true) → ((u != b) = true)),
  ((bif u != b then decide (F (u.toNat + 0) > 0) else false) = false),
  ((1 : Nat) ≤ 1),
  ((tn : Nat) ≤ tn),
  ((((tn + 1) * 8) : Nat) ≤ 140737488355328),
  (((tn + 1) : Nat) ≤ 9223372036854775807),
  (((-9223372036854775808) : Int) ≤ ((↑j : Int) + 1)),
  ((((↑j : Int) + 1) : Int) ≤ 9223372036854775807),
  (((↑N : Int) : Int) = (↑N : Int)),
  ((nb : Nat) = nb),
  (∀ i_1 : Nat, (((i_1 : Nat) < nb) → (([.int .i64 ((g i_1).1), .int .i64 ((g i_1).2.1)] : List PV) = [.int .i64 ((g i_1).1), .int .i64 ((g i_1).2.1)]))),
  ((0 : Nat) = 0),
  ((N : Nat) = N),
  ((0 : Nat) = 0),
  ((m : Nat) = m),
  ((0 : Nat) = 0),
  ((m : Nat) = m),
  ((a : Int) = a),
  ((b : Int) = b),
  ((0 : Nat) = 0),
  ((0 : Nat) = 0),
  ((0 : Nat) = 0),
  ((0 : Nat) = 0),
  ((N : Nat) = N),
  ((0 : Nat) = 0),
  (((tn + 1) : Nat) = (tn + 1)),
  ((0 : Nat) = 0),
  ((N : Nat) = N),
  (((↑i : Int) : Int) = (↑i : Int)),
  ((v : Int) = v),
  ((((↑j : Int) + 1) : Int) = (↑(j + 1) : Int)),
  ((1 : Nat) = 1),
  ((N : Nat) ≤ N),
  (∀ i_1 : Nat, (((i_1 : Nat) < N) → (All [] ∧ (([.p (.int .i64 (F i_1))] : List AV) = [.p (.int .i64 (F i_1))])))),
  ((1 : Nat) = 1),
  ((m : Nat) ≤ m),
  (∀ i_1 : Nat, (((i_1 : Nat) < m) → (All [] ∧ (([.p (.int .i64 (T i_1))] : List AV) = [.p (.int .i64 (T i_1))])))),
  ((1 : Nat) = 1),
  ((m : Nat) ≤ m),
  (∀ i_1 : Nat, (((i_1 : Nat) < m) → (All [] ∧ (([.p (.int .i64 (Q i_1))] : List AV) = [.p (.int .i64 (Q i_1))])))),
  ((2 : Nat) = 2),
  ((1 : Nat) ≤ 1),
  ((1 : Nat) ≤ 1),
  (((↑N : Int) : Int) = (↑N : Int)),
  ((nb : Nat) = nb),
  (∀ i_1 : Nat, (((i_1 : Nat) < nb) → (([.int .i64 ((g i_1).1), .int .i64 ((g i_1).2.1)] : List PV) = [.int .i64 ((g i_1).1), .int .i64 ((g i_1).2.1)]))),
  ((3 : Nat) = 3),
  ((1 : Nat) ≤ 1),
  ((1 : Nat) ≤ 1),
  ((0 : Nat) = 0),
  ((N : Nat) = N),
  ((0 : Nat) = 0),
  ((m : Nat) = m),
  ((0 : Nat) = 0),
  ((m : Nat) = m),
  ((3 : Nat) = 3),
  ((1 : Nat) ≤ 1),
  ((1 : Nat) ≤ 1),
  ((1 : Nat) = 1),
  ((N : Nat) ≤ N),
  (∀ i_1 : Nat, (((i_1 : Nat) < N) → (All (cvtL false [(1641, ⟨false, 1, (tn + 1), (fun i_2 => (if (i_2 < tn) then [.p (.int .i64 (td i_2))] else [.p (.int .i64 u)]))⟩), (1609, ⟨false, 1, 1, (fun i_2 => [.p (.int .i64 u)])⟩), (6, ⟨false, 1, N, (fun i_2 => (if (i_2 = u.toNat) then [.p (.int .i64 (↑j : Int))] else [.p (.int .i64 (FR i_2))]))⟩), (7, ⟨false, 1, N, (fun i_2 => (if (i_2 = u.toNat) then [.p (.bool true)] else [.p (.bool (SN i_2))]))⟩), (0, ⟨false, 1, N, (fun i_2 => [.p (.int .i64 (F i_2))])⟩), (1, ⟨false, 1, m, (fun i_2 => [.p (.int .i64 (T i_2))])⟩), (2, ⟨false, 1, m, (fun i_2 => [.p (.int .i64 (Q i_2))])⟩), (3, ⟨true, 2, 1, (fun i_2 => [.p (.int .i64 (↑N : Int)), .p (.seq true 2 nb (fun i_3 => [.int .i64 ((g i_3).1), .int .i64 ((g i_3).2.1)]))])⟩), (4, ⟨true, 3, 1, (fun i_2 => [.ar 1 0 0 N, .ar 1 1 0 m, .ar 1 2 0 m])⟩), (5, ⟨true, 3, 1, (fun i_2 => [.p (.nil), .p (.nil), .p (.nil)])⟩)] [0, 1, 2, 3, 4, 5, 6, 7, 1641] 1 (if (i_1 = u.toNat) then [.p (.int .i64 (↑j : Int))] else [.p (.int .i64 (FR i_1))])).2 ∧ (((cvtL false [(1641, ⟨false, 1, (tn + 1), (fun i_2 => (if (i_2 < tn) then [.p (.int .i64 (td i_2))] else [.p (.int .i64 u)]))⟩), (1609, ⟨false, 1, 1, (fun i_2 => [.p (.int .i64 u)])⟩), (6, ⟨false, 1, N, (fun i_2 => (if (i_2 = u.toNat) then [.p (.int .i64 (↑j : Int))] else [.p (.int .i64 (FR i_2))]))⟩), (7, ⟨false, 1, N, (fun i_2 => (if (i_2 = u.toNat) then [.p (.bool true)] else [.p (.bool (SN i_2))]))⟩), (0, ⟨false, 1, N, (fun i_2 => [.p (.int .i64 (F i_2))])⟩), (1, ⟨false, 1, m, (fun i_2 => [.p (.int .i64 (T i_2))])⟩), (2, ⟨false, 1, m, (fun i_2 => [.p (.int .i64 (Q i_2))])⟩), (3, ⟨true, 2, 1, (fun i_2 => [.p (.int .i64 (↑N : Int)), .p (.seq true 2 nb (fun i_3 => [.int .i64 ((g i_3).1), .int .i64 ((g i_3).2.1)]))])⟩), (4, ⟨true, 3, 1, (fun i_2 => [.ar 1 0 0 N, .ar 1 1 0 m, .ar 1 2 0 m])⟩), (5, ⟨true, 3, 1, (fun i_2 => [.p (.nil), .p (.nil), .p (.nil)])⟩)] [0, 1, 2, 3, 4, 5, 6, 7, 1641] 1 (if (i_1 = u.toNat) then [.p (.int .i64 (↑j : Int))] else [.p (.int .i64 (FR i_1))])).1 : List AV) = [.p (.int .i64 (if i_1 = u.toNat then (↑j : Int) else FR i_1))])))),
  ((1 : Nat) = 1),
  ((N : Nat) ≤ N),
  (∀ i_1 : Nat, (((i_1 : Nat) < N) → (All (cvtL false [(1641, ⟨false, 1, (tn + 1), (fun i_2 => (if (i_2 < tn) then [.p (.int .i64 (td i_2))] else [.p (.int .i64 u)]))⟩), (1609, ⟨false, 1, 1, (fun i_2 => [.p (.int .i64 u)])⟩), (6, ⟨false, 1, N, (fun i_2 => (if (i_2 = u.toNat) then [.p (.int .i64 (↑j : Int))] else [.p (.int .i64 (FR i_2))]))⟩), (7, ⟨false, 1, N, (fun i_2 => (if (i_2 = u.toNat) then [.p (.bool true)] else [.p (.bool (SN i_2))]))⟩), (0, ⟨false, 1, N, (fun i_2 => [.p (.int .i64 (F i_2))])⟩), (1, ⟨false, 1, m, (fun i_2 => [.p (.int .i64 (T i_2))])⟩), (2, ⟨false, 1, m, (fun i_2 => [.p (.int .i64 (Q i_2))])⟩), (3, ⟨true, 2, 1, (fun i_2 => [.p (.int .i64 (↑N : Int)), .p (.seq true 2 nb (fun i_3 => [.int .i64 ((g i_3).1), .int .i64 ((g i_3).2.1)]))])⟩), (4, ⟨true, 3, 1, (fun i_2 => [.ar 1 0 0 N, .ar 1 1 0 m, .ar 1 2 0 m])⟩), (5, ⟨true, 3, 1, (fun i_2 => [.p (.nil), .p (.nil), .p (.nil)])⟩)] [0, 1, 2, 3, 4, 5, 6, 7, 1641] 1 (if (i_1 = u.toNat) then [.p (.bool true)] else [.p (.bool (SN i_1))])).2 ∧ (((cvtL false [(1641, ⟨false, 1, (tn + 1), (fun i_2 => (if (i_2 < tn) then [.p (.int .i64 (td i_2))] else [.p (.int .i64 u)]))⟩), (1609, ⟨false, 1, 1, (fun i_2 => [.p (.int .i64 u)])⟩), (6, ⟨false, 1, N, (fun i_2 => (if (i_2 = u.toNat) then [.p (.int .i64 (↑j : Int))] else [.p (.int .i64 (FR i_2))]))⟩), (7, ⟨false, 1, N, (fun i_2 => (if (i_2 = u.toNat) then [.p (.bool true)] else [.p (.bool (SN i_2))]))⟩), (0, ⟨false, 1, N, (fun i_2 => [.p (.int .i64 (F i_2))])⟩), (1, ⟨false, 1, m, (fun i_2 => [.p (.int .i64 (T i_2))])⟩), (2, ⟨false, 1, m, (fun i_2 => [.p (.int .i64 (Q i_2))])⟩), (3, ⟨true, 2, 1, (fun i_2 => [.p (.int .i64 (↑N : Int)), .p (.seq true 2 nb (fun i_3 => [.int .i64 ((g i_3).1), .int .i64 ((g i_3).2.1)]))])⟩), (4, ⟨true, 3, 1, (fun i_2 => [.ar 1 0 0 N, .ar 1 1 0 m, .ar 1 2 0 m])⟩), (5, ⟨true, 3, 1, (fun i_2 => [.p (.nil), .p (.nil), .p (.nil)])⟩)] [0, 1, 2, 3, 4, 5, 6, 7, 1641] 1 (if (i_1 = u.toNat) then [.p (.bool true)] else [.p (.bool (SN i_1))])).1 : List AV) = [.p (.bool (if i_1 = u.toNat then true else SN i_1))])))),
  ((1 : Nat) = 1),
  (((tn + 1) : Nat) ≤ (tn + 1)),
  (∀ i_1 : Nat, (((i_1 : Nat) < (tn + 1)) → (All (cvtL false [(1641, ⟨false, 1, (tn + 1), (fun i_2 => (if (i_2 < tn) then [.p (.int .i64 (td i_2))] else [.p (.int .i64 u)]))⟩), (1609, ⟨false, 1, 1, (fun i_2 => [.p (.int .i64 u)])⟩), (6, ⟨false, 1, N, (fun i_2 => (if (i_2 = u.toNat) then [.p (.int .i64 (↑j : Int))] else [.p (.int .i64 (FR i_2))]))⟩), (7, ⟨false, 1, N, (fun i_2 => (if (i_2 = u.toNat) then [.p (.bool true)] else [.p (.bool (SN i_2))]))⟩), (0, ⟨false, 1, N, (fun i_2 => [.p (.int .i64 (F i_2))])⟩), (1, ⟨false, 1, m, (fun i_2 => [.p (.int .i64 (T i_2))])⟩), (2, ⟨false, 1, m, (fun i_2 => [.p (.int .i64 (Q i_2))])⟩), (3, ⟨true, 2, 1, (fun i_2 => [.p (.int .i64 (↑N : Int)), .p (.seq true 2 nb (fun i_3 => [.int .i64 ((g i_3).1), .int .i64 ((g i_3).2.1)]))])⟩), (4, ⟨true, 3, 1, (fun i_2 => [.ar 1 0 0 N, .ar 1 1 0 m, .ar 1 2 0 m])⟩), (5, ⟨true, 3, 1, (fun i_2 => [.p (.nil), .p (.nil), .p (.nil)])⟩)] [0, 1, 2, 3, 4, 5, 6, 7, 1641] 1 (if (i_1 < tn) then [.p (.int .i64 (td i_1))] else [.p (.int .i64 u)])).2 ∧ (((cvtL false [(1641, ⟨false, 1, (tn + 1), (fun i_2 => (if (i_2 < tn) then [.p (.int .i64 (td i_2))] else [.p (.int .i64 u)]))⟩), (1609, ⟨false, 1, 1, (fun i_2 => [.p (.int .i64 u)])⟩), (6, ⟨false, 1, N, (fun i_2 => (if (i_2 = u.toNat) then [.p (.int .i64 (↑j : Int))] else [.p (.int .i64 (FR i_2))]))⟩), (7, ⟨false, 1, N, (fun i_2 => (if (i_2 = u.toNat) then [.p (.bool true)] else [.p (.bool (SN i_2))]))⟩), (0, ⟨false, 1, N, (fun i_2 => [.p (.int .i64 (F i_2))])⟩), (1, ⟨false, 1, m, (fun i_2 => [.p (.int .i64 (T i_2))])⟩), (2, ⟨false, 1, m, (fun i_2 => [.p (.int .i64 (Q i_2))])⟩), (3, ⟨true, 2, 1, (fun i_2 => [.p (.int .i64 (↑N : Int)), .p (.seq true 2 nb (fun i_3 => [.int .i64 ((g i_3).1), .int .i64 ((g i_3).2.1)]))])⟩), (4, ⟨true, 3, 1, (fun i_2 => [.ar 1 0 0 N, .ar 1 1 0 m, .ar 1 2 0 m])⟩), (5, ⟨true, 3, 1, (fun i_2 => [.p (.nil), .p (.nil), .p (.nil)])⟩)] [0, 1, 2, 3, 4, 5, 6, 7, 1641] 1 (if (i_1 < tn) then [.p (.int .i64 (td i_1))] else [.p (.int .i64 u)])).1 : List AV) = [.p (.int .i64 (if i_1 < tn then td i_1 else u))]))))]) := by kernel_rfl
theorem qF2d (g : Nat → T_Bar) (nb N m : Nat) (F T Q td FR : Nat → Int) (SN : Nat → Bool) (a b v u : Int) (i j tn : Nat) :
    pieceOb Try.prog 3 [.reg [oT, oT, oT, oT, oT], .dec true, .reg [oT, oT, oT, oT, oT, oT, oT], .dec false, .reg [oT, oT, oT, oT, oT, oT, oT, oT, oT, oT, ⟨true, (some ⟨[], [], 1, [], .p (.int .i64 u)⟩), none⟩, oT], .reg [oT, oT, oT, oT], .dec false, .reg [oT, oT, oT, oT], .reg [oT, oT, oT, oT, oT], .reg [oT, oT, oT, oT, oT, oT, oT, oT, oT, oT, oT], .dec true, .head] [.code (cAt (bodyOf Try.f157) [1, 1, 1, 1, 1, 1, 0, 1, 0, 0, 1, 0, 0, 1, 1, 0, 0]), .inLoop (cAt (bodyOf Try.f157) [1, 1, 1, 1, 1, 1, 0, 1, 0, 0, 1, 0, 0, 1, 1, 0, 0]), .inBlock 4, .inBlock 3, .code (cAt (bodyOf Try.f157) [1, 1, 1, 1, 1, 1, 0, 1, 0, 0, 1, 1]), .inLoop (cAt (bodyOf Try.f157) [1, 1, 1, 1, 1, 1, 0, 1, 0, 0]), .inBlock 2, .code (cAt (bodyOf Try.f157) [1, 1, 1, 1, 1, 1, 1])] (SF2 g nb N m F T Q td FR SN a b v i j tn) [0, 1, 2, 3, 4, 5, 6] 1 (SF3 g nb N m F T Q (fun s => if s = u.toNat then j else FR s) a b u) =
    some ([.code (cAt (bodyOf Try.f157) [1, 1, 1, 1, 1, 1, 0, 1, 0, 0, 1, 0, 0, 1, 1, 0, 0, 1, 0, 0, 1, 1, 1, 1, 1, 0, 1, 0, 0]), .code .ret, .code (cAt (bodyOf Try.f157) [1, 1, 1, 1, 1, 1, 0, 1, 0, 0, 1, 0, 0, 1, 1, 0, 0, 1, 0, 0, 1, 1, 1, 1, 1, 1]), .inBlock 5, .code (cAt (bodyOf Try.f157) [1, 1, 1, 1, 1, 1, 0, 1, 0, 0, 1, 0, 0, 1, 1, 0, 0, 1, 1]), .inLoop (cAt (bodyOf Try.f157) [1, 1, 1, 1, 1, 1, 0, 1, 0, 0, 1, 0, 0, 1, 1, 0, 0]), .inBlock 4, .inBlock 3, .code (cAt (bodyOf Try.f157) [1, 1, 1, 1, 1, 1, 0, 1, 0, 0, 1, 1]), .inLoop (cAt (bodyOf Try.f157) [1, 1, 1, 1, 1, 1, 0, 1, 0, 0]), .inBlock 2, .code (cAt (bodyOf Try.f157) [1, 1, 1, 1, 1, 1, 1])], [((0 : Nat) < 1),
  ((decide ((↑j : Int) < (↑m : Int))) = true),
  ((0 : Nat) < 1),
  ((0 : Int) ≤ (↑j : Int)),
  (((↑j : Int) : Int) < (↑m : Int)),
  ((j : Nat) < m),
  ((T j != v) = false),
  ((0 : Nat) < 1),
  ((0 : Nat) < 1),
  ((0 : Int) ≤ (↑j : Int)),
  (((↑j : Int) : Int) < (↑m : Int)),
  ((j : Nat) < m),
  ((0 : Int) ≤ (Q j)),
  (((Q j) : Int) < (↑nb : Int)),
  Con Try.prog 168 0 [] [.agg [.p (.int .i64 ((g (Q j).toNat).1)), .p (.int .i64 ((g (Q j).toNat).2.1))], .p (.int .i64 v)] [] (.p (.int .i64 u)),
  ((0 : Int) ≤ u),
  ((u : Int) < (↑N : Int)),
  ((u.toNat : Nat) < N),
  ((SN u.toNat) = false),
  ((0 : Int) ≤ u),
  ((u : Int) < (↑N : Int)),
  ((u.toNat : Nat) < N),
  ((false = true) → ((N : Nat) = 1)),
  ((0 : Int) ≤ u),
  ((u : Int) < (↑N : Int)),
  ((u.toNat : Nat) < N),
  ((false = true) → ((N : Nat) = 1)),
  (((u != b) = true) → ((u != b) = true)),
  (((u != b) = true) → ((0 : Nat) < 1)),
  (((u != b) = true) → ((u != b) = true)),
  (((u != b) = true) → ((u != b) = true)),
  (((u != b) = true) → ((0 : Int) ≤ u)),
  (((u != b) = true) → ((u : Int) < (↑N : Int))),
  (((u != b) = true) → ((u != b) = true)),
  (((u != b) = true) → ((u.toNat : Nat) < N)),
  (((u != b) = true) → ((u != b) = true)),
  (((u != b) = true) → ((u != b) = true)),
  ((bif u != b then decide (F (u.toNat + 0) > 0) else false) = true),
  (((↑N : Int) : Int) = (↑N : Int)),
  ((nb : Nat) = nb),
  (∀ i_1 : Nat, (((i_1 : Nat) < nb) → (([.int .i64 ((g i_1).1), .int .i64 ((g i_1).2.1)] : List PV) = [.int .i64 ((g i_1).1), .int .i64 ((g i_1).2.1)]))),
  ((0 : Nat) = 0),
  ((N : Nat) = N),
  ((0 : Nat) = 0),
  ((m : Nat) = m),
  ((0 : Nat) = 0),
  ((m : Nat) = m),
  ((a : Int) = a),
  ((b : Int) = b),
  ((0 : Nat) = 0),
  ((0 : Nat) = 0),
  ((0 : Nat) = 0),
  ((0 : Nat) = 0),
  ((N : Nat) = N),
  ((u : Int) = u),
  ((1 : Nat) = 1),
  ((N : Nat) ≤ N),
  (∀ i_1 : Nat, (((i_1 : Nat) < N) → (All [] ∧ (([.p (.int .i64 (F i_1))] : List AV) = [.p (.int .i64 (F i_1))])))),
  ((1 : Nat) = 1),
  ((m : Nat) ≤ m),
  (∀ i_1 : Nat, (((i_1 : Nat) < m) → (All [] ∧ (([.p (.int .i64 (T i_1))] : List AV) = [.p (.int .i64 (T i_1))])))),
  ((1 : Nat) = 1),
  ((m : Nat) ≤ m),
  (∀ i_1 : Nat, (((i_1 : Nat) < m) → (All [] ∧ (([.p (.int .i64 (Q i_1))] : List AV) = [.p (.int .i64 (Q i_1))])))),
  ((2 : Nat) = 2),
  ((1 : Nat) ≤ 1),
  ((1 : Nat) ≤ 1),
  (((↑N : Int) : Int) = (↑N : Int)),
  ((nb : Nat) = nb),
  (∀ i_1 : Nat, (((i_1 : Nat) < nb) → (([.int .i64 ((g i_1).1), .int .i64 ((g i_1).2.1)] : List PV) = [.int .i64 ((g i_1).1), .int .i64 ((g i_1).2.1)]))),
  ((3 : Nat) = 3),
  ((1 : Nat) ≤ 1),
  ((1 : Nat) ≤ 1),
  ((0 : Nat) = 0),
  ((N : Nat) = N),
  ((0 : Nat) = 0),
  ((m : Nat) = m),
  ((0 : Nat) = 0),
  ((m : Nat) = m),
  ((3 : Nat) = 3),
  ((1 : Nat) ≤ 1),
  ((1 : Nat) ≤ 1),
  ((1 : Nat) = 1),
  ((N : Nat) ≤ N),
  (∀ i_1 : Nat, (((i_1 : Nat) < N) → (All (cvtL false [(6, ⟨false, 1, N, (fun i_2 => (if (i_2 = u.toNat) then [.p (.int .i64 (↑j : Int))] else [.p (.int .i64 (FR i_2))]))⟩), (7, ⟨false, 1, N, (fun i_2 => (if (i_2 = u.toNat) then [.p (.bool true)] else [.p (.bool (SN i_2))]))⟩), (0, ⟨false, 1, N, (fun i_2 => [.p (.int .i64 (F i_2))])⟩), (1, ⟨false, 1, m, (fun i_2 => [.p (.int .i64 (T i_2))])⟩), (2, ⟨false, 1, m, (fun i_2 => [.p (.int .i64 (Q i_2))])⟩), (3, ⟨true, 2, 1, (fun i_2 => [.p (.int .i64 (↑N : Int)), .p (.seq true 2 nb (fun i_3 => [.int .i64 ((g i_3).1), .int .i64 ((g i_3).2.1)]))])⟩), (4, ⟨true, 3, 1, (fun i_2 => [.ar 1 0 0 N, .ar 1 1 0 m, .ar 1 2 0 m])⟩), (5, ⟨true, 3, 1, (fun i_2 => [.p (.nil), .p (.nil), .p (.nil)])⟩), (8, ⟨false, 1, tn, (fun i_2 => [.p (.int .i64 (td i_2))])⟩)] [0, 1, 2, 3, 4, 5, 6] 1 (if (i_1 = u.toNat) then [.p (.int .i64 (↑j : Int))] else [.p (.int .i64 (FR i_1))])).2 ∧ (((cvtL false [(6, ⟨false, 1, N, (fun i_2 => (if (i_2 = u.toNat) then [.p (.int .i64 (↑j : Int))] else [.p (.int .i64 (FR i_2))]))⟩), (7, ⟨false, 1, N, (fun i_2 => (if (i_2 = u.toNat) then [.p (.bool true)] else [.p (.bool (SN i_2))]))⟩), (0, ⟨false, 1, N, (fun i_2 => [.p (.int .i64 (F i_2))])⟩), (1, ⟨false, 1, m, (fun i_2 => [.p (.int .i64 (T i_2))])⟩), (2, ⟨false, 1, m, (fun i_2 => [.p (.int .i64 (Q i_2))])⟩), (3, ⟨true, 2, 1, (fun i_2 => [.p (.int .i64 (↑N : Int)), .p (.seq true 2 nb (fun i_3 => [.int .i64 ((g i_3).1), .int .i64 ((g i_3).2.1)]))])⟩), (4, ⟨true, 3, 1, (fun i_2 => [.ar 1 0 0 N, .ar 1 1 0 m, .ar 1 2 0 m])⟩), (5, ⟨true, 3, 1, (fun i_2 => [.p (.nil), .p (.nil), .p (.nil)])⟩), (8, ⟨false, 1, tn, (fun i_2 => [.p (.int .i64 (td i_2))])⟩)] [0, 1, 2, 3, 4, 5, 6] 1 (if (i_1 = u.toNat) then [.p (.int .i64 (↑j : Int))] else [.p (.int .i64 (FR i_1))])).1 : List AV) = [.p (.int .i64 (if i_1 = u.toNat then (↑j : Int) else FR i_1))]))))]) := by kernel_rfl
theorem qF3 (g : Nat → T_Bar) (nb N m : Nat) (F T Q FR F1 T1 : Nat → Int) (a b u : Int) :
    pathOb Try.prog Try.f157 3 [.reg [oT, oT, oT, oT, oT, ⟨true, (some ⟨[], [], 1, pebR N m F1 T1 Q, pebO N m 0⟩), none⟩, oT, oT]] [.code (cAt (bodyOf Try.f157) [1, 1, 1, 1, 1, 1, 0, 1, 0, 0, 1, 0, 0, 1, 1, 0, 0, 1, 0, 0, 1, 1, 1, 1, 1, 0, 1, 0, 0]), .code .ret, .code (cAt (bodyOf Try.f157) [1, 1, 1, 1, 1, 1, 0, 1, 0, 0, 1, 0, 0, 1, 1, 0, 0, 1, 0, 0, 1, 1, 1, 1, 1, 1]), .inBlock 5, .code (cAt (bodyOf Try.f157) [1, 1, 1, 1, 1, 1, 0, 1, 0, 0, 1, 0, 0, 1, 1, 0, 0, 1, 1]), .inLoop (cAt (bodyOf Try.f157) [1, 1, 1, 1, 1, 1, 0, 1, 0, 0, 1, 0, 0, 1, 1, 0, 0]), .inBlock 4, .inBlock 3, .code (cAt (bodyOf Try.f157) [1, 1, 1, 1, 1, 1, 0, 1, 0, 0, 1, 1]), .inLoop (cAt (bodyOf Try.f157) [1, 1, 1, 1, 1, 1, 0, 1, 0, 0]), .inBlock 2, .code (cAt (bodyOf Try.f157) [1, 1, 1, 1, 1, 1, 1])] (SF3 g nb N m F T Q FR a b u) [0, 1, 2, 167, 168, 169] 1 (pebR3 N m F T Q F1 T1 Q) (.tup [pebO N m 3, .p (.bool true)]) =
    some [((0 : Nat) < 1),
  ((0 : Nat) < 1),
  ((1 : Nat) = 1),
  ((N : Nat) ≤ N),
  ((1 : Nat) = 1),
  ((m : Nat) ≤ m),
  ((1 : Nat) = 1),
  ((m : Nat) ≤ m),
  ((1 : Nat) = 1),
  ((N : Nat) ≤ N),
  Con Try.prog 169 0 [] [.agg [.p (.int .i64 (↑N : Int)), .p (.seq true 2 nb (fun i => [.int .i64 ((g i).1), .int .i64 ((g i).2.1)]))], .agg [.p (.seq true 1 N (fun i => [.int .i64 (F i)])), .p (.seq true 1 m (fun i => [.int .i64 (T i)])), .p (.seq true 1 m (fun i => [.int .i64 (Q i)]))], .p (.seq true 1 N (fun i => [.int .i64 (FR i)])), .p (.int .i64 a), .p (.int .i64 u)] [(0, ⟨false, 1, N, (fun i => [.p (.int .i64 (F1 i))])⟩), (1, ⟨false, 1, m, (fun i => [.p (.int .i64 (T1 i))])⟩), (2, ⟨false, 1, m, (fun i => [.p (.int .i64 (Q i))])⟩)] (.agg [.ar 1 0 0 N, .ar 1 1 0 m, .ar 1 2 0 m]),
  ((0 : Nat) < 1),
  ((true = true) → ((1 : Nat) = 1)),
  ((0 : Nat) < 1),
  ((0 : Nat) = 0),
  ((N : Nat) = N),
  ((0 : Nat) = 0),
  ((m : Nat) = m),
  ((0 : Nat) = 0),
  ((m : Nat) = m),
  (true = true),
  ((1 : Nat) = 1),
  ((N : Nat) ≤ N),
  (∀ i : Nat, (((i : Nat) < N) → (All [] ∧ (([.p (.int .i64 (F i))] : List AV) = [.p (.int .i64 (F i))])))),
  ((1 : Nat) = 1),
  ((m : Nat) ≤ m),
  (∀ i : Nat, (((i : Nat) < m) → (All [] ∧ (([.p (.int .i64 (T i))] : List AV) = [.p (.int .i64 (T i))])))),
  ((1 : Nat) = 1),
  ((m : Nat) ≤ m),
  (∀ i : Nat, (((i : Nat) < m) → (All [] ∧ (([.p (.int .i64 (Q i))] : List AV) = [.p (.int .i64 (Q i))])))),
  ((1 : Nat) = 1),
  ((N : Nat) ≤ N),
  (∀ i : Nat, (((i : Nat) < N) → (All [] ∧ (([.p (.int .i64 (F1 i))] : List AV) = [.p (.int .i64 (F1 i))])))),
  ((1 : Nat) = 1),
  ((m : Nat) ≤ m),
  (∀ i : Nat, (((i : Nat) < m) → (All [] ∧ (([.p (.int .i64 (T1 i))] : List AV) = [.p (.int .i64 (T1 i))])))),
  ((1 : Nat) = 1),
  ((m : Nat) ≤ m),
  (∀ i : Nat, (((i : Nat) < m) → (All [] ∧ (([.p (.int .i64 (Q i))] : List AV) = [.p (.int .i64 (Q i))])))),
  (∀ i : Nat, (((i : Nat) < N) → All [])),
  (∀ i : Nat, (((i : Nat) < m) → All [])),
  (∀ i : Nat, (((i : Nat) < m) → All [])),
  (∀ i : Nat, (((i : Nat) < N) → All [])),
  (∀ i : Nat, (((i : Nat) < m) → All [])),
  (∀ i : Nat, (((i : Nat) < m) → All []))] := by kernel_rfl
end Go.Proofs.Ytgdbnnmogddkaaa.Mach
namespace Go.Proofs.Ytgdbnnmogddkaaa.Mach
open Go
set_option linter.unusedVariables false
set_option linter.unusedSimpArgs false
theorem con_l4Other (x : T_Bar) (v : Int) (h1 : 0 ≤ x.1 ∧ x.1 ≤ 1048576) (h2 : 0 ≤ x.2.1 ∧ x.2.1 ≤ 1048576) (h3 : 0 ≤ v ∧ v ≤ 1048576) : Con Try.prog 168 0 [] [brA x, .p (.int .i64 v)] [] (.p (.int .i64 (x.1 + x.2.1 - v))) := by
  refine con_start Try.func168 rfl (by kernel_rfl) rfl (fun c hc => ?_)
  refine path_ok mixed Try.func168 hc (qOt x v) ?_
  simp only [All]
  repeat' (first | exact trivial | with_reducible apply And.intro)
  all_goals (first | omega | rfl | (intros; first | assumption | exact True.intro | rfl | exact absurd (show false = true by assumption) Bool.false_ne_true | ((repeat' (first | assumption | apply anda | apply notf)); done)) | simp)
theorem con_l4Copy (N m : Nat) (F T Q : Nat → Int) (hN : N ≤ 1048576) (hm : m ≤ 1048576) : Con Try.prog 156 0 [] [pebD N m F T Q] (pebR N m F T Q) (pebO N m 0) := by
  refine con_start Try.func156 rfl (by kernel_rfl) rfl (fun c hc => ?_)
  refine path_ok mixed Try.func156 hc (qCp N m F T Q) ?_
  simp only [All]
  repeat' (first | exact trivial | with_reducible apply And.intro)
  all_goals (first | omega | rfl | (intros; first | assumption | exact True.intro | rfl | exact absurd (show false = true by assumption) Bool.false_ne_true | ((repeat' (first | assumption | apply anda | apply notf)); done)) | (intro i hi; simp [All]))
theorem oth_sum {x : T_Bar} {y z : Int} (h : y = x.1 ∨ y = x.2.1) (hz : othF x y = z) : x.1 + x.2.1 - z = y ∧ x.1 + x.2.1 - y = z := by
  unfold othF at hz
  by_cases e : x.1 = y
  · rw [if_pos e] at hz; omega
  · rw [if_neg e] at hz
    rcases h with h | h
    · exact absurd h.symm e
    · omega
theorem run_shift {N nb m : Nat} {g : Nat → T_Bar} {F F0 F1 T Q td FR : Nat → Int} {a b u : Int} {tn : Nat} (h : BInv N m g F T Q td (fun s => FR (td s).toNat) a b tn) (hN : N ≤ 1048576) (hm : m ≤ 1048576) (hnb : nb ≤ 1048576)
    (hq : ∀ j, j < m → 0 ≤ Q j ∧ Q j < nb) (hbar : ∀ e, e < nb → 0 ≤ (g e).1 ∧ (g e).1 < (g e).2.1 ∧ (g e).2.1 < N) (hT : ∀ j, j < m → T j = (g (Q j).toNat).1 ∨ T j = (g (Q j).toNat).2.1) :
    ∀ s, s < tn → ∀ T' : Nat → Int, TInv m g T Q td (fun s => FR (td s).toNat) T' u s → ∃ T'' s', (∀ c, c.n = 0 → Run Try.prog c 169 [.code (cAt (bodyOf Try.f169) [1, 1, 1, 1, 1, 0, 0, 0]), .inLoop (cAt (bodyOf Try.f169) [1, 1, 1, 1, 1, 0, 0, 0]), .inBlock 0, .code (cAt (bodyOf Try.f169) [1, 1, 1, 1, 1, 1])] (SSl g nb N m F0 T Q FR F1 T' a u (td s)) (Post c (pebR N m F1 T'' Q) (pebO N m 0))) ∧
      TInv m g T Q td (fun s => FR (td s).toNat) T'' u s' ∧ td s' = a := by
  intro s
  induction s using Nat.strongRecOn with
  | ind s ih =>
    intro hs T' ht
    by_cases he : td s = a
    · refine ⟨T', s, fun c hc => ?_, ht, he⟩
      have hb : (td s != a) = false := by simp [he]
      refine path_ok mixed Try.func169 hc (qSe g nb N m F0 T Q FR F1 T' a u (td s)) ?_
      simp only [All]
      repeat' (first | exact trivial | with_reducible apply And.intro)
      all_goals (first | omega | rfl | (intros; first | assumption | exact True.intro | rfl | exact absurd (show false = true by assumption) Bool.false_ne_true | ((repeat' (first | assumption | apply anda | apply notf)); done)) | (exact hb) | (intro i hi; simp [All]))
    · have hs1 : 1 ≤ s := by
        cases s with
        | zero => exact absurd h.td0 he
        | succ s => omega
      obtain ⟨j, hj, hVs, s', hs', hk, ht', hTj, hoth⟩ := ht.step h hs hs1
      have hVs : FR (td s).toNat = (j : Int) := hVs
      obtain ⟨T'', s'', hrun, h1, h2⟩ := ih s' hs' (by omega) _ ht'
      refine ⟨T'', s'', fun c hc => ?_, h1, h2⟩
      have hb : (td s != a) = true := by simp [he]
      have hqj := hq j hj
      have hbj := hbar (Q j).toNat (by omega)
      have hrs := h.rng s hs
      have hsum := (oth_sum (by rw [← hTj]; exact hT j hj) hoth).1
      have hcon := con_l4Other (g (Q j).toNat) (td s) (by omega) (by omega) (by omega)
      rw [hsum] at hcon
      refine piece_ok mixed hc (qSl g nb N m F0 T Q FR F1 T' a u (td s) (td s')) ?_ (by rw [hVs]; simp only [Int.toNat_natCast]; exact hrun c hc)
      simp only [All]
      repeat' (first | exact trivial | with_reducible apply And.intro)
      all_goals (first | omega | rfl | (intros; first | assumption | exact True.intro | rfl | exact absurd (show false = true by assumption) Bool.false_ne_true | ((repeat' (first | assumption | apply anda | apply notf)); done)) | (exact hb) | (rw [hVs]; simp only [Int.toNat_natCast]; omega) | (rw [hVs]; simp only [Int.toNat_natCast]; exact hcon) | (intro i hi; simp [All]; done) | (simp only [hVs, Int.toNat_natCast]; intro i hi; by_cases h : i = j <;> simp [h, cvtL, cvt, tg, tru, All]))
theorem BInv.congrV {N m : Nat} {g : Nat → T_Bar} {F T Q td V V' : Nat → Int} {a b : Int} {tn : Nat} (h : BInv N m g F T Q td V a b tn) (hv : ∀ s, s < tn → V s = V' s) : BInv N m g F T Q td V' a b tn :=
  ⟨h.n1, h.td0, h.rng, h.inj, fun s h1 h2 => by rw [← hv s h2]; exact h.par s h1 h2⟩
theorem con_l4Shift {N k nb m : Nat} {g : Nat → T_Bar} {F T Q td FR : Nat → Int} {a b u : Int} {tn : Nat} (hp : PInv N k nb m g F T Q) (hk : k ≤ 1048576) (hN : N ≤ 1048576) (hm : m ≤ 1048576) (hnb : nb ≤ 1048576)
    (h : BInv N m g F T Q td (fun s => FR (td s).toNat) a b (tn + 1)) (htn : td tn = u) (ha : 0 ≤ a ∧ a < N) (hu : 0 ≤ u ∧ u < N) (hua : u ≠ a) :
    ∃ T'' s', Con Try.prog 169 0 [] [grG g nb N, pebD N m F T Q, inD N FR, .p (.int .i64 a), .p (.int .i64 u)] (pebR N m (fun x => if x = a.toNat then (if x = u.toNat then F x - 1 else F x) + 1 else (if x = u.toNat then F x - 1 else F x)) T'' Q) (pebO N m 0) ∧
      TInv m g T Q td (fun s => FR (td s).toNat) T'' u s' ∧ td s' = a := by
  have ht0 : TInv m g T Q td (fun s => FR (td s).toNat) T u tn := ⟨fun _ _ _ => rfl, hp.t, fun x => by rw [htn]; omega⟩
  obtain ⟨T'', s', hrun, h1, h2⟩ := run_shift (nb := nb) (F0 := F) (F1 := fun x => if x = a.toNat then (if x = u.toNat then F x - 1 else F x) + 1 else (if x = u.toNat then F x - 1 else F x)) h hN hm hnb hp.q hp.bars hp.t tn (by omega) T ht0
  refine ⟨T'', s', ?_, h1, h2⟩
  rw [htn] at hrun
  have hFa := hp.le (v := a.toNat) (by omega)
  have hFu := hp.le (v := u.toNat) (by omega)
  have hcc := con_l4Copy N m F T Q hN hm
  refine con_start Try.func169 rfl (by kernel_rfl) rfl (fun c hc => ?_)
  have hrun' := hrun c hc
  refine piece_ok mixed hc (qSz g nb N m F T Q FR a u) ?_ ?_
  ·
    simp only [All]
    repeat' (first | exact trivial | with_reducible apply And.intro)
    all_goals (first | omega | rfl | (intros; first | assumption | exact True.intro | rfl | exact absurd (show false = true by assumption) Bool.false_ne_true | ((repeat' (first | assumption | apply anda | apply notf)); done)) | (exact hcc) | (intro i hi; simp [All]; done) | (intro i hi; by_cases h : i = u.toNat <;> simp [h, cvtL, cvt, tg, tru, All]))
  · have hF1 : (fun s => if s = u.toNat then F s - 1 else F s) a.toNat = F a.toNat := by
      show (if a.toNat = u.toNat then F a.toNat - 1 else F a.toNat) = _
      rw [if_neg (by omega)]
    obtain ⟨F1, hF1d⟩ : ∃ F1 : Nat → Int, F1 = (fun s => if s = u.toNat then F s - 1 else F s) := ⟨_, rfl⟩
    have hFF : (fun x => if x = a.toNat then (if x = u.toNat then F x - 1 else F x) + 1 else (if x = u.toNat then F x - 1 else F x)) = (fun s => if s = a.toNat then F1 s + 1 else F1 s) := by
      subst hF1d; rfl
    rw [hFF] at hrun' ⊢
    rw [← hF1d] at hF1 ⊢
    refine piece_ok mixed hc (qSa g nb N m F T Q FR F1 T a u) ?_ hrun'
    simp only [All]
    repeat' (first | exact trivial | with_reducible apply And.intro)
    all_goals (first | omega | rfl | (intros; first | assumption | exact True.intro | rfl | exact absurd (show false = true by assumption) Bool.false_ne_true | ((repeat' (first | assumption | apply anda | apply notf)); done)) | (rw [hF1]; omega) | (intro i hi; simp [All]; done) | (intro i hi; by_cases h : i = a.toNat <;> simp [h, cvtL, cvt, tg, tru, All]))
inductive FindR (N k nb m : Nat) (g : Nat → T_Bar) (F T Q : Nat → Int) (a b : Int) : Hp → AV → Prop
  | yes (F' T' : Nat → Int) (h : Moved N k nb m g F T Q a b F' T' true) : FindR N k nb m g F T Q a b (pebR3 N m F T Q F' T' Q) (.tup [pebO N m 3, .p (.bool true)])
  | no (h : Moved N k nb m g F T Q a b F T false) : FindR N k nb m g F T Q a b (pebR N m F T Q) (.tup [pebO N m 0, .p (.bool false)])
def OutS (N k nb m : Nat) (g : Nat → T_Bar) (F T Q : Nat → Int) (a b : Int) (i tn : Nat) (td FR : Nat → Int) (SN : Nat → Bool) : Prop :=
  ∃ H' res, (∀ c, c.n = 3 → Run Try.prog c 157 [.code (cAt (bodyOf Try.f157) [1, 1, 1, 1, 1, 1, 0, 1, 0, 0]), .inLoop (cAt (bodyOf Try.f157) [1, 1, 1, 1, 1, 1, 0, 1, 0, 0]), .inBlock 2, .code (cAt (bodyOf Try.f157) [1, 1, 1, 1, 1, 1, 1])] (SF1 g nb N m F T Q td FR SN a b i tn) (Post c H' res)) ∧ FindR N k nb m g F T Q a b H' res
def MidS (N k nb m : Nat) (g : Nat → T_Bar) (F T Q : Nat → Int) (a b : Int) (i j tn : Nat) (td FR : Nat → Int) (SN : Nat → Bool) : Prop :=
  ∃ H' res, (∀ c, c.n = 3 → Run Try.prog c 157 [.code (cAt (bodyOf Try.f157) [1, 1, 1, 1, 1, 1, 0, 1, 0, 0, 1, 0, 0, 1, 1, 0, 0]), .inLoop (cAt (bodyOf Try.f157) [1, 1, 1, 1, 1, 1, 0, 1, 0, 0, 1, 0, 0, 1, 1, 0, 0]), .inBlock 4, .inBlock 3, .code (cAt (bodyOf Try.f157) [1, 1, 1, 1, 1, 1, 0, 1, 0, 0, 1, 1]), .inLoop (cAt (bodyOf Try.f157) [1, 1, 1, 1, 1, 1, 0, 1, 0, 0]), .inBlock 2, .code (cAt (bodyOf Try.f157) [1, 1, 1, 1, 1, 1, 1])] (SF2 g nb N m F T Q td FR SN a b (td i) i j tn) (Post c H' res)) ∧ FindR N k nb m g F T Q a b H' res
def SeenI (N : Nat) (td : Nat → Int) (SN : Nat → Bool) (tn : Nat) : Prop := ∀ x : Nat, x < N → (SN x = true ↔ ∃ s, s < tn ∧ td s = x)
theorem mid_s {N k nb m : Nat} {g : Nat → T_Bar} {F T Q : Nat → Int} {a b : Int} (hp : PInv N k nb m g F T Q) (hk : k ≤ 1048576) (hN : N ≤ 1048576) (hm : m ≤ 1048576) (hnb : nb ≤ 1048576)
    (ha : 0 ≤ a ∧ a < N) (hb : 0 ≤ b ∧ b < N) (hab : a ≠ b) (i : Nat)
    (ih : ∀ tn td FR SN, i + 1 ≤ tn → BInv N m g F T Q td (fun s => FR (td s).toNat) a b tn → SeenI N td SN tn → BZero F td b tn → BClo m g T Q td (i + 1) 0 tn → OutS N k nb m g F T Q a b (i + 1) tn td FR SN) :
    ∀ e j tn td FR SN, j + e = m → i < tn → BInv N m g F T Q td (fun s => FR (td s).toNat) a b tn → SeenI N td SN tn → BZero F td b tn → BClo m g T Q td i j tn → MidS N k nb m g F T Q a b i j tn td FR SN := by
  intro e
  induction e with
  | zero =>
    intro j tn td FR SN hj hi hbi hsn hz hcl
    have htn := pigeon N tn td hbi.rng hbi.inj
    obtain ⟨H', res, hrun, hmv⟩ := ih tn td FR SN (by omega) hbi hsn hz (fun i' j' hij hi' hT => by
      rcases hij with ⟨h1, h2⟩ | ⟨h1, h2⟩
      · by_cases e : i' = i
        · exact hcl i' j' (.inr ⟨e, by omega⟩) hi' hT
        · exact hcl i' j' (.inl ⟨by omega, h2⟩) hi' hT
      · omega)
    refine ⟨H', res, fun c hc => ?_, hmv⟩
    have hd : decide ((j : Int) < (m : Int)) = false := by simp; omega
    refine piece_ok mixed hc (qF2e g nb N m F T Q td FR SN a b (td i) i j tn) ?_ (hrun c hc)
    simp only [All]
    repeat' (first | exact trivial | with_reducible apply And.intro)
    all_goals (first | omega | rfl | (intros; first | assumption | exact True.intro | rfl | exact absurd (show false = true by assumption) Bool.false_ne_true | ((repeat' (first | assumption | apply anda | apply notf)); done)) | (intro i hi; simp [All]))
  | succ e ihe =>
    intro j tn td FR SN hj hi hbi hsn hz hcl
    have htn := pigeon N tn td hbi.rng hbi.inj
    have hjm : j < m := by omega
    have hd : decide ((j : Int) < (m : Int)) = true := by simp; omega
    have hq := hp.q j hjm
    have hbar := hp.bars (Q j).toNat (by omega)
    have hrg := hbi.rng i hi
    by_cases hT : T j = td i
    · have ht1 : (T j != td i) = false := by simp [hT]
      obtain ⟨v, hv⟩ : ∃ v, othF (g (Q j).toNat) (td i) = v := ⟨_, rfl⟩
      have hvr : 0 ≤ v ∧ v < N := by rw [← hv]; exact othF_in hbar
      have hsum := (oth_sum (by rw [← hT]; exact hp.t j hjm) hv).2
      have hcon := con_l4Other (g (Q j).toNat) (td i) (by omega) (by omega) (by omega)
      rw [hsum] at hcon
      cases hh : SN v.toNat with
      | true =>
        obtain ⟨s, hs1, hs2⟩ := (hsn v.toNat (by omega)).1 hh
        obtain ⟨H', res, hrun, hmv⟩ := ihe (j + 1) tn td FR SN (by omega) hi hbi hsn hz (fun i' j' hij hi' hTT => by
          by_cases e : i' = i ∧ j' = j
          · obtain ⟨rfl, rfl⟩ := e
            exact ⟨s, hs1, by rw [hs2, hv]; omega⟩
          · exact hcl i' j' (by omega) hi' hTT)
        refine ⟨H', res, fun c hc => ?_, hmv⟩
        refine piece_ok mixed hc (qF2b g nb N m F T Q td FR SN a b (td i) v i j tn) ?_ (hrun c hc)
        simp only [All]
        repeat' (first | exact trivial | with_reducible apply And.intro)
        all_goals (first | omega | rfl | (intros; first | assumption | exact True.intro | rfl | exact absurd (show false = true by assumption) Bool.false_ne_true | ((repeat' (first | assumption | apply anda | apply notf)); done)) | (exact ht1) | (exact hcon) | (exact hh) | (intro i hi; simp [All]))
      | false =>
        have hno : ∀ s, s < tn → td s ≠ v := by
          intro s hs e
          have := (hsn v.toNat (by omega)).2 ⟨s, hs, by omega⟩
          rw [hh] at this; cases this
        have hadd0 := hbi.add hi hjm hT hv hvr hno
        have hadd : BInv N m g F T Q (fun s => if s < tn then td s else v) (fun s => (fun x => if x = v.toNat then (j : Int) else FR x) ((fun s => if s < tn then td s else v) s).toNat) a b (tn + 1) := by
          refine hadd0.congrV (fun s hs => ?_)
          show (if s < tn then FR (td s).toNat else (j : Int)) = (if (if s < tn then td s else v).toNat = v.toNat then (j : Int) else FR (if s < tn then td s else v).toNat)
          by_cases e : s < tn
          · have h1 := hno s e
            have h2 := hbi.rng s e
            rw [if_pos e, if_pos e, if_neg (show ¬ (td s).toNat = v.toNat by omega)]
          · rw [if_neg e, if_neg e, if_pos rfl]
        have hF := hp.le (v := v.toNat) (by omega)
        cases hcd : (bif v != b then decide (F v.toNat > 0) else false) with
        | false =>
          have hzv : v = b ∨ F v.toNat = 0 := by
            by_cases e : v = b
            · exact .inl e
            · right
              have : (v != b) = true := by simp [e]
              rw [this] at hcd
              simp at hcd
              omega
          obtain ⟨H', res, hrun, hmv⟩ := ihe (j + 1) (tn + 1) (fun s => if s < tn then td s else v) (fun x => if x = v.toNat then (j : Int) else FR x) (fun s => if s = v.toNat then true else SN s) (by omega) (by omega) hadd (fun x hx => by
            show (if x = v.toNat then true else SN x) = true ↔ ∃ s, s < tn + 1 ∧ (if s < tn then td s else v) = x
            by_cases e : x = v.toNat
            · rw [if_pos e]
              exact ⟨fun _ => ⟨tn, by omega, by rw [if_neg (Nat.lt_irrefl tn)]; omega⟩, fun _ => rfl⟩
            · rw [if_neg e, hsn x hx]
              constructor
              · rintro ⟨s, h1, h2⟩; exact ⟨s, by omega, by rw [if_pos h1]; exact h2⟩
              · rintro ⟨s, h1, h2⟩
                by_cases e2 : s < tn
                · rw [if_pos e2] at h2; exact ⟨s, e2, h2⟩
                · rw [if_neg e2] at h2; omega) (fun s h1 h2 => by
            show (if s < tn then td s else v) = b ∨ F (if s < tn then td s else v).toNat = 0
            by_cases e : s < tn
            · rw [if_pos e]; exact hz s h1 e
            · rw [if_neg e]; exact hzv) (fun i' j' hij hi' hTT => by
            have hi2 : i' < tn := by omega
            have hTT' : T j' = td i' := by rw [hTT]; show (if i' < tn then td i' else v) = _; rw [if_pos hi2]
            show ∃ s, s < tn + 1 ∧ (if s < tn then td s else v) = othF (g (Q j').toNat) (if i' < tn then td i' else v)
            rw [if_pos hi2]
            by_cases e : i' = i ∧ j' = j
            · obtain ⟨rfl, rfl⟩ := e
              exact ⟨tn, by omega, by rw [if_neg (Nat.lt_irrefl tn), hv]⟩
            · obtain ⟨s, h1, h2⟩ := hcl i' j' (by omega) hi2 hTT'
              exact ⟨s, by omega, by rw [if_pos h1]; exact h2⟩)
          refine ⟨H', res, fun c hc => ?_, hmv⟩
          have hrun' := hrun c hc
          simp only [hi, if_true] at hrun'
          refine piece_ok mixed hc (qF2c g nb N m F T Q td FR SN a b (td i) v i j tn) ?_ hrun'
          simp only [All]
          repeat' (first | exact trivial | with_reducible apply And.intro)
          all_goals (first | omega | rfl | (intros; first | assumption | exact True.intro | rfl | exact absurd (show false = true by assumption) Bool.false_ne_true | ((repeat' (first | assumption | apply anda | apply notf)); done)) | (exact ht1) | (exact hcon) | (exact hh) | (exact hcd) | (intros; omega) | (intro i hi; simp [All]; done) | (intro i hi; by_cases h : i < tn <;> simp [h, cvtL, cvt, tg, tru, All]; done) | (intro i hi; by_cases h : i = v.toNat <;> simp [h, cvtL, cvt, tg, tru, All]))
        | true =>
          have hvb : v ≠ b := by
            intro e
            rw [show (v != b) = false by simp [e]] at hcd
            cases hcd
          have hFv : F v.toNat ≠ 0 := by
            intro e
            rw [show (v != b) = true by simp [hvb]] at hcd
            simp [e] at hcd
          have hva : v ≠ a := by
            have := hno 0 (by have := hbi.n1; omega)
            rw [hbi.td0] at this
            exact Ne.symm this
          obtain ⟨T'', s', hcs, h1, h2⟩ := con_l4Shift (td := fun s => if s < tn then td s else v) (FR := fun x => if x = v.toNat then (j : Int) else FR x) (tn := tn) hp hk hN hm hnb hadd (by show (if tn < tn then td tn else v) = v; rw [if_neg (Nat.lt_irrefl tn)]) ha hvr hva
          refine ⟨_, _, fun c hc => ?_, .yes _ T'' (moved_yes hp ha hb hab hvr hva hvb hFv h1 h2)⟩
          refine piece_ok mixed hc (qF2d g nb N m F T Q td FR SN a b (td i) v i j tn) ?_ ?_
          ·
            simp only [All]
            repeat' (first | exact trivial | with_reducible apply And.intro)
            all_goals (first | omega | rfl | (intros; first | assumption | exact True.intro | rfl | exact absurd (show false = true by assumption) Bool.false_ne_true | ((repeat' (first | assumption | apply anda | apply notf)); done)) | (exact ht1) | (exact hcon) | (exact hh) | (exact hcd) | (intros; omega) | (intro i hi; simp [All]; done) | (intro i hi; by_cases h : i = v.toNat <;> simp [h, cvtL, cvt, tg, tru, All]))
          · refine path_ok mixed Try.func157 hc (qF3 g nb N m F T Q (fun s => if s = v.toNat then (j : Int) else FR s) _ T'' a b v) ?_
            simp only [All]
            repeat' (first | exact trivial | with_reducible apply And.intro)
            all_goals (first | omega | rfl | (intros; first | assumption | exact True.intro | rfl | exact absurd (show false = true by assumption) Bool.false_ne_true | ((repeat' (first | assumption | apply anda | apply notf)); done)) | (exact hcs) | (intro i hi; simp [All]))
    · have ht1 : (T j != td i) = true := by simp [hT]
      obtain ⟨H', res, hrun, hmv⟩ := ihe (j + 1) tn td FR SN (by omega) hi hbi hsn hz (fun i' j' hij hi' hTT => by
        by_cases e : i' = i ∧ j' = j
        · obtain ⟨rfl, rfl⟩ := e
          exact absurd hTT hT
        · exact hcl i' j' (by omega) hi' hTT)
      refine ⟨H', res, fun c hc => ?_, hmv⟩
      refine piece_ok mixed hc (qF2a g nb N m F T Q td FR SN a b (td i) i j tn) ?_ (hrun c hc)
      simp only [All]
      repeat' (first | exact trivial | with_reducible apply And.intro)
      all_goals (first | omega | rfl | (intros; first | assumption | exact True.intro | rfl | exact absurd (show false = true by assumption) Bool.false_ne_true | ((repeat' (first | assumption | apply anda | apply notf)); done)) | (exact ht1) | (intro i hi; simp [All]))
theorem out_s {N k nb m : Nat} {g : Nat → T_Bar} {F T Q : Nat → Int} {a b : Int} (hp : PInv N k nb m g F T Q) (hk : k ≤ 1048576) (hN : N ≤ 1048576) (hm : m ≤ 1048576) (hnb : nb ≤ 1048576)
    (ha : 0 ≤ a ∧ a < N) (hb : 0 ≤ b ∧ b < N) (hab : a ≠ b) : ∀ d i tn td FR SN, N + 1 ≤ i + d → i ≤ tn → BInv N m g F T Q td (fun s => FR (td s).toNat) a b tn → SeenI N td SN tn → BZero F td b tn → BClo m g T Q td i 0 tn → OutS N k nb m g F T Q a b i tn td FR SN := by
  intro d
  induction d with
  | zero =>
    intro i tn td FR SN hd hi hbi _ _ _
    have := pigeon N tn td hbi.rng hbi.inj
    omega
  | succ d ih =>
    intro i tn td FR SN hd hi hbi hsn hz hcl
    have htn := pigeon N tn td hbi.rng hbi.inj
    by_cases hit : i < tn
    · have hd' : decide ((i : Int) < (tn : Int)) = true := by simp; omega
      obtain ⟨H', res, hrun, hmv⟩ := mid_s hp hk hN hm hnb ha hb hab i (fun tn td FR SN h1 h2 h3 h4 h5 => ih (i + 1) tn td FR SN (by omega) h1 h2 h3 h4 h5) m 0 tn td FR SN (by omega) hit hbi hsn hz hcl
      refine ⟨H', res, fun c hc => ?_, hmv⟩
      refine piece_ok mixed hc (qF1 g nb N m F T Q td FR SN a b i tn) ?_ (hrun c hc)
      simp only [All]
      repeat' (first | exact trivial | with_reducible apply And.intro)
      all_goals (first | omega | rfl | (intros; first | assumption | exact True.intro | rfl | exact absurd (show false = true by assumption) Bool.false_ne_true | ((repeat' (first | assumption | apply anda | apply notf)); done)) | (intro i hi; simp [All]))
    · have hd' : decide ((i : Int) < (tn : Int)) = false := by simp; omega
      obtain rfl : i = tn := by omega
      refine ⟨_, _, fun c hc => ?_, .no (moved_no hp hbi hz hcl)⟩
      refine path_ok mixed Try.func157 hc (qF1e g nb N m F T Q td FR SN a b i i) ?_
      simp only [All]
      repeat' (first | exact trivial | with_reducible apply And.intro)
      all_goals (first | omega | rfl | (intros; first | assumption | exact True.intro | rfl | exact absurd (show false = true by assumption) Bool.false_ne_true | ((repeat' (first | assumption | apply anda | apply notf)); done)) | (intro i hi; simp [All]))
theorem con_l4Find {N k nb m : Nat} {g : Nat → T_Bar} {F T Q : Nat → Int} {a b : Int} (hp : PInv N k nb m g F T Q) (hk : k ≤ 1048576) (hN : N ≤ 1048576) (hm : m ≤ 1048576) (hnb : nb ≤ 1048576)
    (ha : 0 ≤ a ∧ a < N) (hb : 0 ≤ b ∧ b < N) (hab : a ≠ b) : ∃ H' res, Con Try.prog 157 3 (pebR N m F T Q) [grG g nb N, pebO N m 0, .p (.int .i64 a), .p (.int .i64 b)] H' res ∧ FindR N k nb m g F T Q a b H' res := by
  obtain ⟨H', res, hrun, hmv⟩ := out_s hp hk hN hm hnb ha hb hab (N + 1) 0 1 (fun _ => a) (fun _ => -1) (fun s => if s = a.toNat then true else false) (by omega) (by omega)
    ⟨by omega, rfl, fun s hs => ha, fun s s' h1 h2 => by omega, fun s h1 h2 => by omega⟩ (fun x hx => by
      show (if x = a.toNat then true else false) = true ↔ ∃ s, s < 1 ∧ a = x
      by_cases e : x = a.toNat
      · rw [if_pos e]; exact ⟨fun _ => ⟨0, by omega, by omega⟩, fun _ => rfl⟩
      · rw [if_neg e]; exact ⟨(fun h => by cases h), (fun ⟨s, h1, h2⟩ => by omega)⟩) (fun s h1 h2 => by omega) (fun i' j' h => by omega)
  refine ⟨H', res, ?_, hmv⟩
  refine con_start Try.func157 rfl (by kernel_rfl) rfl (fun c hc => ?_)
  have lp0 : ∀ d i, i + d = N → Run Try.prog c 157 [.code (cAt (bodyOf Try.f157) [1, 1, 0, 1, 0, 0]), .inLoop (cAt (bodyOf Try.f157) [1, 1, 0, 1, 0, 0]), .inBlock 0, .code (cAt (bodyOf Try.f157) [1, 1, 1])] (SF0 g nb N m F T Q a b i) (Post c H' res) := by
    intro d
    induction d with
    | zero =>
      intro i hi
      obtain rfl : i = N := by omega
      have hd : decide ((i : Int) < (i : Int)) = false := by simp
      refine piece_ok mixed hc (qF01 g nb i m F T Q a b i) ?_ (hrun c hc)
      simp only [All]
      repeat' (first | exact trivial | with_reducible apply And.intro)
      all_goals (first | omega | rfl | (intros; first | assumption | exact True.intro | rfl | exact absurd (show false = true by assumption) Bool.false_ne_true | ((repeat' (first | assumption | apply anda | apply notf)); done)) | (intro j hj; simp [All]; done) | (intro j hj; simp [hj, All]; done) | (intro j hj; by_cases h : j = a.toNat <;> simp [h, cvtL, cvt, tg, tru, All]))
    | succ d ih =>
      intro i hi
      have hd : decide ((i : Int) < (N : Int)) = true := by simp; omega
      refine piece_ok mixed hc (qF0 g nb N m F T Q a b i) ?_ (ih (i + 1) (by omega))
      simp only [All]
      repeat' (first | exact trivial | with_reducible apply And.intro)
      all_goals (first | omega | rfl | (intros; first | assumption | exact True.intro | rfl | exact absurd (show false = true by assumption) Bool.false_ne_true | ((repeat' (first | assumption | apply anda | apply notf)); done)) | (intro j hj; simp [All]; done) | (intro j hj; by_cases h : j = i <;> simp [h, Nat.lt_succ_iff_lt_or_eq, cvtL, cvt, tg, tru, All]))
  refine piece_ok mixed hc (qFz g nb N m F T Q a b) ?_ (lp0 N 0 (by omega))
  simp only [All]
  repeat' (first | exact trivial | with_reducible apply And.intro)
  all_goals (first | omega | rfl | (intros; first | assumption | exact True.intro | rfl | exact absurd (show false = true by assumption) Bool.false_ne_true | ((repeat' (first | assumption | apply anda | apply notf)); done)) | (intro i hi; simp [All]))
end Go.Proofs.Ytgdbnnmogddkaaa.Mach
namespace Go.Proofs.Ytgdbnnmogddkaaa.Mach
open Go
set_option linter.unusedVariables false
set_option linter.unusedSimpArgs false
def inB (x a b : Int) : Bool := decide (a ≤ x) && decide (x ≤ b)
theorem p36 (x a b : Int) :
    pathOb Try.prog Try.f112 0 [.reg [oT], .reg [oT, oT, oT, oT, oT, oT, oT, oT, oT]] [.code (bodyOf Try.f112)] (start Try.f112 [] 0 [.p (.int .i64 x), .p (.int .i64 a), .p (.int .i64 b)]) [] 1 [] (.p (.bool (inB x a b))) =
    some [(((decide (x ≥ a)) = true) → ((decide (x ≥ a)) = true)),
  (((decide (x ≥ a)) = true) → ((decide (x ≥ a)) = true)),
  (((decide (x ≥ a)) = true) → ((decide (x ≥ a)) = true)),
  ((bif decide (x ≥ a) then decide (x ≤ b) else false) = (inB x a b))] := by kernel_rfl
theorem p37 (x a b : Int) :
    pathOb Try.prog Try.f115 0 [.reg [oT], .reg [oT, oT, oT, oT, oT, oT, oT, oT, oT]] [.code (bodyOf Try.f115)] (start Try.f115 [] 0 [.p (.int .i64 x), .p (.int .i64 a), .p (.int .i64 b)]) [] 1 [] (.p (.bool (inB x a b))) =
    some [(((decide (x ≥ a)) = true) → ((decide (x ≥ a)) = true)),
  (((decide (x ≥ a)) = true) → ((decide (x ≥ a)) = true)),
  (((decide (x ≥ a)) = true) → ((decide (x ≥ a)) = true)),
  ((bif decide (x ≥ a) then decide (x ≤ b) else false) = (inB x a b))] := by kernel_rfl
theorem con_l1In (x a b : Int) : Con Try.prog 112 0 [] [.p (.int .i64 x), .p (.int .i64 a), .p (.int .i64 b)] [] (.p (.bool (inB x a b))) := by
  refine con_start Try.func112 rfl (by kernel_rfl) rfl (fun c hc => ?_)
  refine path_ok mixed Try.func112 hc (p36 x a b) ?_
  simp only [All]
  repeat' (first | exact trivial | with_reducible apply And.intro)
  all_goals (first | omega | rfl | (intros; first | assumption | exact True.intro | rfl | exact absurd (show false = true by assumption) Bool.false_ne_true | ((repeat' (first | assumption | apply anda | apply notf)); done)) | (simp only [inB]; cases decide (a ≤ x) <;> rfl))
theorem con_within (x a b : Int) : Con Try.prog 115 0 [] [.p (.int .i64 x), .p (.int .i64 a), .p (.int .i64 b)] [] (.p (.bool (inB x a b))) := by
  refine con_start Try.func115 rfl (by kernel_rfl) rfl (fun c hc => ?_)
  refine path_ok mixed Try.func115 hc (p37 x a b) ?_
  simp only [All]
  repeat' (first | exact trivial | with_reducible apply And.intro)
  all_goals (first | omega | rfl | (intros; first | assumption | exact True.intro | rfl | exact absurd (show false = true by assumption) Bool.false_ne_true | ((repeat' (first | assumption | apply anda | apply notf)); done)) | (simp only [inB]; cases decide (a ≤ x) <;> rfl))
end Go.Proofs.Ytgdbnnmogddkaaa.Mach
namespace Go.Proofs.Ytgdbnnmogddkaaa.Mach
open Go
set_option linter.unusedVariables false
set_option linter.unusedSimpArgs false
def aft (a b : T_Bar) : Bool := bif decide (a.1 < b.1) then true else bif a.1 == b.1 then decide (a.2.1 ≤ b.2.1) else false
def cmpI (x y : Int) : Int := if x < y then -1 else if x > y then 1 else 0
def cmpB (a b : T_Bar) : Int := if cmpI a.1 b.1 = 0 then cmpI a.2.1 b.2.1 else cmpI a.1 b.1
def badB (N : Int) (g : Nat → T_Bar) (k : Nat) : Bool :=
  bif bif bif decide ((g k).1 < 0) then true else decide ((g k).1 ≥ (g k).2.1) then true else decide ((g k).2.1 ≥ N) then true
    else bif decide ((k : Int) > 0) then !aft (g ((k : Int) - 1).toNat) (g k) else false
def goodB (N : Int) (g : Nat → T_Bar) : Nat → Bool
  | 0 => true
  | k + 1 => goodB N g k && !badB N g k
def isGraphF (v : T_Graph) : Bool := if inB v.1 1 8 = true ∧ v.2.1.1 ≤ 24 then goodB v.1 v.2.1.2 v.2.1.1 else false
def barA (a : T_Bar) : AV := .agg [.p (.int .i64 a.1), .p (.int .i64 a.2.1)]
def graphL (v : T_BarS) : AV := .p (.seq true 2 v.1 (fun i => [.int .i64 (v.2 i).1, .int .i64 (v.2 i).2.1]))
def graphA (v : T_Graph) : AV := .agg [.p (.int .i64 v.1), graphL v.2.1]
def boxG (v : T_Graph) : Ob := ⟨true, 2, 1, fun i => [.p (.int .i64 v.1), graphL v.2.1]⟩
def S48 (v : T_Graph) (k : Nat) : St :=
  ⟨[graphA v, .pt 2 0 0 0, .p .any, .p (.int .i64 k)] ++ List.replicate 55 anyA, [(0, boxG v)], 1⟩
def S51 (v : T_Graph) (k : Nat) : St :=
  ⟨[graphA v, .pt 2 0 0 0] ++ List.replicate 14 anyA ++ [graphL v.2.1, .p (.int .i64 v.2.1.1), .p (.int .i64 k)] ++ List.replicate 37 anyA, [(0, boxG v)], 1⟩
theorem p57 (a b : T_Bar) :
    pathOb Try.prog Try.f113 0 [.reg [oT, oT, oT], .reg [oT, oT, oT, oT, oT, oT, oT, oT, oT, oT, oT, oT, oT, oT, oT, oT, oT, oT, oT, oT]] [.code (bodyOf Try.f113)] (start Try.f113 [] 0 [barA a, barA b]) [] 1 [] (.p (.bool (aft a b))) =
    some [((0 : Nat) < 1),
  ((0 : Nat) < 1),
  (((!decide (a.1 < b.1)) = true) → ((!decide (a.1 < b.1)) = true)),
  (((!decide (a.1 < b.1)) = true) → ((0 : Nat) < 1)),
  (((!decide (a.1 < b.1)) = true) → ((!decide (a.1 < b.1)) = true)),
  (((!decide (a.1 < b.1)) = true) → ((0 : Nat) < 1)),
  (((!decide (a.1 < b.1)) = true) → ((!decide (a.1 < b.1)) = true)),
  (((!decide (a.1 < b.1)) = true) → ((!decide (a.1 < b.1)) = true)),
  (((!decide (a.1 < b.1)) = true) → ((!decide (a.1 < b.1)) = true)),
  (((!decide (a.1 < b.1) && a.1 == b.1) = true) → ((!decide (a.1 < b.1) && a.1 == b.1) = true)),
  (((!decide (a.1 < b.1) && a.1 == b.1) = true) → ((0 : Nat) < 1)),
  (((!decide (a.1 < b.1) && a.1 == b.1) = true) → ((!decide (a.1 < b.1) && a.1 == b.1) = true)),
  (((!decide (a.1 < b.1) && a.1 == b.1) = true) → ((0 : Nat) < 1)),
  (((!decide (a.1 < b.1) && a.1 == b.1) = true) → ((!decide (a.1 < b.1) && a.1 == b.1) = true)),
  (((!decide (a.1 < b.1) && a.1 == b.1) = true) → ((!decide (a.1 < b.1) && a.1 == b.1) = true)),
  (((!decide (a.1 < b.1)) = true) → ((!decide (a.1 < b.1)) = true)),
  (((!decide (a.1 < b.1)) = true) → (((a.1 == b.1) = true) → ((!decide (a.1 < b.1) && a.1 == b.1) = true))),
  (((decide (a.1 < b.1)) = false) → ((!decide (a.1 < b.1)) = true)),
  ((bif decide (a.1 < b.1) then true else bif a.1 == b.1 then decide (a.2.1 ≤ b.2.1) else false) = (aft a b))] := by kernel_rfl
theorem p62a (x y : Int) :
    pathOb Try.prog Try.f117 0 [.reg [oT], .reg [oT, oT, oT, oT], .dec true, .reg [oT]] [.code (bodyOf Try.f117)] (start Try.f117 [] 0 [.p (.int .i64 x), .p (.int .i64 y)]) [] 1 [] (.p (.int .i64 (-1))) =
    some [((decide (x < y)) = true),
  (((-1) : Int) = (-1))] := by kernel_rfl
theorem p62b (x y : Int) :
    pathOb Try.prog Try.f117 0 [.reg [oT], .reg [oT, oT, oT, oT], .dec false, .reg [oT, oT, oT, oT], .dec true, .reg [oT]] [.code (bodyOf Try.f117)] (start Try.f117 [] 0 [.p (.int .i64 x), .p (.int .i64 y)]) [] 1 [] (.p (.int .i64 1)) =
    some [((decide (x < y)) = false),
  ((decide (x > y)) = true),
  ((1 : Int) = 1)] := by kernel_rfl
theorem p62c (x y : Int) :
    pathOb Try.prog Try.f117 0 [.reg [oT], .reg [oT, oT, oT, oT], .dec false, .reg [oT, oT, oT, oT], .dec false, .reg [oT]] [.code (bodyOf Try.f117)] (start Try.f117 [] 0 [.p (.int .i64 x), .p (.int .i64 y)]) [] 1 [] (.p (.int .i64 0)) =
    some [((decide (x < y)) = false),
  ((decide (x > y)) = false),
  ((0 : Int) = 0)] := by kernel_rfl
theorem p59a (a b : T_Bar) :
    pathOb Try.prog Try.f82 0 [.reg [oT, oT, oT], .reg [oT, oT, oT, oT, ⟨true, (some ⟨[], [], 1, [], .p (.int .i64 (cmpI a.1 b.1))⟩), none⟩, oT], .reg [oT, oT], .dec true, .reg [oT, oT]] [.code (bodyOf Try.f82)] (start Try.f82 [] 0 [barA a, barA b]) [] 1 [] (.p (.int .i64 (cmpI a.1 b.1))) =
    some [((0 : Nat) < 1),
  ((0 : Nat) < 1),
  Con Try.prog 117 0 [] [.p (.int .i64 a.1), .p (.int .i64 b.1)] [] (.p (.int .i64 (cmpI a.1 b.1))),
  ((cmpI a.1 b.1 != 0) = true),
  (((cmpI a.1 b.1) : Int) = (cmpI a.1 b.1))] := by kernel_rfl
theorem p59b (a b : T_Bar) :
    pathOb Try.prog Try.f82 0 [.reg [oT, oT, oT], .reg [oT, oT, oT, oT, ⟨true, (some ⟨[], [], 1, [], .p (.int .i64 (cmpI a.1 b.1))⟩), none⟩, oT], .reg [oT, oT], .dec false, .reg [oT, oT, oT, oT, ⟨true, (some ⟨[], [], 1, [], .p (.int .i64 (cmpI a.2.1 b.2.1))⟩), none⟩, oT]] [.code (bodyOf Try.f82)] (start Try.f82 [] 0 [barA a, barA b]) [] 1 [] (.p (.int .i64 (cmpI a.2.1 b.2.1))) =
    some [((0 : Nat) < 1),
  ((0 : Nat) < 1),
  Con Try.prog 117 0 [] [.p (.int .i64 a.1), .p (.int .i64 b.1)] [] (.p (.int .i64 (cmpI a.1 b.1))),
  ((cmpI a.1 b.1 != 0) = false),
  ((0 : Nat) < 1),
  ((0 : Nat) < 1),
  Con Try.prog 117 0 [] [.p (.int .i64 a.2.1), .p (.int .i64 b.2.1)] [] (.p (.int .i64 (cmpI a.2.1 b.2.1))),
  (((cmpI a.2.1 b.2.1) : Int) = (cmpI a.2.1 b.2.1))] := by kernel_rfl
theorem p48z (v : T_Graph) :
    pathOb Try.prog Try.f73 0 [.reg [oT, oT], .reg [oT, oT, ⟨true, (some ⟨[], [], 1, [], .p (.bool (inB v.1 1 8))⟩), none⟩, oT, oT, oT, oT, oT, oT, oT], .dec true, .reg [oT]] [.code (bodyOf Try.f73)] (start Try.f73 [] 0 [graphA v]) [] 1 [] (.p (.bool false)) =
    some [((0 : Nat) < 1),
  Con Try.prog 112 0 [] [.p (.int .i64 v.1), .p (.int .i64 1), .p (.int .i64 8)] [] (.p (.bool (inB v.1 1 8))),
  (((!!inB v.1 1 8) = true) → ((!!inB v.1 1 8) = true)),
  (((!!inB v.1 1 8) = true) → ((0 : Nat) < 1)),
  (((!!inB v.1 1 8) = true) → ((!!inB v.1 1 8) = true)),
  (((!!inB v.1 1 8) = true) → ((!!inB v.1 1 8) = true)),
  (((!inB v.1 1 8) = false) → ((!!inB v.1 1 8) = true)),
  ((bif !inB v.1 1 8 then true else decide ((↑v.2.1.1 : Int) > 24)) = true),
  (false = false)] := by kernel_rfl
theorem p48a (v : T_Graph) :
    pieceOb Try.prog 0 [.reg [oT, oT], .reg [oT, oT, ⟨true, (some ⟨[], [], 1, [], .p (.bool (inB v.1 1 8))⟩), none⟩, oT, oT, oT, oT, oT, oT, oT], .dec false, .reg [oT], .head] [.code (bodyOf Try.f73)] (start Try.f73 [] 0 [graphA v]) [0] 1 (S48 v 0) =
    some ([.code (cAt (bodyOf Try.f73) [1, 1, 0, 1, 0, 0]), .inLoop (cAt (bodyOf Try.f73) [1, 1, 0, 1, 0, 0]), .inBlock 0, .code (cAt (bodyOf Try.f73) [1, 1, 1])], [((0 : Nat) < 1),
  Con Try.prog 112 0 [] [.p (.int .i64 v.1), .p (.int .i64 1), .p (.int .i64 8)] [] (.p (.bool (inB v.1 1 8))),
  (((!!inB v.1 1 8) = true) → ((!!inB v.1 1 8) = true)),
  (((!!inB v.1 1 8) = true) → ((0 : Nat) < 1)),
  (((!!inB v.1 1 8) = true) → ((!!inB v.1 1 8) = true)),
  (((!!inB v.1 1 8) = true) → ((!!inB v.1 1 8) = true)),
  (((!inB v.1 1 8) = false) → ((!!inB v.1 1 8) = true)),
  ((bif !inB v.1 1 8 then true else decide ((↑v.2.1.1 : Int) > 24)) = false),
  ((v.1 : Int) = v.1),
  ((v.2.1.1 : Nat) = v.2.1.1),
  (∀ i : Nat, (((i : Nat) < v.2.1.1) → (([.int .i64 ((v.2.1.2 i).1), .int .i64 ((v.2.1.2 i).2.1)] : List PV) = [.int .i64 ((v.2.1.2 i).1), .int .i64 ((v.2.1.2 i).2.1)]))),
  ((0 : Nat) = 0),
  ((0 : Int) = (↑0 : Int)),
  ((([AV.p (PV.int IntKind.i64 v.1), graphL v.2.1].length) : Nat) = 2),
  ((1 : Nat) ≤ 1),
  ((1 : Nat) ≤ 1),
  ((v.1 : Int) = v.1),
  ((v.2.1.1 : Nat) = v.2.1.1),
  (∀ i : Nat, (((i : Nat) < v.2.1.1) → (([.int .i64 ((v.2.1.2 i).1), .int .i64 ((v.2.1.2 i).2.1)] : List PV) = [.int .i64 ((v.2.1.2 i).1), .int .i64 ((v.2.1.2 i).2.1)])))]) := by kernel_rfl
theorem p48b (v : T_Graph) (k : Nat) :
    pieceOb Try.prog 0 [.reg [oT, oT, oT, oT, oT], .dec true, .reg [oT, oT, oT, oT, oT, oT, oT], .reg [oT, oT, oT, oT, oT, oT, oT, oT, oT, oT, oT, oT, oT, oT, oT, oT, oT, oT, oT, oT, oT, oT, oT, oT, oT, oT, oT, oT, ⟨true, (some ⟨[], [], 1, [], .p (.bool (aft (v.2.1.2 ((k : Int) - 1).toNat) (v.2.1.2 k)))⟩), none⟩, oT, oT, oT], .dec false, .reg [oT, oT, oT], .head] [.code (cAt (bodyOf Try.f73) [1, 1, 0, 1, 0, 0]), .inLoop (cAt (bodyOf Try.f73) [1, 1, 0, 1, 0, 0]), .inBlock 0, .code (cAt (bodyOf Try.f73) [1, 1, 1])] (S48 v k) [0] 1 (S48 v (k + 1)) =
    some ([.code (cAt (bodyOf Try.f73) [1, 1, 0, 1, 0, 0]), .inLoop (cAt (bodyOf Try.f73) [1, 1, 0, 1, 0, 0]), .inBlock 0, .code (cAt (bodyOf Try.f73) [1, 1, 1])], [((0 : Nat) < 1),
  ((decide ((↑k : Int) < (↑v.2.1.1 : Int))) = true),
  ((0 : Nat) < 1),
  ((0 : Int) ≤ (↑k : Int)),
  (((↑k : Int) : Int) < (↑v.2.1.1 : Int)),
  ((0 : Nat) < 1),
  ((true = true) → ((1 : Nat) = 1)),
  ((0 : Nat) < 1),
  (((!decide ((v.2.1.2 (↑k : Int).toNat).1 < 0)) = true) → ((!decide ((v.2.1.2 (↑k : Int).toNat).1 < 0)) = true)),
  (((!decide ((v.2.1.2 (↑k : Int).toNat).1 < 0)) = true) → ((0 : Nat) < 1)),
  (((!decide ((v.2.1.2 (↑k : Int).toNat).1 < 0)) = true) → ((!decide ((v.2.1.2 (↑k : Int).toNat).1 < 0)) = true)),
  (((!decide ((v.2.1.2 (↑k : Int).toNat).1 < 0)) = true) → ((0 : Nat) < 1)),
  (((!decide ((v.2.1.2 (↑k : Int).toNat).1 < 0)) = true) → ((!decide ((v.2.1.2 (↑k : Int).toNat).1 < 0)) = true)),
  (((!decide ((v.2.1.2 (↑k : Int).toNat).1 < 0)) = true) → ((!decide ((v.2.1.2 (↑k : Int).toNat).1 < 0)) = true)),
  (((decide ((v.2.1.2 (↑k : Int).toNat).1 < 0)) = false) → ((!decide ((v.2.1.2 (↑k : Int).toNat).1 < 0)) = true)),
  (((!bif decide ((v.2.1.2 (↑k : Int).toNat).1 < 0) then true else decide ((v.2.1.2 (↑k : Int).toNat).1 ≥ (v.2.1.2 (↑k : Int).toNat).2.1)) = true) → ((!bif decide ((v.2.1.2 (↑k : Int).toNat).1 < 0) then true else decide ((v.2.1.2 (↑k : Int).toNat).1 ≥ (v.2.1.2 (↑k : Int).toNat).2.1)) = true)),
  (((!bif decide ((v.2.1.2 (↑k : Int).toNat).1 < 0) then true else decide ((v.2.1.2 (↑k : Int).toNat).1 ≥ (v.2.1.2 (↑k : Int).toNat).2.1)) = true) → ((0 : Nat) < 1)),
  (((!bif decide ((v.2.1.2 (↑k : Int).toNat).1 < 0) then true else decide ((v.2.1.2 (↑k : Int).toNat).1 ≥ (v.2.1.2 (↑k : Int).toNat).2.1)) = true) → ((!bif decide ((v.2.1.2 (↑k : Int).toNat).1 < 0) then true else decide ((v.2.1.2 (↑k : Int).toNat).1 ≥ (v.2.1.2 (↑k : Int).toNat).2.1)) = true)),
  (((!bif decide ((v.2.1.2 (↑k : Int).toNat).1 < 0) then true else decide ((v.2.1.2 (↑k : Int).toNat).1 ≥ (v.2.1.2 (↑k : Int).toNat).2.1)) = true) → ((0 : Nat) < 1)),
  (((!bif decide ((v.2.1.2 (↑k : Int).toNat).1 < 0) then true else decide ((v.2.1.2 (↑k : Int).toNat).1 ≥ (v.2.1.2 (↑k : Int).toNat).2.1)) = true) → ((!bif decide ((v.2.1.2 (↑k : Int).toNat).1 < 0) then true else decide ((v.2.1.2 (↑k : Int).toNat).1 ≥ (v.2.1.2 (↑k : Int).toNat).2.1)) = true)),
  (((!bif decide ((v.2.1.2 (↑k : Int).toNat).1 < 0) then true else decide ((v.2.1.2 (↑k : Int).toNat).1 ≥ (v.2.1.2 (↑k : Int).toNat).2.1)) = true) → ((!bif decide ((v.2.1.2 (↑k : Int).toNat).1 < 0) then true else decide ((v.2.1.2 (↑k : Int).toNat).1 ≥ (v.2.1.2 (↑k : Int).toNat).2.1)) = true)),
  (((bif decide ((v.2.1.2 (↑k : Int).toNat).1 < 0) then true else decide ((v.2.1.2 (↑k : Int).toNat).1 ≥ (v.2.1.2 (↑k : Int).toNat).2.1)) = false) → ((!bif decide ((v.2.1.2 (↑k : Int).toNat).1 < 0) then true else decide ((v.2.1.2 (↑k : Int).toNat).1 ≥ (v.2.1.2 (↑k : Int).toNat).2.1)) = true)),
  (((!bif bif decide ((v.2.1.2 (↑k : Int).toNat).1 < 0) then true else decide ((v.2.1.2 (↑k : Int).toNat).1 ≥ (v.2.1.2 (↑k : Int).toNat).2.1) then true else decide ((v.2.1.2 (↑k : Int).toNat).2.1 ≥ v.1)) = true) → ((!bif bif decide ((v.2.1.2 (↑k : Int).toNat).1 < 0) then true else decide ((v.2.1.2 (↑k : Int).toNat).1 ≥ (v.2.1.2 (↑k : Int).toNat).2.1) then true else decide ((v.2.1.2 (↑k : Int).toNat).2.1 ≥ v.1)) = true)),
  (((!bif bif decide ((v.2.1.2 (↑k : Int).toNat).1 < 0) then true else decide ((v.2.1.2 (↑k : Int).toNat).1 ≥ (v.2.1.2 (↑k : Int).toNat).2.1) then true else decide ((v.2.1.2 (↑k : Int).toNat).2.1 ≥ v.1)) = true) → ((!bif bif decide ((v.2.1.2 (↑k : Int).toNat).1 < 0) then true else decide ((v.2.1.2 (↑k : Int).toNat).1 ≥ (v.2.1.2 (↑k : Int).toNat).2.1) then true else decide ((v.2.1.2 (↑k : Int).toNat).2.1 ≥ v.1)) = true)),
  ((((!bif bif decide ((v.2.1.2 (↑k : Int).toNat).1 < 0) then true else decide ((v.2.1.2 (↑k : Int).toNat).1 ≥ (v.2.1.2 (↑k : Int).toNat).2.1) then true else decide ((v.2.1.2 (↑k : Int).toNat).2.1 ≥ v.1)) && decide ((↑k : Int) > 0)) = true) → (((!bif bif decide ((v.2.1.2 (↑k : Int).toNat).1 < 0) then true else decide ((v.2.1.2 (↑k : Int).toNat).1 ≥ (v.2.1.2 (↑k : Int).toNat).2.1) then true else decide ((v.2.1.2 (↑k : Int).toNat).2.1 ≥ v.1)) && decide ((↑k : Int) > 0)) = true)),
  ((((!bif bif decide ((v.2.1.2 (↑k : Int).toNat).1 < 0) then true else decide ((v.2.1.2 (↑k : Int).toNat).1 ≥ (v.2.1.2 (↑k : Int).toNat).2.1) then true else decide ((v.2.1.2 (↑k : Int).toNat).2.1 ≥ v.1)) && decide ((↑k : Int) > 0)) = true) → ((0 : Nat) < 1)),
  ((((!bif bif decide ((v.2.1.2 (↑k : Int).toNat).1 < 0) then true else decide ((v.2.1.2 (↑k : Int).toNat).1 ≥ (v.2.1.2 (↑k : Int).toNat).2.1) then true else decide ((v.2.1.2 (↑k : Int).toNat).2.1 ≥ v.1)) && decide ((↑k : Int) > 0)) = true) → (((!bif bif decide ((v.2.1.2 (↑k : Int).toNat).1 < 0) then true else decide ((v.2.1.2 (↑k : Int).toNat).1 ≥ (v.2.1.2 (↑k : Int).toNat).2.1) then true else decide ((v.2.1.2 (↑k : Int).toNat).2.1 ≥ v.1)) && decide ((↑k : Int) > 0)) = true)),
  ((((!bif bif decide ((v.2.1.2 (↑k : Int).toNat).1 < 0) then true else decide ((v.2.1.2 (↑k : Int).toNat).1 ≥ (v.2.1.2 (↑k : Int).toNat).2.1) then true else decide ((v.2.1.2 (↑k : Int).toNat).2.1 ≥ v.1)) && decide ((↑k : Int) > 0)) = true) → (((-9223372036854775808) : Int) ≤ ((↑k : Int) - 1))),
  ((((!bif bif decide ((v.2.1.2 (↑k : Int).toNat).1 < 0) then true else decide ((v.2.1.2 (↑k : Int).toNat).1 ≥ (v.2.1.2 (↑k : Int).toNat).2.1) then true else decide ((v.2.1.2 (↑k : Int).toNat).2.1 ≥ v.1)) && decide ((↑k : Int) > 0)) = true) → ((((↑k : Int) - 1) : Int) ≤ 9223372036854775807)),
  ((((!bif bif decide ((v.2.1.2 (↑k : Int).toNat).1 < 0) then true else decide ((v.2.1.2 (↑k : Int).toNat).1 ≥ (v.2.1.2 (↑k : Int).toNat).2.1) then true else decide ((v.2.1.2 (↑k : Int).toNat).2.1 ≥ v.1)) && decide ((↑k : Int) > 0)) = true) → (((!bif bif decide ((v.2.1.2 (↑k : Int).toNat).1 < 0) then true else decide ((v.2.1.2 (↑k : Int).toNat).1 ≥ (v.2.1.2 (↑k : Int).toNat).2.1) then true else decide ((v.2.1.2 (↑k : Int).toNat).2.1 ≥ v.1)) && decide ((↑k : Int) > 0)) = true)),
  ((((!bif bif decide ((v.2.1.2 (↑k : Int).toNat).1 < 0) then true else decide ((v.2.1.2 (↑k : Int).toNat).1 ≥ (v.2.1.2 (↑k : Int).toNat).2.1) then true else decide ((v.2.1.2 (↑k : Int).toNat).2.1 ≥ v.1)) && decide ((↑k : Int) > 0)) = true) → (((!bif bif decide ((v.2.1.2 (↑k : Int).toNat).1 < 0) then true else decide ((v.2.1.2 (↑k : Int).toNat).1 ≥ (v.2.1.2 (↑k : Int).toNat).2.1) then true else decide ((v.2.1.2 (↑k : Int).toNat).2.1 ≥ v.1)) && decide ((↑k : Int) > 0)) = true)),
  ((((!bif bif decide ((v.2.1.2 (↑k : Int).toNat).1 < 0) then true else decide ((v.2.1.2 (↑k : Int).toNat).1 ≥ (v.2.1.2 (↑k : Int).toNat).2.1) then true else decide ((v.2.1.2 (↑k : Int).toNat).2.1 ≥ v.1)) && decide ((↑k : Int) > 0)) = true) → ((0 : Int) ≤ ((↑k : Int) - 1))),
  ((((!bif bif decide ((v.2.1.2 (↑k : Int).toNat).1 < 0) then true else decide ((v.2.1.2 (↑k : Int).toNat).1 ≥ (v.2.1.2 (↑k : Int).toNat).2.1) then true else decide ((v.2.1.2 (↑k : Int).toNat).2.1 ≥ v.1)) && decide ((↑k : Int) > 0)) = true) → ((((↑k : Int) - 1) : Int) < (↑v.2.1.1 : Int))),
  ((((!bif bif decide ((v.2.1.2 (↑k : Int).toNat).1 < 0) then true else decide ((v.2.1.2 (↑k : Int).toNat).1 ≥ (v.2.1.2 (↑k : Int).toNat).2.1) then true else decide ((v.2.1.2 (↑k : Int).toNat).2.1 ≥ v.1)) && decide ((↑k : Int) > 0)) = true) → (((!bif bif decide ((v.2.1.2 (↑k : Int).toNat).1 < 0) then true else decide ((v.2.1.2 (↑k : Int).toNat).1 ≥ (v.2.1.2 (↑k : Int).toNat).2.1) then true else decide ((v.2.1.2 (↑k : Int).toNat).2.1 ≥ v.1)) && decide ((↑k : Int) > 0)) = true)),
  ((((!bif bif decide ((v.2.1.2 (↑k : Int).toNat).1 < 0) then true else decide ((v.2.1.2 (↑k : Int).toNat).1 ≥ (v.2.1.2 (↑k : Int).toNat).2.1) then true else decide ((v.2.1.2 (↑k : Int).toNat).2.1 ≥ v.1)) && decide ((↑k : Int) > 0)) = true) → ((0 : Nat) < 1)),
  ((((!bif bif decide ((v.2.1.2 (↑k : Int).toNat).1 < 0) then true else decide ((v.2.1.2 (↑k : Int).toNat).1 ≥ (v.2.1.2 (↑k : Int).toNat).2.1) then true else decide ((v.2.1.2 (↑k : Int).toNat).2.1 ≥ v.1)) && decide ((↑k : Int) > 0)) = true) → (((!bif bif decide ((v.2.1.2 (↑k : Int).toNat).1 < 0) then true else decide ((v.2.1.2 (↑k : Int).toNat).1 ≥ (v.2.1.2 (↑k : Int).toNat).2.1) then true else decide ((v.2.1.2 (↑k : Int).toNat).2.1 ≥ v.1)) && decide ((↑k : Int) > 0)) = true)),
  ((((!bif bif decide ((v.2.1.2 (↑k : Int).toNat).1 < 0) then true else decide ((v.2.1.2 (↑k : Int).toNat).1 ≥ (v.2.1.2 (↑k : Int).toNat).2.1) then true else decide ((v.2.1.2 (↑k : Int).toNat).2.1 ≥ v.1)) && decide ((↑k : Int) > 0)) = true) → (((!bif bif decide ((v.2.1.2 (↑k : Int).toNat).1 < 0) then true else decide ((v.2.1.2 (↑k : Int).toNat).1 ≥ (v.2.1.2 (↑k : Int).toNat).2.1) then true else decide ((v.2.1.2 (↑k : Int).toNat).2.1 ≥ v.1)) && decide ((↑k : Int) > 0)) = true)),
  ((((!bif bif decide ((v.2.1.2 (↑k : Int).toNat).1 < 0) then true else decide ((v.2.1.2 (↑k : Int).toNat).1 ≥ (v.2.1.2 (↑k : Int).toNat).2.1) then true else decide ((v.2.1.2 (↑k : Int).toNat).2.1 ≥ v.1)) && decide ((↑k : Int) > 0)) = true) → Con Try.prog 113 0 [] [.agg [.p (.int .i64 ((v.2.1.2 ((↑k : Int) - 1).toNat).1)), .p (.int .i64 ((v.2.1.2 ((↑k : Int) - 1).toNat).2.1))], .agg [.p (.int .i64 ((v.2.1.2 k).1)), .p (.int .i64 ((v.2.1.2 k).2.1))]] [] (.p (.bool (aft (v.2.1.2 ((↑k : Int) - 1).toNat) (v.2.1.2 k))))),
  ((((!bif bif decide ((v.2.1.2 (↑k : Int).toNat).1 < 0) then true else decide ((v.2.1.2 (↑k : Int).toNat).1 ≥ (v.2.1.2 (↑k : Int).toNat).2.1) then true else decide ((v.2.1.2 (↑k : Int).toNat).2.1 ≥ v.1)) && decide ((↑k : Int) > 0)) = true) → (((!bif bif decide ((v.2.1.2 (↑k : Int).toNat).1 < 0) then true else decide ((v.2.1.2 (↑k : Int).toNat).1 ≥ (v.2.1.2 (↑k : Int).toNat).2.1) then true else decide ((v.2.1.2 (↑k : Int).toNat).2.1 ≥ v.1)) && decide ((↑k : Int) > 0)) = true)),
  (((!bif bif decide ((v.2.1.2 (↑k : Int).toNat).1 < 0) then true else decide ((v.2.1.2 (↑k : Int).toNat).1 ≥ (v.2.1.2 (↑k : Int).toNat).2.1) then true else decide ((v.2.1.2 (↑k : Int).toNat).2.1 ≥ v.1)) = true) → ((!bif bif decide ((v.2.1.2 (↑k : Int).toNat).1 < 0) then true else decide ((v.2.1.2 (↑k : Int).toNat).1 ≥ (v.2.1.2 (↑k : Int).toNat).2.1) then true else decide ((v.2.1.2 (↑k : Int).toNat).2.1 ≥ v.1)) = true)),
  (((!bif bif decide ((v.2.1.2 (↑k : Int).toNat).1 < 0) then true else decide ((v.2.1.2 (↑k : Int).toNat).1 ≥ (v.2.1.2 (↑k : Int).toNat).2.1) then true else decide ((v.2.1.2 (↑k : Int).toNat).2.1 ≥ v.1)) = true) → (((decide ((↑k : Int) > 0)) = true) → (((!bif bif decide ((v.2.1.2 (↑k : Int).toNat).1 < 0) then true else decide ((v.2.1.2 (↑k : Int).toNat).1 ≥ (v.2.1.2 (↑k : Int).toNat).2.1) then true else decide ((v.2.1.2 (↑k : Int).toNat).2.1 ≥ v.1)) && decide ((↑k : Int) > 0)) = true))),
  (((bif bif decide ((v.2.1.2 (↑k : Int).toNat).1 < 0) then true else decide ((v.2.1.2 (↑k : Int).toNat).1 ≥ (v.2.1.2 (↑k : Int).toNat).2.1) then true else decide ((v.2.1.2 (↑k : Int).toNat).2.1 ≥ v.1)) = false) → ((!bif bif decide ((v.2.1.2 (↑k : Int).toNat).1 < 0) then true else decide ((v.2.1.2 (↑k : Int).toNat).1 ≥ (v.2.1.2 (↑k : Int).toNat).2.1) then true else decide ((v.2.1.2 (↑k : Int).toNat).2.1 ≥ v.1)) = true)),
  ((bif bif bif decide ((v.2.1.2 (↑k : Int).toNat).1 < 0) then true else decide ((v.2.1.2 (↑k : Int).toNat).1 ≥ (v.2.1.2 (↑k : Int).toNat).2.1) then true else decide ((v.2.1.2 (↑k : Int).toNat).2.1 ≥ v.1) then true else bif decide ((↑k : Int) > 0) then !aft (v.2.1.2 ((↑k : Int) - 1).toNat) (v.2.1.2 k) else false) = false),
  (((-9223372036854775808) : Int) ≤ ((↑k : Int) + 1)),
  ((((↑k : Int) + 1) : Int) ≤ 9223372036854775807),
  ((v.1 : Int) = v.1),
  ((v.2.1.1 : Nat) = v.2.1.1),
  (∀ i : Nat, (((i : Nat) < v.2.1.1) → (([.int .i64 ((v.2.1.2 i).1), .int .i64 ((v.2.1.2 i).2.1)] : List PV) = [.int .i64 ((v.2.1.2 i).1), .int .i64 ((v.2.1.2 i).2.1)]))),
  ((0 : Nat) = 0),
  ((((↑k : Int) + 1) : Int) = (↑(k + 1) : Int)),
  ((2 : Nat) = 2),
  ((1 : Nat) ≤ 1),
  ((1 : Nat) ≤ 1),
  ((v.1 : Int) = v.1),
  ((v.2.1.1 : Nat) = v.2.1.1),
  (∀ i : Nat, (((i : Nat) < v.2.1.1) → (([.int .i64 ((v.2.1.2 i).1), .int .i64 ((v.2.1.2 i).2.1)] : List PV) = [.int .i64 ((v.2.1.2 i).1), .int .i64 ((v.2.1.2 i).2.1)])))]) := by kernel_rfl
theorem p48c (v : T_Graph) (k : Nat) :
    pathOb Try.prog Try.f73 0 [.reg [oT, oT, oT, oT, oT], .dec true, .reg [oT, oT, oT, oT, oT, oT, oT], .reg [oT, oT, oT, oT, oT, oT, oT, oT, oT, oT, oT, oT, oT, oT, oT, oT, oT, oT, oT, oT, oT, oT, oT, oT, oT, oT, oT, oT, ⟨true, (some ⟨[], [], 1, [], .p (.bool (aft (v.2.1.2 ((k : Int) - 1).toNat) (v.2.1.2 k)))⟩), none⟩, oT, oT, oT], .dec true, .reg [oT]] [.code (cAt (bodyOf Try.f73) [1, 1, 0, 1, 0, 0]), .inLoop (cAt (bodyOf Try.f73) [1, 1, 0, 1, 0, 0]), .inBlock 0, .code (cAt (bodyOf Try.f73) [1, 1, 1])] (S48 v k) [] 1 [] (.p (.bool false)) =
    some [((0 : Nat) < 1),
  ((decide ((↑k : Int) < (↑v.2.1.1 : Int))) = true),
  ((0 : Nat) < 1),
  ((0 : Int) ≤ (↑k : Int)),
  (((↑k : Int) : Int) < (↑v.2.1.1 : Int)),
  ((0 : Nat) < 1),
  ((true = true) → ((1 : Nat) = 1)),
  ((0 : Nat) < 1),
  (((!decide ((v.2.1.2 (↑k : Int).toNat).1 < 0)) = true) → ((!decide ((v.2.1.2 (↑k : Int).toNat).1 < 0)) = true)),
  (((!decide ((v.2.1.2 (↑k : Int).toNat).1 < 0)) = true) → ((0 : Nat) < 1)),
  (((!decide ((v.2.1.2 (↑k : Int).toNat).1 < 0)) = true) → ((!decide ((v.2.1.2 (↑k : Int).toNat).1 < 0)) = true)),
  (((!decide ((v.2.1.2 (↑k : Int).toNat).1 < 0)) = true) → ((0 : Nat) < 1)),
  (((!decide ((v.2.1.2 (↑k : Int).toNat).1 < 0)) = true) → ((!decide ((v.2.1.2 (↑k : Int).toNat).1 < 0)) = true)),
  (((!decide ((v.2.1.2 (↑k : Int).toNat).1 < 0)) = true) → ((!decide ((v.2.1.2 (↑k : Int).toNat).1 < 0)) = true)),
  (((decide ((v.2.1.2 (↑k : Int).toNat).1 < 0)) = false) → ((!decide ((v.2.1.2 (↑k : Int).toNat).1 < 0)) = true)),
  (((!bif decide ((v.2.1.2 (↑k : Int).toNat).1 < 0) then true else decide ((v.2.1.2 (↑k : Int).toNat).1 ≥ (v.2.1.2 (↑k : Int).toNat).2.1)) = true) → ((!bif decide ((v.2.1.2 (↑k : Int).toNat).1 < 0) then true else decide ((v.2.1.2 (↑k : Int).toNat).1 ≥ (v.2.1.2 (↑k : Int).toNat).2.1)) = true)),
  (((!bif decide ((v.2.1.2 (↑k : Int).toNat).1 < 0) then true else decide ((v.2.1.2 (↑k : Int).toNat).1 ≥ (v.2.1.2 (↑k : Int).toNat).2.1)) = true) → ((0 : Nat) < 1)),
  (((!bif decide ((v.2.1.2 (↑k : Int).toNat).1 < 0) then true else decide ((v.2.1.2 (↑k : Int).toNat).1 ≥ (v.2.1.2 (↑k : Int).toNat).2.1)) = true) → ((!bif decide ((v.2.1.2 (↑k : Int).toNat).1 < 0) then true else decide ((v.2.1.2 (↑k : Int).toNat).1 ≥ (v.2.1.2 (↑k : Int).toNat).2.1)) = true)),
  (((!bif decide ((v.2.1.2 (↑k : Int).toNat).1 < 0) then true else decide ((v.2.1.2 (↑k : Int).toNat).1 ≥ (v.2.1.2 (↑k : Int).toNat).2.1)) = true) → ((0 : Nat) < 1)),
  (((!bif decide ((v.2.1.2 (↑k : Int).toNat).1 < 0) then true else decide ((v.2.1.2 (↑k : Int).toNat).1 ≥ (v.2.1.2 (↑k : Int).toNat).2.1)) = true) → ((!bif decide ((v.2.1.2 (↑k : Int).toNat).1 < 0) then true else decide ((v.2.1.2 (↑k : Int).toNat).1 ≥ (v.2.1.2 (↑k : Int).toNat).2.1)) = true)),
  (((!bif decide ((v.2.1.2 (↑k : Int).toNat).1 < 0) then true else decide ((v.2.1.2 (↑k : Int).toNat).1 ≥ (v.2.1.2 (↑k : Int).toNat).2.1)) = true) → ((!bif decide ((v.2.1.2 (↑k : Int).toNat).1 < 0) then true else decide ((v.2.1.2 (↑k : Int).toNat).1 ≥ (v.2.1.2 (↑k : Int).toNat).2.1)) = true)),
  (((bif decide ((v.2.1.2 (↑k : Int).toNat).1 < 0) then true else decide ((v.2.1.2 (↑k : Int).toNat).1 ≥ (v.2.1.2 (↑k : Int).toNat).2.1)) = false) → ((!bif decide ((v.2.1.2 (↑k : Int).toNat).1 < 0) then true else decide ((v.2.1.2 (↑k : Int).toNat).1 ≥ (v.2.1.2 (↑k : Int).toNat).2.1)) = true)),
  (((!bif bif decide ((v.2.1.2 (↑k : Int).toNat).1 < 0) then true else decide ((v.2.1.2 (↑k : Int).toNat).1 ≥ (v.2.1.2 (↑k : Int).toNat).2.1) then true else decide ((v.2.1.2 (↑k : Int).toNat).2.1 ≥ v.1)) = true) → ((!bif bif decide ((v.2.1.2 (↑k : Int).toNat).1 < 0) then true else decide ((v.2.1.2 (↑k : Int).toNat).1 ≥ (v.2.1.2 (↑k : Int).toNat).2.1) then true else decide ((v.2.1.2 (↑k : Int).toNat).2.1 ≥ v.1)) = true)),
  (((!bif bif decide ((v.2.1.2 (↑k : Int).toNat).1 < 0) then true else decide ((v.2.1.2 (↑k : Int).toNat).1 ≥ (v.2.1.2 (↑k : Int).toNat).2.1) then true else decide ((v.2.1.2 (↑k : Int).toNat).2.1 ≥ v.1)) = true) → ((!bif bif decide ((v.2.1.2 (↑k : Int).toNat).1 < 0) then true else decide ((v.2.1.2 (↑k : Int).toNat).1 ≥ (v.2.1.2 (↑k : Int).toNat).2.1) then true else decide ((v.2.1.2 (↑k : Int).toNat).2.1 ≥ v.1)) = true)),
  ((((!bif bif decide ((v.2.1.2 (↑k : Int).toNat).1 < 0) then true else decide ((v.2.1.2 (↑k : Int).toNat).1 ≥ (v.2.1.2 (↑k : Int).toNat).2.1) then true else decide ((v.2.1.2 (↑k : Int).toNat).2.1 ≥ v.1)) && decide ((↑k : Int) > 0)) = true) → (((!bif bif decide ((v.2.1.2 (↑k : Int).toNat).1 < 0) then true else decide ((v.2.1.2 (↑k : Int).toNat).1 ≥ (v.2.1.2 (↑k : Int).toNat).2.1) then true else decide ((v.2.1.2 (↑k : Int).toNat).2.1 ≥ v.1)) && decide ((↑k : Int) > 0)) = true)),
  ((((!bif bif decide ((v.2.1.2 (↑k : Int).toNat).1 < 0) then true else decide ((v.2.1.2 (↑k : Int).toNat).1 ≥ (v.2.1.2 (↑k : Int).toNat).2.1) then true else decide ((v.2.1.2 (↑k : Int).toNat).2.1 ≥ v.1)) && decide ((↑k : Int) > 0)) = true) → ((0 : Nat) < 1)),
  ((((!bif bif decide ((v.2.1.2 (↑k : Int).toNat).1 < 0) then true else decide ((v.2.1.2 (↑k : Int).toNat).1 ≥ (v.2.1.2 (↑k : Int).toNat).2.1) then true else decide ((v.2.1.2 (↑k : Int).toNat).2.1 ≥ v.1)) && decide ((↑k : Int) > 0)) = true) → (((!bif bif decide ((v.2.1.2 (↑k : Int).toNat).1 < 0) then true else decide ((v.2.1.2 (↑k : Int).toNat).1 ≥ (v.2.1.2 (↑k : Int).toNat).2.1) then true else decide ((v.2.1.2 (↑k : Int).toNat).2.1 ≥ v.1)) && decide ((↑k : Int) > 0)) = true)),
  ((((!bif bif decide ((v.2.1.2 (↑k : Int).toNat).1 < 0) then true else decide ((v.2.1.2 (↑k : Int).toNat).1 ≥ (v.2.1.2 (↑k : Int).toNat).2.1) then true else decide ((v.2.1.2 (↑k : Int).toNat).2.1 ≥ v.1)) && decide ((↑k : Int) > 0)) = true) → (((-9223372036854775808) : Int) ≤ ((↑k : Int) - 1))),
  ((((!bif bif decide ((v.2.1.2 (↑k : Int).toNat).1 < 0) then true else decide ((v.2.1.2 (↑k : Int).toNat).1 ≥ (v.2.1.2 (↑k : Int).toNat).2.1) then true else decide ((v.2.1.2 (↑k : Int).toNat).2.1 ≥ v.1)) && decide ((↑k : Int) > 0)) = true) → ((((↑k : Int) - 1) : Int) ≤ 9223372036854775807)),
  ((((!bif bif decide ((v.2.1.2 (↑k : Int).toNat).1 < 0) then true else decide ((v.2.1.2 (↑k : Int).toNat).1 ≥ (v.2.1.2 (↑k : Int).toNat).2.1) then true else decide ((v.2.1.2 (↑k : Int).toNat).2.1 ≥ v.1)) && decide ((↑k : Int) > 0)) = true) → (((!bif bif decide ((v.2.1.2 (↑k : Int).toNat).1 < 0) then true else decide ((v.2.1.2 (↑k : Int).toNat).1 ≥ (v.2.1.2 (↑k : Int).toNat).2.1) then true else decide ((v.2.1.2 (↑k : Int).toNat).2.1 ≥ v.1)) && decide ((↑k : Int) > 0)) = true)),
  ((((!bif bif decide ((v.2.1.2 (↑k : Int).toNat).1 < 0) then true else decide ((v.2.1.2 (↑k : Int).toNat).1 ≥ (v.2.1.2 (↑k : Int).toNat).2.1) then true else decide ((v.2.1.2 (↑k : Int).toNat).2.1 ≥ v.1)) && decide ((↑k : Int) > 0)) = true) → (((!bif bif decide ((v.2.1.2 (↑k : Int).toNat).1 < 0) then true else decide ((v.2.1.2 (↑k : Int).toNat).1 ≥ (v.2.1.2 (↑k : Int).toNat).2.1) then true else decide ((v.2.1.2 (↑k : Int).toNat).2.1 ≥ v.1)) && decide ((↑k : Int) > 0)) = true)),
  ((((!bif bif decide ((v.2.1.2 (↑k : Int).toNat).1 < 0) then true else decide ((v.2.1.2 (↑k : Int).toNat).1 ≥ (v.2.1.2 (↑k : Int).toNat).2.1) then true else decide ((v.2.1.2 (↑k : Int).toNat).2.1 ≥ v.1)) && decide ((↑k : Int) > 0)) = true) → ((0 : Int) ≤ ((↑k : Int) - 1))),
  ((((!bif bif decide ((v.2.1.2 (↑k : Int).toNat).1 < 0) then true else decide ((v.2.1.2 (↑k : Int).toNat).1 ≥ (v.2.1.2 (↑k : Int).toNat).2.1) then true else decide ((v.2.1.2 (↑k : Int).toNat).2.1 ≥ v.1)) && decide ((↑k : Int) > 0)) = true) → ((((↑k : Int) - 1) : Int) < (↑v.2.1.1 : Int))),
  ((((!bif bif decide ((v.2.1.2 (↑k : Int).toNat).1 < 0) then true else decide ((v.2.1.2 (↑k : Int).toNat).1 ≥ (v.2.1.2 (↑k : Int).toNat).2.1) then true else decide ((v.2.1.2 (↑k : Int).toNat).2.1 ≥ v.1)) && decide ((↑k : Int) > 0)) = true) → (((!bif bif decide ((v.2.1.2 (↑k : Int).toNat).1 < 0) then true else decide ((v.2.1.2 (↑k : Int).toNat).1 ≥ (v.2.1.2 (↑k : Int).toNat).2.1) then true else decide ((v.2.1.2 (↑k : Int).toNat).2.1 ≥ v.1)) && decide ((↑k : Int) > 0)) = true)),
  ((((!bif bif decide ((v.2.1.2 (↑k : Int).toNat).1 < 0) then true else decide ((v.2.1.2 (↑k : Int).toNat).1 ≥ (v.2.1.2 (↑k : Int).toNat).2.1) then true else decide ((v.2.1.2 (↑k : Int).toNat).2.1 ≥ v.1)) && decide ((↑k : Int) > 0)) = true) → ((0 : Nat) < 1)),
  ((((!bif bif decide ((v.2.1.2 (↑k : Int).toNat).1 < 0) then true else decide ((v.2.1.2 (↑k : Int).toNat).1 ≥ (v.2.1.2 (↑k : Int).toNat).2.1) then true else decide ((v.2.1.2 (↑k : Int).toNat).2.1 ≥ v.1)) && decide ((↑k : Int) > 0)) = true) → (((!bif bif decide ((v.2.1.2 (↑k : Int).toNat).1 < 0) then true else decide ((v.2.1.2 (↑k : Int).toNat).1 ≥ (v.2.1.2 (↑k : Int).toNat).2.1) then true else decide ((v.2.1.2 (↑k : Int).toNat).2.1 ≥ v.1)) && decide ((↑k : Int) > 0)) = true)),
  ((((!bif bif decide ((v.2.1.2 (↑k : Int).toNat).1 < 0) then true else decide ((v.2.1.2 (↑k : Int).toNat).1 ≥ (v.2.1.2 (↑k : Int).toNat).2.1) then true else decide ((v.2.1.2 (↑k : Int).toNat).2.1 ≥ v.1)) && decide ((↑k : Int) > 0)) = true) → (((!bif bif decide ((v.2.1.2 (↑k : Int).toNat).1 < 0) then true else decide ((v.2.1.2 (↑k : Int).toNat).1 ≥ (v.2.1.2 (↑k : Int).toNat).2.1) then true else decide ((v.2.1.2 (↑k : Int).toNat).2.1 ≥ v.1)) && decide ((↑k : Int) > 0)) = true)),
  ((((!bif bif decide ((v.2.1.2 (↑k : Int).toNat).1 < 0) then true else decide ((v.2.1.2 (↑k : Int).toNat).1 ≥ (v.2.1.2 (↑k : Int).toNat).2.1) then true else decide ((v.2.1.2 (↑k : Int).toNat).2.1 ≥ v.1)) && decide ((↑k : Int) > 0)) = true) → Con Try.prog 113 0 [] [.agg [.p (.int .i64 ((v.2.1.2 ((↑k : Int) - 1).toNat).1)), .p (.int .i64 ((v.2.1.2 ((↑k : Int) - 1).toNat).2.1))], .agg [.p (.int .i64 ((v.2.1.2 k).1)), .p (.int .i64 ((v.2.1.2 k).2.1))]] [] (.p (.bool (aft (v.2.1.2 ((↑k : Int) - 1).toNat) (v.2.1.2 k))))),
  ((((!bif bif decide ((v.2.1.2 (↑k : Int).toNat).1 < 0) then true else decide ((v.2.1.2 (↑k : Int).toNat).1 ≥ (v.2.1.2 (↑k : Int).toNat).2.1) then true else decide ((v.2.1.2 (↑k : Int).toNat).2.1 ≥ v.1)) && decide ((↑k : Int) > 0)) = true) → (((!bif bif decide ((v.2.1.2 (↑k : Int).toNat).1 < 0) then true else decide ((v.2.1.2 (↑k : Int).toNat).1 ≥ (v.2.1.2 (↑k : Int).toNat).2.1) then true else decide ((v.2.1.2 (↑k : Int).toNat).2.1 ≥ v.1)) && decide ((↑k : Int) > 0)) = true)),
  (((!bif bif decide ((v.2.1.2 (↑k : Int).toNat).1 < 0) then true else decide ((v.2.1.2 (↑k : Int).toNat).1 ≥ (v.2.1.2 (↑k : Int).toNat).2.1) then true else decide ((v.2.1.2 (↑k : Int).toNat).2.1 ≥ v.1)) = true) → ((!bif bif decide ((v.2.1.2 (↑k : Int).toNat).1 < 0) then true else decide ((v.2.1.2 (↑k : Int).toNat).1 ≥ (v.2.1.2 (↑k : Int).toNat).2.1) then true else decide ((v.2.1.2 (↑k : Int).toNat).2.1 ≥ v.1)) = true)),
  (((!bif bif decide ((v.2.1.2 (↑k : Int).toNat).1 < 0) then true else decide ((v.2.1.2 (↑k : Int).toNat).1 ≥ (v.2.1.2 (↑k : Int).toNat).2.1) then true else decide ((v.2.1.2 (↑k : Int).toNat).2.1 ≥ v.1)) = true) → (((decide ((↑k : Int) > 0)) = true) → (((!bif bif decide ((v.2.1.2 (↑k : Int).toNat).1 < 0) then true else decide ((v.2.1.2 (↑k : Int).toNat).1 ≥ (v.2.1.2 (↑k : Int).toNat).2.1) then true else decide ((v.2.1.2 (↑k : Int).toNat).2.1 ≥ v.1)) && decide ((↑k : Int) > 0)) = true))),
  (((bif bif decide ((v.2.1.2 (↑k : Int).toNat).1 < 0) then true else decide ((v.2.1.2 (↑k : Int).toNat).1 ≥ (v.2.1.2 (↑k : Int).toNat).2.1) then true else decide ((v.2.1.2 (↑k : Int).toNat).2.1 ≥ v.1)) = false) → ((!bif bif decide ((v.2.1.2 (↑k : Int).toNat).1 < 0) then true else decide ((v.2.1.2 (↑k : Int).toNat).1 ≥ (v.2.1.2 (↑k : Int).toNat).2.1) then true else decide ((v.2.1.2 (↑k : Int).toNat).2.1 ≥ v.1)) = true)),
  ((bif bif bif decide ((v.2.1.2 (↑k : Int).toNat).1 < 0) then true else decide ((v.2.1.2 (↑k : Int).toNat).1 ≥ (v.2.1.2 (↑k : Int).toNat).2.1) then true else decide ((v.2.1.2 (↑k : Int).toNat).2.1 ≥ v.1) then true else bif decide ((↑k : Int) > 0) then !aft (v.2.1.2 ((↑k : Int) - 1).toNat) (v.2.1.2 k) else false) = true),
  (false = false)] := by kernel_rfl
theorem p48d (v : T_Graph) (k : Nat) :
    pathOb Try.prog Try.f73 0 [.reg [oT, oT, oT, oT, oT], .dec false, .reg [oT]] [.code (cAt (bodyOf Try.f73) [1, 1, 0, 1, 0, 0]), .inLoop (cAt (bodyOf Try.f73) [1, 1, 0, 1, 0, 0]), .inBlock 0, .code (cAt (bodyOf Try.f73) [1, 1, 1])] (S48 v k) [] 1 [] (.p (.bool true)) =
    some [((0 : Nat) < 1),
  ((decide ((↑k : Int) < (↑v.2.1.1 : Int))) = false),
  (true = true)] := by kernel_rfl
theorem p51z (v : T_Graph) :
    pathOb Try.prog Try.f77 0 [.reg [oT, oT], .reg [oT, oT, ⟨true, (some ⟨[], [], 1, [], .p (.bool (inB v.1 1 8))⟩), none⟩, oT, oT, oT, oT, oT, oT, oT], .dec true, .reg [oT]] [.code (bodyOf Try.f77)] (start Try.f77 [] 0 [graphA v]) [] 1 [] (.p (.bool false)) =
    some [((0 : Nat) < 1),
  Con Try.prog 115 0 [] [.p (.int .i64 v.1), .p (.int .i64 1), .p (.int .i64 8)] [] (.p (.bool (inB v.1 1 8))),
  (((!!inB v.1 1 8) = true) → ((!!inB v.1 1 8) = true)),
  (((!!inB v.1 1 8) = true) → ((0 : Nat) < 1)),
  (((!!inB v.1 1 8) = true) → ((!!inB v.1 1 8) = true)),
  (((!!inB v.1 1 8) = true) → ((!!inB v.1 1 8) = true)),
  (((!inB v.1 1 8) = false) → ((!!inB v.1 1 8) = true)),
  ((bif !inB v.1 1 8 then true else decide ((↑v.2.1.1 : Int) > 24)) = true),
  (false = false)] := by kernel_rfl
theorem p51a (v : T_Graph) :
    pieceOb Try.prog 0 [.reg [oT, oT], .reg [oT, oT, ⟨true, (some ⟨[], [], 1, [], .p (.bool (inB v.1 1 8))⟩), none⟩, oT, oT, oT, oT, oT, oT, oT], .dec false, .reg [oT, oT, oT, oT], .head] [.code (bodyOf Try.f77)] (start Try.f77 [] 0 [graphA v]) [0] 1 (S51 v 0) =
    some ([.code (cAt (bodyOf Try.f77) [1, 1, 0, 1, 0, 0]), .inLoop (cAt (bodyOf Try.f77) [1, 1, 0, 1, 0, 0]), .inBlock 0, .code (cAt (bodyOf Try.f77) [1, 1, 1])], [((0 : Nat) < 1),
  Con Try.prog 115 0 [] [.p (.int .i64 v.1), .p (.int .i64 1), .p (.int .i64 8)] [] (.p (.bool (inB v.1 1 8))),
  (((!!inB v.1 1 8) = true) → ((!!inB v.1 1 8) = true)),
  (((!!inB v.1 1 8) = true) → ((0 : Nat) < 1)),
  (((!!inB v.1 1 8) = true) → ((!!inB v.1 1 8) = true)),
  (((!!inB v.1 1 8) = true) → ((!!inB v.1 1 8) = true)),
  (((!inB v.1 1 8) = false) → ((!!inB v.1 1 8) = true)),
  ((bif !inB v.1 1 8 then true else decide ((↑v.2.1.1 : Int) > 24)) = false),
  ((0 : Nat) < 1),
  ((v.1 : Int) = v.1),
  ((v.2.1.1 : Nat) = v.2.1.1),
  (∀ i : Nat, (((i : Nat) < v.2.1.1) → (([.int .i64 ((v.2.1.2 i).1), .int .i64 ((v.2.1.2 i).2.1)] : List PV) = [.int .i64 ((v.2.1.2 i).1), .int .i64 ((v.2.1.2 i).2.1)]))),
  ((0 : Nat) = 0),
  ((v.2.1.1 : Nat) = v.2.1.1),
  (∀ i : Nat, (((i : Nat) < v.2.1.1) → (([.int .i64 ((v.2.1.2 i).1), .int .i64 ((v.2.1.2 i).2.1)] : List PV) = [.int .i64 ((v.2.1.2 i).1), .int .i64 ((v.2.1.2 i).2.1)]))),
  (((↑v.2.1.1 : Int) : Int) = (↑v.2.1.1 : Int)),
  ((0 : Int) = (↑0 : Int)),
  ((([AV.p (PV.int IntKind.i64 v.1), graphL v.2.1].length) : Nat) = 2),
  ((1 : Nat) ≤ 1),
  ((1 : Nat) ≤ 1),
  ((v.1 : Int) = v.1),
  ((v.2.1.1 : Nat) = v.2.1.1),
  (∀ i : Nat, (((i : Nat) < v.2.1.1) → (([.int .i64 ((v.2.1.2 i).1), .int .i64 ((v.2.1.2 i).2.1)] : List PV) = [.int .i64 ((v.2.1.2 i).1), .int .i64 ((v.2.1.2 i).2.1)])))]) := by kernel_rfl
theorem p51b (v : T_Graph) (k : Nat) :
    pieceOb Try.prog 0 [.reg [oT], .dec true, .reg [oT, oT, oT, oT, oT, oT], .reg [oT, oT, oT, oT, oT, oT, oT, oT, oT, oT, oT, oT, oT, oT, oT, oT, oT, oT, oT, oT, oT, oT, oT, oT, oT, oT, oT, oT, ⟨true, (some ⟨[], [], 1, [], .p (.int .i64 (cmpB (v.2.1.2 ((k : Int) - 1).toNat) (v.2.1.2 k)))⟩), none⟩, oT, oT, oT], .dec false, .reg [oT, oT], .head] [.code (cAt (bodyOf Try.f77) [1, 1, 0, 1, 0, 0]), .inLoop (cAt (bodyOf Try.f77) [1, 1, 0, 1, 0, 0]), .inBlock 0, .code (cAt (bodyOf Try.f77) [1, 1, 1])] (S51 v k) [0] 1 (S51 v (k + 1)) =
    some ([.code (cAt (bodyOf Try.f77) [1, 1, 0, 1, 0, 0]), .inLoop (cAt (bodyOf Try.f77) [1, 1, 0, 1, 0, 0]), .inBlock 0, .code (cAt (bodyOf Try.f77) [1, 1, 1])], [((decide ((↑k : Int) < (↑v.2.1.1 : Int))) = true),
  ((0 : Int) ≤ (↑k : Int)),
  (((↑k : Int) : Int) < (↑v.2.1.1 : Int)),
  ((0 : Nat) < 1),
  ((true = true) → ((1 : Nat) = 1)),
  ((0 : Nat) < 1),
  (((!decide ((v.2.1.2 (↑k : Int).toNat).1 < 0)) = true) → ((!decide ((v.2.1.2 (↑k : Int).toNat).1 < 0)) = true)),
  (((!decide ((v.2.1.2 (↑k : Int).toNat).1 < 0)) = true) → ((0 : Nat) < 1)),
  (((!decide ((v.2.1.2 (↑k : Int).toNat).1 < 0)) = true) → ((!decide ((v.2.1.2 (↑k : Int).toNat).1 < 0)) = true)),
  (((!decide ((v.2.1.2 (↑k : Int).toNat).1 < 0)) = true) → ((0 : Nat) < 1)),
  (((!decide ((v.2.1.2 (↑k : Int).toNat).1 < 0)) = true) → ((!decide ((v.2.1.2 (↑k : Int).toNat).1 < 0)) = true)),
  (((!decide ((v.2.1.2 (↑k : Int).toNat).1 < 0)) = true) → ((!decide ((v.2.1.2 (↑k : Int).toNat).1 < 0)) = true)),
  (((decide ((v.2.1.2 (↑k : Int).toNat).1 < 0)) = false) → ((!decide ((v.2.1.2 (↑k : Int).toNat).1 < 0)) = true)),
  (((!bif decide ((v.2.1.2 (↑k : Int).toNat).1 < 0) then true else decide ((v.2.1.2 (↑k : Int).toNat).1 ≥ (v.2.1.2 (↑k : Int).toNat).2.1)) = true) → ((!bif decide ((v.2.1.2 (↑k : Int).toNat).1 < 0) then true else decide ((v.2.1.2 (↑k : Int).toNat).1 ≥ (v.2.1.2 (↑k : Int).toNat).2.1)) = true)),
  (((!bif decide ((v.2.1.2 (↑k : Int).toNat).1 < 0) then true else decide ((v.2.1.2 (↑k : Int).toNat).1 ≥ (v.2.1.2 (↑k : Int).toNat).2.1)) = true) → ((0 : Nat) < 1)),
  (((!bif decide ((v.2.1.2 (↑k : Int).toNat).1 < 0) then true else decide ((v.2.1.2 (↑k : Int).toNat).1 ≥ (v.2.1.2 (↑k : Int).toNat).2.1)) = true) → ((!bif decide ((v.2.1.2 (↑k : Int).toNat).1 < 0) then true else decide ((v.2.1.2 (↑k : Int).toNat).1 ≥ (v.2.1.2 (↑k : Int).toNat).2.1)) = true)),
  (((!bif decide ((v.2.1.2 (↑k : Int).toNat).1 < 0) then true else decide ((v.2.1.2 (↑k : Int).toNat).1 ≥ (v.2.1.2 (↑k : Int).toNat).2.1)) = true) → ((0 : Nat) < 1)),
  (((!bif decide ((v.2.1.2 (↑k : Int).toNat).1 < 0) then true else decide ((v.2.1.2 (↑k : Int).toNat).1 ≥ (v.2.1.2 (↑k : Int).toNat).2.1)) = true) → ((!bif decide ((v.2.1.2 (↑k : Int).toNat).1 < 0) then true else decide ((v.2.1.2 (↑k : Int).toNat).1 ≥ (v.2.1.2 (↑k : Int).toNat).2.1)) = true)),
  (((!bif decide ((v.2.1.2 (↑k : Int).toNat).1 < 0) then true else decide ((v.2.1.2 (↑k : Int).toNat).1 ≥ (v.2.1.2 (↑k : Int).toNat).2.1)) = true) → ((!bif decide ((v.2.1.2 (↑k : Int).toNat).1 < 0) then true else decide ((v.2.1.2 (↑k : Int).toNat).1 ≥ (v.2.1.2 (↑k : Int).toNat).2.1)) = true)),
  (((bif decide ((v.2.1.2 (↑k : Int).toNat).1 < 0) then true else decide ((v.2.1.2 (↑k : Int).toNat).1 ≥ (v.2.1.2 (↑k : Int).toNat).2.1)) = false) → ((!bif decide ((v.2.1.2 (↑k : Int).toNat).1 < 0) then true else decide ((v.2.1.2 (↑k : Int).toNat).1 ≥ (v.2.1.2 (↑k : Int).toNat).2.1)) = true)),
  (((!bif bif decide ((v.2.1.2 (↑k : Int).toNat).1 < 0) then true else decide ((v.2.1.2 (↑k : Int).toNat).1 ≥ (v.2.1.2 (↑k : Int).toNat).2.1) then true else decide ((v.2.1.2 (↑k : Int).toNat).2.1 ≥ v.1)) = true) → ((!bif bif decide ((v.2.1.2 (↑k : Int).toNat).1 < 0) then true else decide ((v.2.1.2 (↑k : Int).toNat).1 ≥ (v.2.1.2 (↑k : Int).toNat).2.1) then true else decide ((v.2.1.2 (↑k : Int).toNat).2.1 ≥ v.1)) = true)),
  (((!bif bif decide ((v.2.1.2 (↑k : Int).toNat).1 < 0) then true else decide ((v.2.1.2 (↑k : Int).toNat).1 ≥ (v.2.1.2 (↑k : Int).toNat).2.1) then true else decide ((v.2.1.2 (↑k : Int).toNat).2.1 ≥ v.1)) = true) → ((!bif bif decide ((v.2.1.2 (↑k : Int).toNat).1 < 0) then true else decide ((v.2.1.2 (↑k : Int).toNat).1 ≥ (v.2.1.2 (↑k : Int).toNat).2.1) then true else decide ((v.2.1.2 (↑k : Int).toNat).2.1 ≥ v.1)) = true)),
  ((((!bif bif decide ((v.2.1.2 (↑k : Int).toNat).1 < 0) then true else decide ((v.2.1.2 (↑k : Int).toNat).1 ≥ (v.2.1.2 (↑k : Int).toNat).2.1) then true else decide ((v.2.1.2 (↑k : Int).toNat).2.1 ≥ v.1)) && decide ((↑k : Int) > 0)) = true) → (((!bif bif decide ((v.2.1.2 (↑k : Int).toNat).1 < 0) then true else decide ((v.2.1.2 (↑k : Int).toNat).1 ≥ (v.2.1.2 (↑k : Int).toNat).2.1) then true else decide ((v.2.1.2 (↑k : Int).toNat).2.1 ≥ v.1)) && decide ((↑k : Int) > 0)) = true)),
  ((((!bif bif decide ((v.2.1.2 (↑k : Int).toNat).1 < 0) then true else decide ((v.2.1.2 (↑k : Int).toNat).1 ≥ (v.2.1.2 (↑k : Int).toNat).2.1) then true else decide ((v.2.1.2 (↑k : Int).toNat).2.1 ≥ v.1)) && decide ((↑k : Int) > 0)) = true) → ((0 : Nat) < 1)),
  ((((!bif bif decide ((v.2.1.2 (↑k : Int).toNat).1 < 0) then true else decide ((v.2.1.2 (↑k : Int).toNat).1 ≥ (v.2.1.2 (↑k : Int).toNat).2.1) then true else decide ((v.2.1.2 (↑k : Int).toNat).2.1 ≥ v.1)) && decide ((↑k : Int) > 0)) = true) → (((!bif bif decide ((v.2.1.2 (↑k : Int).toNat).1 < 0) then true else decide ((v.2.1.2 (↑k : Int).toNat).1 ≥ (v.2.1.2 (↑k : Int).toNat).2.1) then true else decide ((v.2.1.2 (↑k : Int).toNat).2.1 ≥ v.1)) && decide ((↑k : Int) > 0)) = true)),
  ((((!bif bif decide ((v.2.1.2 (↑k : Int).toNat).1 < 0) then true else decide ((v.2.1.2 (↑k : Int).toNat).1 ≥ (v.2.1.2 (↑k : Int).toNat).2.1) then true else decide ((v.2.1.2 (↑k : Int).toNat).2.1 ≥ v.1)) && decide ((↑k : Int) > 0)) = true) → (((-9223372036854775808) : Int) ≤ ((↑k : Int) - 1))),
  ((((!bif bif decide ((v.2.1.2 (↑k : Int).toNat).1 < 0) then true else decide ((v.2.1.2 (↑k : Int).toNat).1 ≥ (v.2.1.2 (↑k : Int).toNat).2.1) then true else decide ((v.2.1.2 (↑k : Int).toNat).2.1 ≥ v.1)) && decide ((↑k : Int) > 0)) = true) → ((((↑k : Int) - 1) : Int) ≤ 9223372036854775807)),
  ((((!bif bif decide ((v.2.1.2 (↑k : Int).toNat).1 < 0) then true else decide ((v.2.1.2 (↑k : Int).toNat).1 ≥ (v.2.1.2 (↑k : Int).toNat).2.1) then true else decide ((v.2.1.2 (↑k : Int).toNat).2.1 ≥ v.1)) && decide ((↑k : Int) > 0)) = true) → (((!bif bif decide ((v.2.1.2 (↑k : Int).toNat).1 < 0) then true else decide ((v.2.1.2 (↑k : Int).toNat).1 ≥ (v.2.1.2 (↑k : Int).toNat).2.1) then true else decide ((v.2.1.2 (↑k : Int).toNat).2.1 ≥ v.1)) && decide ((↑k : Int) > 0)) = true)),
  ((((!bif bif decide ((v.2.1.2 (↑k : Int).toNat).1 < 0) then true else decide ((v.2.1.2 (↑k : Int).toNat).1 ≥ (v.2.1.2 (↑k : Int).toNat).2.1) then true else decide ((v.2.1.2 (↑k : Int).toNat).2.1 ≥ v.1)) && decide ((↑k : Int) > 0)) = true) → (((!bif bif decide ((v.2.1.2 (↑k : Int).toNat).1 < 0) then true else decide ((v.2.1.2 (↑k : Int).toNat).1 ≥ (v.2.1.2 (↑k : Int).toNat).2.1) then true else decide ((v.2.1.2 (↑k : Int).toNat).2.1 ≥ v.1)) && decide ((↑k : Int) > 0)) = true)),
  ((((!bif bif decide ((v.2.1.2 (↑k : Int).toNat).1 < 0) then true else decide ((v.2.1.2 (↑k : Int).toNat).1 ≥ (v.2.1.2 (↑k : Int).toNat).2.1) then true else decide ((v.2.1.2 (↑k : Int).toNat).2.1 ≥ v.1)) && decide ((↑k : Int) > 0)) = true) → ((0 : Int) ≤ ((↑k : Int) - 1))),
  ((((!bif bif decide ((v.2.1.2 (↑k : Int).toNat).1 < 0) then true else decide ((v.2.1.2 (↑k : Int).toNat).1 ≥ (v.2.1.2 (↑k : Int).toNat).2.1) then true else decide ((v.2.1.2 (↑k : Int).toNat).2.1 ≥ v.1)) && decide ((↑k : Int) > 0)) = true) → ((((↑k : Int) - 1) : Int) < (↑v.2.1.1 : Int))),
  ((((!bif bif decide ((v.2.1.2 (↑k : Int).toNat).1 < 0) then true else decide ((v.2.1.2 (↑k : Int).toNat).1 ≥ (v.2.1.2 (↑k : Int).toNat).2.1) then true else decide ((v.2.1.2 (↑k : Int).toNat).2.1 ≥ v.1)) && decide ((↑k : Int) > 0)) = true) → (((!bif bif decide ((v.2.1.2 (↑k : Int).toNat).1 < 0) then true else decide ((v.2.1.2 (↑k : Int).toNat).1 ≥ (v.2.1.2 (↑k : Int).toNat).2.1) then true else decide ((v.2.1.2 (↑k : Int).toNat).2.1 ≥ v.1)) && decide ((↑k : Int) > 0)) = true)),
  ((((!bif bif decide ((v.2.1.2 (↑k : Int).toNat).1 < 0) then true else decide ((v.2.1.2 (↑k : Int).toNat).1 ≥ (v.2.1.2 (↑k : Int).toNat).2.1) then true else decide ((v.2.1.2 (↑k : Int).toNat).2.1 ≥ v.1)) && decide ((↑k : Int) > 0)) = true) → ((0 : Nat) < 1)),
  ((((!bif bif decide ((v.2.1.2 (↑k : Int).toNat).1 < 0) then true else decide ((v.2.1.2 (↑k : Int).toNat).1 ≥ (v.2.1.2 (↑k : Int).toNat).2.1) then true else decide ((v.2.1.2 (↑k : Int).toNat).2.1 ≥ v.1)) && decide ((↑k : Int) > 0)) = true) → (((!bif bif decide ((v.2.1.2 (↑k : Int).toNat).1 < 0) then true else decide ((v.2.1.2 (↑k : Int).toNat).1 ≥ (v.2.1.2 (↑k : Int).toNat).2.1) then true else decide ((v.2.1.2 (↑k : Int).toNat).2.1 ≥ v.1)) && decide ((↑k : Int) > 0)) = true)),
  ((((!bif bif decide ((v.2.1.2 (↑k : Int).toNat).1 < 0) then true else decide ((v.2.1.2 (↑k : Int).toNat).1 ≥ (v.2.1.2 (↑k : Int).toNat).2.1) then true else decide ((v.2.1.2 (↑k : Int).toNat).2.1 ≥ v.1)) && decide ((↑k : Int) > 0)) = true) → (((!bif bif decide ((v.2.1.2 (↑k : Int).toNat).1 < 0) then true else decide ((v.2.1.2 (↑k : Int).toNat).1 ≥ (v.2.1.2 (↑k : Int).toNat).2.1) then true else decide ((v.2.1.2 (↑k : Int).toNat).2.1 ≥ v.1)) && decide ((↑k : Int) > 0)) = true)),
  ((((!bif bif decide ((v.2.1.2 (↑k : Int).toNat).1 < 0) then true else decide ((v.2.1.2 (↑k : Int).toNat).1 ≥ (v.2.1.2 (↑k : Int).toNat).2.1) then true else decide ((v.2.1.2 (↑k : Int).toNat).2.1 ≥ v.1)) && decide ((↑k : Int) > 0)) = true) → Con Try.prog 82 0 [] [.agg [.p (.int .i64 ((v.2.1.2 ((↑k : Int) - 1).toNat).1)), .p (.int .i64 ((v.2.1.2 ((↑k : Int) - 1).toNat).2.1))], .agg [.p (.int .i64 ((v.2.1.2 k).1)), .p (.int .i64 ((v.2.1.2 k).2.1))]] [] (.p (.int .i64 (cmpB (v.2.1.2 ((↑k : Int) - 1).toNat) (v.2.1.2 k))))),
  ((((!bif bif decide ((v.2.1.2 (↑k : Int).toNat).1 < 0) then true else decide ((v.2.1.2 (↑k : Int).toNat).1 ≥ (v.2.1.2 (↑k : Int).toNat).2.1) then true else decide ((v.2.1.2 (↑k : Int).toNat).2.1 ≥ v.1)) && decide ((↑k : Int) > 0)) = true) → (((!bif bif decide ((v.2.1.2 (↑k : Int).toNat).1 < 0) then true else decide ((v.2.1.2 (↑k : Int).toNat).1 ≥ (v.2.1.2 (↑k : Int).toNat).2.1) then true else decide ((v.2.1.2 (↑k : Int).toNat).2.1 ≥ v.1)) && decide ((↑k : Int) > 0)) = true)),
  (((!bif bif decide ((v.2.1.2 (↑k : Int).toNat).1 < 0) then true else decide ((v.2.1.2 (↑k : Int).toNat).1 ≥ (v.2.1.2 (↑k : Int).toNat).2.1) then true else decide ((v.2.1.2 (↑k : Int).toNat).2.1 ≥ v.1)) = true) → ((!bif bif decide ((v.2.1.2 (↑k : Int).toNat).1 < 0) then true else decide ((v.2.1.2 (↑k : Int).toNat).1 ≥ (v.2.1.2 (↑k : Int).toNat).2.1) then true else decide ((v.2.1.2 (↑k : Int).toNat).2.1 ≥ v.1)) = true)),
  (((!bif bif decide ((v.2.1.2 (↑k : Int).toNat).1 < 0) then true else decide ((v.2.1.2 (↑k : Int).toNat).1 ≥ (v.2.1.2 (↑k : Int).toNat).2.1) then true else decide ((v.2.1.2 (↑k : Int).toNat).2.1 ≥ v.1)) = true) → (((decide ((↑k : Int) > 0)) = true) → (((!bif bif decide ((v.2.1.2 (↑k : Int).toNat).1 < 0) then true else decide ((v.2.1.2 (↑k : Int).toNat).1 ≥ (v.2.1.2 (↑k : Int).toNat).2.1) then true else decide ((v.2.1.2 (↑k : Int).toNat).2.1 ≥ v.1)) && decide ((↑k : Int) > 0)) = true))),
  (((bif bif decide ((v.2.1.2 (↑k : Int).toNat).1 < 0) then true else decide ((v.2.1.2 (↑k : Int).toNat).1 ≥ (v.2.1.2 (↑k : Int).toNat).2.1) then true else decide ((v.2.1.2 (↑k : Int).toNat).2.1 ≥ v.1)) = false) → ((!bif bif decide ((v.2.1.2 (↑k : Int).toNat).1 < 0) then true else decide ((v.2.1.2 (↑k : Int).toNat).1 ≥ (v.2.1.2 (↑k : Int).toNat).2.1) then true else decide ((v.2.1.2 (↑k : Int).toNat).2.1 ≥ v.1)) = true)),
  ((bif bif bif decide ((v.2.1.2 (↑k : Int).toNat).1 < 0) then true else decide ((v.2.1.2 (↑k : Int).toNat).1 ≥ (v.2.1.2 (↑k : Int).toNat).2.1) then true else decide ((v.2.1.2 (↑k : Int).toNat).2.1 ≥ v.1) then true else bif decide ((↑k : Int) > 0) then decide (cmpB (v.2.1.2 ((↑k : Int) - 1).toNat) (v.2.1.2 k) > 0) else false) = false),
  (((-9223372036854775808) : Int) ≤ ((↑k : Int) + 1)),
  ((((↑k : Int) + 1) : Int) ≤ 9223372036854775807),
  ((v.1 : Int) = v.1),
  ((v.2.1.1 : Nat) = v.2.1.1),
  (∀ i : Nat, (((i : Nat) < v.2.1.1) → (([.int .i64 ((v.2.1.2 i).1), .int .i64 ((v.2.1.2 i).2.1)] : List PV) = [.int .i64 ((v.2.1.2 i).1), .int .i64 ((v.2.1.2 i).2.1)]))),
  ((0 : Nat) = 0),
  ((v.2.1.1 : Nat) = v.2.1.1),
  (∀ i : Nat, (((i : Nat) < v.2.1.1) → (([.int .i64 ((v.2.1.2 i).1), .int .i64 ((v.2.1.2 i).2.1)] : List PV) = [.int .i64 ((v.2.1.2 i).1), .int .i64 ((v.2.1.2 i).2.1)]))),
  (((↑v.2.1.1 : Int) : Int) = (↑v.2.1.1 : Int)),
  ((((↑k : Int) + 1) : Int) = (↑(k + 1) : Int)),
  ((2 : Nat) = 2),
  ((1 : Nat) ≤ 1),
  ((1 : Nat) ≤ 1),
  ((v.1 : Int) = v.1),
  ((v.2.1.1 : Nat) = v.2.1.1),
  (∀ i : Nat, (((i : Nat) < v.2.1.1) → (([.int .i64 ((v.2.1.2 i).1), .int .i64 ((v.2.1.2 i).2.1)] : List PV) = [.int .i64 ((v.2.1.2 i).1), .int .i64 ((v.2.1.2 i).2.1)])))]) := by kernel_rfl
theorem p51c (v : T_Graph) (k : Nat) :
    pathOb Try.prog Try.f77 0 [.reg [oT], .dec true, .reg [oT, oT, oT, oT, oT, oT], .reg [oT, oT, oT, oT, oT, oT, oT, oT, oT, oT, oT, oT, oT, oT, oT, oT, oT, oT, oT, oT, oT, oT, oT, oT, oT, oT, oT, oT, ⟨true, (some ⟨[], [], 1, [], .p (.int .i64 (cmpB (v.2.1.2 ((k : Int) - 1).toNat) (v.2.1.2 k)))⟩), none⟩, oT, oT, oT], .dec true, .reg [oT]] [.code (cAt (bodyOf Try.f77) [1, 1, 0, 1, 0, 0]), .inLoop (cAt (bodyOf Try.f77) [1, 1, 0, 1, 0, 0]), .inBlock 0, .code (cAt (bodyOf Try.f77) [1, 1, 1])] (S51 v k) [] 1 [] (.p (.bool false)) =
    some [((decide ((↑k : Int) < (↑v.2.1.1 : Int))) = true),
  ((0 : Int) ≤ (↑k : Int)),
  (((↑k : Int) : Int) < (↑v.2.1.1 : Int)),
  ((0 : Nat) < 1),
  ((true = true) → ((1 : Nat) = 1)),
  ((0 : Nat) < 1),
  (((!decide ((v.2.1.2 (↑k : Int).toNat).1 < 0)) = true) → ((!decide ((v.2.1.2 (↑k : Int).toNat).1 < 0)) = true)),
  (((!decide ((v.2.1.2 (↑k : Int).toNat).1 < 0)) = true) → ((0 : Nat) < 1)),
  (((!decide ((v.2.1.2 (↑k : Int).toNat).1 < 0)) = true) → ((!decide ((v.2.1.2 (↑k : Int).toNat).1 < 0)) = true)),
  (((!decide ((v.2.1.2 (↑k : Int).toNat).1 < 0)) = true) → ((0 : Nat) < 1)),
  (((!decide ((v.2.1.2 (↑k : Int).toNat).1 < 0)) = true) → ((!decide ((v.2.1.2 (↑k : Int).toNat).1 < 0)) = true)),
  (((!decide ((v.2.1.2 (↑k : Int).toNat).1 < 0)) = true) → ((!decide ((v.2.1.2 (↑k : Int).toNat).1 < 0)) = true)),
  (((decide ((v.2.1.2 (↑k : Int).toNat).1 < 0)) = false) → ((!decide ((v.2.1.2 (↑k : Int).toNat).1 < 0)) = true)),
  (((!bif decide ((v.2.1.2 (↑k : Int).toNat).1 < 0) then true else decide ((v.2.1.2 (↑k : Int).toNat).1 ≥ (v.2.1.2 (↑k : Int).toNat).2.1)) = true) → ((!bif decide ((v.2.1.2 (↑k : Int).toNat).1 < 0) then true else decide ((v.2.1.2 (↑k : Int).toNat).1 ≥ (v.2.1.2 (↑k : Int).toNat).2.1)) = true)),
  (((!bif decide ((v.2.1.2 (↑k : Int).toNat).1 < 0) then true else decide ((v.2.1.2 (↑k : Int).toNat).1 ≥ (v.2.1.2 (↑k : Int).toNat).2.1)) = true) → ((0 : Nat) < 1)),
  (((!bif decide ((v.2.1.2 (↑k : Int).toNat).1 < 0) then true else decide ((v.2.1.2 (↑k : Int).toNat).1 ≥ (v.2.1.2 (↑k : Int).toNat).2.1)) = true) → ((!bif decide ((v.2.1.2 (↑k : Int).toNat).1 < 0) then true else decide ((v.2.1.2 (↑k : Int).toNat).1 ≥ (v.2.1.2 (↑k : Int).toNat).2.1)) = true)),
  (((!bif decide ((v.2.1.2 (↑k : Int).toNat).1 < 0) then true else decide ((v.2.1.2 (↑k : Int).toNat).1 ≥ (v.2.1.2 (↑k : Int).toNat).2.1)) = true) → ((0 : Nat) < 1)),
  (((!bif decide ((v.2.1.2 (↑k : Int).toNat).1 < 0) then true else decide ((v.2.1.2 (↑k : Int).toNat).1 ≥ (v.2.1.2 (↑k : Int).toNat).2.1)) = true) → ((!bif decide ((v.2.1.2 (↑k : Int).toNat).1 < 0) then true else decide ((v.2.1.2 (↑k : Int).toNat).1 ≥ (v.2.1.2 (↑k : Int).toNat).2.1)) = true)),
  (((!bif decide ((v.2.1.2 (↑k : Int).toNat).1 < 0) then true else decide ((v.2.1.2 (↑k : Int).toNat).1 ≥ (v.2.1.2 (↑k : Int).toNat).2.1)) = true) → ((!bif decide ((v.2.1.2 (↑k : Int).toNat).1 < 0) then true else decide ((v.2.1.2 (↑k : Int).toNat).1 ≥ (v.2.1.2 (↑k : Int).toNat).2.1)) = true)),
  (((bif decide ((v.2.1.2 (↑k : Int).toNat).1 < 0) then true else decide ((v.2.1.2 (↑k : Int).toNat).1 ≥ (v.2.1.2 (↑k : Int).toNat).2.1)) = false) → ((!bif decide ((v.2.1.2 (↑k : Int).toNat).1 < 0) then true else decide ((v.2.1.2 (↑k : Int).toNat).1 ≥ (v.2.1.2 (↑k : Int).toNat).2.1)) = true)),
  (((!bif bif decide ((v.2.1.2 (↑k : Int).toNat).1 < 0) then true else decide ((v.2.1.2 (↑k : Int).toNat).1 ≥ (v.2.1.2 (↑k : Int).toNat).2.1) then true else decide ((v.2.1.2 (↑k : Int).toNat).2.1 ≥ v.1)) = true) → ((!bif bif decide ((v.2.1.2 (↑k : Int).toNat).1 < 0) then true else decide ((v.2.1.2 (↑k : Int).toNat).1 ≥ (v.2.1.2 (↑k : Int).toNat).2.1) then true else decide ((v.2.1.2 (↑k : Int).toNat).2.1 ≥ v.1)) = true)),
  (((!bif bif decide ((v.2.1.2 (↑k : Int).toNat).1 < 0) then true else decide ((v.2.1.2 (↑k : Int).toNat).1 ≥ (v.2.1.2 (↑k : Int).toNat).2.1) then true else decide ((v.2.1.2 (↑k : Int).toNat).2.1 ≥ v.1)) = true) → ((!bif bif decide ((v.2.1.2 (↑k : Int).toNat).1 < 0) then true else decide ((v.2.1.2 (↑k : Int).toNat).1 ≥ (v.2.1.2 (↑k : Int).toNat).2.1) then true else decide ((v.2.1.2 (↑k : Int).toNat).2.1 ≥ v.1)) = true)),
  ((((!bif bif decide ((v.2.1.2 (↑k : Int).toNat).1 < 0) then true else decide ((v.2.1.2 (↑k : Int).toNat).1 ≥ (v.2.1.2 (↑k : Int).toNat).2.1) then true else decide ((v.2.1.2 (↑k : Int).toNat).2.1 ≥ v.1)) && decide ((↑k : Int) > 0)) = true) → (((!bif bif decide ((v.2.1.2 (↑k : Int).toNat).1 < 0) then true else decide ((v.2.1.2 (↑k : Int).toNat).1 ≥ (v.2.1.2 (↑k : Int).toNat).2.1) then true else decide ((v.2.1.2 (↑k : Int).toNat).2.1 ≥ v.1)) && decide ((↑k : Int) > 0)) = true)),
  ((((!bif bif decide ((v.2.1.2 (↑k : Int).toNat).1 < 0) then true else decide ((v.2.1.2 (↑k : Int).toNat).1 ≥ (v.2.1.2 (↑k : Int).toNat).2.1) then true else decide ((v.2.1.2 (↑k : Int).toNat).2.1 ≥ v.1)) && decide ((↑k : Int) > 0)) = true) → ((0 : Nat) < 1)),
  ((((!bif bif decide ((v.2.1.2 (↑k : Int).toNat).1 < 0) then true else decide ((v.2.1.2 (↑k : Int).toNat).1 ≥ (v.2.1.2 (↑k : Int).toNat).2.1) then true else decide ((v.2.1.2 (↑k : Int).toNat).2.1 ≥ v.1)) && decide ((↑k : Int) > 0)) = true) → (((!bif bif decide ((v.2.1.2 (↑k : Int).toNat).1 < 0) then true else decide ((v.2.1.2 (↑k : Int).toNat).1 ≥ (v.2.1.2 (↑k : Int).toNat).2.1) then true else decide ((v.2.1.2 (↑k : Int).toNat).2.1 ≥ v.1)) && decide ((↑k : Int) > 0)) = true)),
  ((((!bif bif decide ((v.2.1.2 (↑k : Int).toNat).1 < 0) then true else decide ((v.2.1.2 (↑k : Int).toNat).1 ≥ (v.2.1.2 (↑k : Int).toNat).2.1) then true else decide ((v.2.1.2 (↑k : Int).toNat).2.1 ≥ v.1)) && decide ((↑k : Int) > 0)) = true) → (((-9223372036854775808) : Int) ≤ ((↑k : Int) - 1))),
  ((((!bif bif decide ((v.2.1.2 (↑k : Int).toNat).1 < 0) then true else decide ((v.2.1.2 (↑k : Int).toNat).1 ≥ (v.2.1.2 (↑k : Int).toNat).2.1) then true else decide ((v.2.1.2 (↑k : Int).toNat).2.1 ≥ v.1)) && decide ((↑k : Int) > 0)) = true) → ((((↑k : Int) - 1) : Int) ≤ 9223372036854775807)),
  ((((!bif bif decide ((v.2.1.2 (↑k : Int).toNat).1 < 0) then true else decide ((v.2.1.2 (↑k : Int).toNat).1 ≥ (v.2.1.2 (↑k : Int).toNat).2.1) then true else decide ((v.2.1.2 (↑k : Int).toNat).2.1 ≥ v.1)) && decide ((↑k : Int) > 0)) = true) → (((!bif bif decide ((v.2.1.2 (↑k : Int).toNat).1 < 0) then true else decide ((v.2.1.2 (↑k : Int).toNat).1 ≥ (v.2.1.2 (↑k : Int).toNat).2.1) then true else decide ((v.2.1.2 (↑k : Int).toNat).2.1 ≥ v.1)) && decide ((↑k : Int) > 0)) = true)),
  ((((!bif bif decide ((v.2.1.2 (↑k : Int).toNat).1 < 0) then true else decide ((v.2.1.2 (↑k : Int).toNat).1 ≥ (v.2.1.2 (↑k : Int).toNat).2.1) then true else decide ((v.2.1.2 (↑k : Int).toNat).2.1 ≥ v.1)) && decide ((↑k : Int) > 0)) = true) → (((!bif bif decide ((v.2.1.2 (↑k : Int).toNat).1 < 0) then true else decide ((v.2.1.2 (↑k : Int).toNat).1 ≥ (v.2.1.2 (↑k : Int).toNat).2.1) then true else decide ((v.2.1.2 (↑k : Int).toNat).2.1 ≥ v.1)) && decide ((↑k : Int) > 0)) = true)),
  ((((!bif bif decide ((v.2.1.2 (↑k : Int).toNat).1 < 0) then true else decide ((v.2.1.2 (↑k : Int).toNat).1 ≥ (v.2.1.2 (↑k : Int).toNat).2.1) then true else decide ((v.2.1.2 (↑k : Int).toNat).2.1 ≥ v.1)) && decide ((↑k : Int) > 0)) = true) → ((0 : Int) ≤ ((↑k : Int) - 1))),
  ((((!bif bif decide ((v.2.1.2 (↑k : Int).toNat).1 < 0) then true else decide ((v.2.1.2 (↑k : Int).toNat).1 ≥ (v.2.1.2 (↑k : Int).toNat).2.1) then true else decide ((v.2.1.2 (↑k : Int).toNat).2.1 ≥ v.1)) && decide ((↑k : Int) > 0)) = true) → ((((↑k : Int) - 1) : Int) < (↑v.2.1.1 : Int))),
  ((((!bif bif decide ((v.2.1.2 (↑k : Int).toNat).1 < 0) then true else decide ((v.2.1.2 (↑k : Int).toNat).1 ≥ (v.2.1.2 (↑k : Int).toNat).2.1) then true else decide ((v.2.1.2 (↑k : Int).toNat).2.1 ≥ v.1)) && decide ((↑k : Int) > 0)) = true) → (((!bif bif decide ((v.2.1.2 (↑k : Int).toNat).1 < 0) then true else decide ((v.2.1.2 (↑k : Int).toNat).1 ≥ (v.2.1.2 (↑k : Int).toNat).2.1) then true else decide ((v.2.1.2 (↑k : Int).toNat).2.1 ≥ v.1)) && decide ((↑k : Int) > 0)) = true)),
  ((((!bif bif decide ((v.2.1.2 (↑k : Int).toNat).1 < 0) then true else decide ((v.2.1.2 (↑k : Int).toNat).1 ≥ (v.2.1.2 (↑k : Int).toNat).2.1) then true else decide ((v.2.1.2 (↑k : Int).toNat).2.1 ≥ v.1)) && decide ((↑k : Int) > 0)) = true) → ((0 : Nat) < 1)),
  ((((!bif bif decide ((v.2.1.2 (↑k : Int).toNat).1 < 0) then true else decide ((v.2.1.2 (↑k : Int).toNat).1 ≥ (v.2.1.2 (↑k : Int).toNat).2.1) then true else decide ((v.2.1.2 (↑k : Int).toNat).2.1 ≥ v.1)) && decide ((↑k : Int) > 0)) = true) → (((!bif bif decide ((v.2.1.2 (↑k : Int).toNat).1 < 0) then true else decide ((v.2.1.2 (↑k : Int).toNat).1 ≥ (v.2.1.2 (↑k : Int).toNat).2.1) then true else decide ((v.2.1.2 (↑k : Int).toNat).2.1 ≥ v.1)) && decide ((↑k : Int) > 0)) = true)),
  ((((!bif bif decide ((v.2.1.2 (↑k : Int).toNat).1 < 0) then true else decide ((v.2.1.2 (↑k : Int).toNat).1 ≥ (v.2.1.2 (↑k : Int).toNat).2.1) then true else decide ((v.2.1.2 (↑k : Int).toNat).2.1 ≥ v.1)) && decide ((↑k : Int) > 0)) = true) → (((!bif bif decide ((v.2.1.2 (↑k : Int).toNat).1 < 0) then true else decide ((v.2.1.2 (↑k : Int).toNat).1 ≥ (v.2.1.2 (↑k : Int).toNat).2.1) then true else decide ((v.2.1.2 (↑k : Int).toNat).2.1 ≥ v.1)) && decide ((↑k : Int) > 0)) = true)),
  ((((!bif bif decide ((v.2.1.2 (↑k : Int).toNat).1 < 0) then true else decide ((v.2.1.2 (↑k : Int).toNat).1 ≥ (v.2.1.2 (↑k : Int).toNat).2.1) then true else decide ((v.2.1.2 (↑k : Int).toNat).2.1 ≥ v.1)) && decide ((↑k : Int) > 0)) = true) → Con Try.prog 82 0 [] [.agg [.p (.int .i64 ((v.2.1.2 ((↑k : Int) - 1).toNat).1)), .p (.int .i64 ((v.2.1.2 ((↑k : Int) - 1).toNat).2.1))], .agg [.p (.int .i64 ((v.2.1.2 k).1)), .p (.int .i64 ((v.2.1.2 k).2.1))]] [] (.p (.int .i64 (cmpB (v.2.1.2 ((↑k : Int) - 1).toNat) (v.2.1.2 k))))),
  ((((!bif bif decide ((v.2.1.2 (↑k : Int).toNat).1 < 0) then true else decide ((v.2.1.2 (↑k : Int).toNat).1 ≥ (v.2.1.2 (↑k : Int).toNat).2.1) then true else decide ((v.2.1.2 (↑k : Int).toNat).2.1 ≥ v.1)) && decide ((↑k : Int) > 0)) = true) → (((!bif bif decide ((v.2.1.2 (↑k : Int).toNat).1 < 0) then true else decide ((v.2.1.2 (↑k : Int).toNat).1 ≥ (v.2.1.2 (↑k : Int).toNat).2.1) then true else decide ((v.2.1.2 (↑k : Int).toNat).2.1 ≥ v.1)) && decide ((↑k : Int) > 0)) = true)),
  (((!bif bif decide ((v.2.1.2 (↑k : Int).toNat).1 < 0) then true else decide ((v.2.1.2 (↑k : Int).toNat).1 ≥ (v.2.1.2 (↑k : Int).toNat).2.1) then true else decide ((v.2.1.2 (↑k : Int).toNat).2.1 ≥ v.1)) = true) → ((!bif bif decide ((v.2.1.2 (↑k : Int).toNat).1 < 0) then true else decide ((v.2.1.2 (↑k : Int).toNat).1 ≥ (v.2.1.2 (↑k : Int).toNat).2.1) then true else decide ((v.2.1.2 (↑k : Int).toNat).2.1 ≥ v.1)) = true)),
  (((!bif bif decide ((v.2.1.2 (↑k : Int).toNat).1 < 0) then true else decide ((v.2.1.2 (↑k : Int).toNat).1 ≥ (v.2.1.2 (↑k : Int).toNat).2.1) then true else decide ((v.2.1.2 (↑k : Int).toNat).2.1 ≥ v.1)) = true) → (((decide ((↑k : Int) > 0)) = true) → (((!bif bif decide ((v.2.1.2 (↑k : Int).toNat).1 < 0) then true else decide ((v.2.1.2 (↑k : Int).toNat).1 ≥ (v.2.1.2 (↑k : Int).toNat).2.1) then true else decide ((v.2.1.2 (↑k : Int).toNat).2.1 ≥ v.1)) && decide ((↑k : Int) > 0)) = true))),
  (((bif bif decide ((v.2.1.2 (↑k : Int).toNat).1 < 0) then true else decide ((v.2.1.2 (↑k : Int).toNat).1 ≥ (v.2.1.2 (↑k : Int).toNat).2.1) then true else decide ((v.2.1.2 (↑k : Int).toNat).2.1 ≥ v.1)) = false) → ((!bif bif decide ((v.2.1.2 (↑k : Int).toNat).1 < 0) then true else decide ((v.2.1.2 (↑k : Int).toNat).1 ≥ (v.2.1.2 (↑k : Int).toNat).2.1) then true else decide ((v.2.1.2 (↑k : Int).toNat).2.1 ≥ v.1)) = true)),
  ((bif bif bif decide ((v.2.1.2 (↑k : Int).toNat).1 < 0) then true else decide ((v.2.1.2 (↑k : Int).toNat).1 ≥ (v.2.1.2 (↑k : Int).toNat).2.1) then true else decide ((v.2.1.2 (↑k : Int).toNat).2.1 ≥ v.1) then true else bif decide ((↑k : Int) > 0) then decide (cmpB (v.2.1.2 ((↑k : Int) - 1).toNat) (v.2.1.2 k) > 0) else false) = true),
  (false = false)] := by kernel_rfl
theorem p51d (v : T_Graph) (k : Nat) :
    pathOb Try.prog Try.f77 0 [.reg [oT], .dec false, .reg [oT]] [.code (cAt (bodyOf Try.f77) [1, 1, 0, 1, 0, 0]), .inLoop (cAt (bodyOf Try.f77) [1, 1, 0, 1, 0, 0]), .inBlock 0, .code (cAt (bodyOf Try.f77) [1, 1, 1])] (S51 v k) [] 1 [] (.p (.bool true)) =
    some [((decide ((↑k : Int) < (↑v.2.1.1 : Int))) = false),
  (true = true)] := by kernel_rfl
theorem con_l2After (a b : T_Bar) : Con Try.prog 113 0 [] [barA a, barA b] [] (.p (.bool (aft a b))) := by
  refine con_start Try.func113 rfl (by kernel_rfl) rfl (fun c hc => ?_)
  refine path_ok mixed Try.func113 hc (p57 a b) ?_
  simp only [All]
  repeat' (first | exact trivial | with_reducible apply And.intro)
  all_goals (first | omega | rfl | (intros; first | assumption | exact True.intro | rfl | exact absurd (show false = true by assumption) Bool.false_ne_true | ((repeat' (first | assumption | apply anda | apply notf)); done)))
theorem con_compareInts (x y : Int) : Con Try.prog 117 0 [] [.p (.int .i64 x), .p (.int .i64 y)] [] (.p (.int .i64 (cmpI x y))) := by
  refine con_start Try.func117 rfl (by kernel_rfl) rfl (fun c hc => ?_)
  by_cases h1 : x < y
  · rw [show cmpI x y = -1 by simp [cmpI, h1]]
    refine path_ok mixed Try.func117 hc (p62a x y) ?_
    simp only [All]
    repeat' (first | exact trivial | with_reducible apply And.intro)
    all_goals (first | omega | rfl | (intros; first | assumption | exact True.intro | rfl | exact absurd (show false = true by assumption) Bool.false_ne_true | ((repeat' (first | assumption | apply anda | apply notf)); done)) | (simp; omega))
  · by_cases h2 : x > y
    · rw [show cmpI x y = 1 by simp only [cmpI, h1, h2, if_true, if_false]]
      refine path_ok mixed Try.func117 hc (p62b x y) ?_
      simp only [All]
      repeat' (first | exact trivial | with_reducible apply And.intro)
      all_goals (first | omega | rfl | (intros; first | assumption | exact True.intro | rfl | exact absurd (show false = true by assumption) Bool.false_ne_true | ((repeat' (first | assumption | apply anda | apply notf)); done)) | (simp; omega))
    · rw [show cmpI x y = 0 by simp only [cmpI, h1, h2, if_false]]
      refine path_ok mixed Try.func117 hc (p62c x y) ?_
      simp only [All]
      repeat' (first | exact trivial | with_reducible apply And.intro)
      all_goals (first | omega | rfl | (intros; first | assumption | exact True.intro | rfl | exact absurd (show false = true by assumption) Bool.false_ne_true | ((repeat' (first | assumption | apply anda | apply notf)); done)) | (simp; omega))
theorem con_compareBars (a b : T_Bar) : Con Try.prog 82 0 [] [barA a, barA b] [] (.p (.int .i64 (cmpB a b))) := by
  refine con_start Try.func82 rfl (by kernel_rfl) rfl (fun c hc => ?_)
  by_cases h1 : cmpI a.1 b.1 = 0
  · rw [show cmpB a b = cmpI a.2.1 b.2.1 by simp [cmpB, h1]]
    refine path_ok mixed Try.func82 hc (p59b a b) ?_
    simp only [All]
    repeat' (first | exact trivial | with_reducible apply And.intro)
    all_goals (first | omega | rfl | (intros; first | assumption | exact True.intro | rfl | exact absurd (show false = true by assumption) Bool.false_ne_true | ((repeat' (first | assumption | apply anda | apply notf)); done)) | (exact con_compareInts _ _) | (simp [h1]))
  · rw [show cmpB a b = cmpI a.1 b.1 by simp [cmpB, h1]]
    refine path_ok mixed Try.func82 hc (p59a a b) ?_
    simp only [All]
    repeat' (first | exact trivial | with_reducible apply And.intro)
    all_goals (first | omega | rfl | (intros; first | assumption | exact True.intro | rfl | exact absurd (show false = true by assumption) Bool.false_ne_true | ((repeat' (first | assumption | apply anda | apply notf)); done)) | (exact con_compareInts _ _) | (simp [h1]))
theorem cmpB_gt (a b : T_Bar) : decide (cmpB a b > 0) = !aft a b := by
  simp only [cmpB, cmpI, aft]
  by_cases h1 : a.1 < b.1
  · simp [h1]
  · by_cases h2 : a.1 > b.1
    · have h3 : ¬ a.1 = b.1 := by omega
      simp [h1, h2, h3]
    · have h3 : a.1 = b.1 := by omega
      simp only [h1, h2, h3, if_true, if_false]
      by_cases h4 : a.2.1 < b.2.1
      · have : a.2.1 ≤ b.2.1 := by omega
        simp [h4, this]
      · by_cases h5 : a.2.1 > b.2.1
        · have : ¬ a.2.1 ≤ b.2.1 := by omega
          simp [h4, h5, this]
        · have : a.2.1 ≤ b.2.1 := by omega
          simp [h4, h5, this]
theorem goodB_bad (N : Int) (g : Nat → T_Bar) (k : Nat) (h : badB N g k = true) : ∀ n, k < n → goodB N g n = false
  | 0, h' => by omega
  | n + 1, h' => by
    by_cases e : k = n
    · subst e; simp [goodB, h]
    · simp [goodB, goodB_bad N g k h n (by omega)]
theorem idx_lt {b : Bool} {k n : Nat} (h : (b && decide ((k : Int) > 0)) = true) (hk : k < n) : 0 ≤ (k : Int) - 1 ∧ (k : Int) - 1 < n ∧ -9223372036854775808 ≤ (k : Int) - 1 ∧ (k : Int) - 1 ≤ n := by
  simp at h
  omega
theorem con_IsGraph_s (v : T_Graph) (hs : smS s_Graph v) : Con Try.prog 73 0 [] [graphA v] [] (.p (.bool (isGraphF v))) := by
  refine con_start Try.func73 rfl (by kernel_rfl) rfl (fun c hc => ?_)
  have hn : v.2.1.1 ≤ 1048576 := hs.2.1.1
  by_cases hz : inB v.1 1 8 = true ∧ v.2.1.1 ≤ 24
  · rw [show isGraphF v = goodB v.1 v.2.1.2 v.2.1.1 by rw [isGraphF, if_pos hz]]
    have lp : ∀ m k, k + m = v.2.1.1 → goodB v.1 v.2.1.2 k = true → Run Try.prog c 73 [.code (cAt (bodyOf Try.f73) [1, 1, 0, 1, 0, 0]), .inLoop (cAt (bodyOf Try.f73) [1, 1, 0, 1, 0, 0]), .inBlock 0, .code (cAt (bodyOf Try.f73) [1, 1, 1])] (S48 v k) (Post c [] (.p (.bool (goodB v.1 v.2.1.2 v.2.1.1)))) := by
      intro m
      induction m with
      | zero =>
        intro k hk hg
        rw [show goodB v.1 v.2.1.2 v.2.1.1 = true by rw [show v.2.1.1 = k by omega]; exact hg]
        have hd : decide ((k : Int) < (v.2.1.1 : Int)) = false := by simp; omega
        refine path_ok mixed Try.func73 hc (p48d v k) ?_
        simp only [All]
        repeat' (first | exact trivial | with_reducible apply And.intro)
        all_goals (first | omega | rfl | (intros; first | assumption | exact True.intro | rfl | exact absurd (show false = true by assumption) Bool.false_ne_true | ((repeat' (first | assumption | apply anda | apply notf)); done)))
      | succ m ih =>
        intro k hk hg
        have hd : decide ((k : Int) < (v.2.1.1 : Int)) = true := by simp; omega
        have hkn : k < v.2.1.1 := by omega
        cases he : badB v.1 v.2.1.2 k with
        | true =>
          rw [goodB_bad _ _ k he v.2.1.1 (by omega)]
          refine path_ok mixed Try.func73 hc (p48c v k) ?_
          simp only [All]
          repeat' (first | exact trivial | with_reducible apply And.intro)
          all_goals (first | omega | rfl | (intros; first | assumption | exact True.intro | rfl | exact absurd (show false = true by assumption) Bool.false_ne_true | ((repeat' (first | assumption | apply anda | apply notf)); done)) | (intros; exact con_l2After _ _) | (exact he) | (intro h; have := idx_lt h hkn; omega))
        | false =>
          refine piece_ok mixed hc (p48b v k) ?_ (ih (k + 1) (by omega) (by simp [goodB, hg, he]))
          simp only [All]
          repeat' (first | exact trivial | with_reducible apply And.intro)
          all_goals (first | omega | rfl | (intros; first | assumption | exact True.intro | rfl | exact absurd (show false = true by assumption) Bool.false_ne_true | ((repeat' (first | assumption | apply anda | apply notf)); done)) | (intros; exact con_l2After _ _) | (exact he) | (intro h; have := idx_lt h hkn; omega) | (simp [All]))
    refine piece_ok mixed hc (p48a v) ?_ (lp v.2.1.1 0 (by omega) rfl)
    simp only [All]
    repeat' (first | exact trivial | with_reducible apply And.intro)
    all_goals (first | omega | rfl | (intros; first | assumption | exact True.intro | rfl | exact absurd (show false = true by assumption) Bool.false_ne_true | ((repeat' (first | assumption | apply anda | apply notf)); done)) | (exact con_l1In _ _ _) | (simp [hz.1]; omega) | (simp [All]))
  · rw [show isGraphF v = false by rw [isGraphF, if_neg hz]]
    have hb : (bif !inB v.1 1 8 then true else decide ((v.2.1.1 : Int) > 24)) = true := by
      cases hi : inB v.1 1 8 with
      | false => rfl
      | true =>
        have : ¬ v.2.1.1 ≤ 24 := fun h => hz ⟨hi, h⟩
        simp; omega
    refine path_ok mixed Try.func73 hc (p48z v) ?_
    simp only [All]
    repeat' (first | exact trivial | with_reducible apply And.intro)
    all_goals (first | omega | rfl | (intros; first | assumption | exact True.intro | rfl | exact absurd (show false = true by assumption) Bool.false_ne_true | ((repeat' (first | assumption | apply anda | apply notf)); done)) | (exact con_l1In _ _ _))
theorem con_IsGraph_i (v : T_Graph) (hs : smS s_Graph v) : Con Try.prog 77 0 [] [graphA v] [] (.p (.bool (isGraphF v))) := by
  refine con_start Try.func77 rfl (by kernel_rfl) rfl (fun c hc => ?_)
  have hn : v.2.1.1 ≤ 1048576 := hs.2.1.1
  by_cases hz : inB v.1 1 8 = true ∧ v.2.1.1 ≤ 24
  · rw [show isGraphF v = goodB v.1 v.2.1.2 v.2.1.1 by rw [isGraphF, if_pos hz]]
    have lp : ∀ m k, k + m = v.2.1.1 → goodB v.1 v.2.1.2 k = true → Run Try.prog c 77 [.code (cAt (bodyOf Try.f77) [1, 1, 0, 1, 0, 0]), .inLoop (cAt (bodyOf Try.f77) [1, 1, 0, 1, 0, 0]), .inBlock 0, .code (cAt (bodyOf Try.f77) [1, 1, 1])] (S51 v k) (Post c [] (.p (.bool (goodB v.1 v.2.1.2 v.2.1.1)))) := by
      intro m
      induction m with
      | zero =>
        intro k hk hg
        rw [show goodB v.1 v.2.1.2 v.2.1.1 = true by rw [show v.2.1.1 = k by omega]; exact hg]
        have hd : decide ((k : Int) < (v.2.1.1 : Int)) = false := by simp; omega
        refine path_ok mixed Try.func77 hc (p51d v k) ?_
        simp only [All]
        repeat' (first | exact trivial | with_reducible apply And.intro)
        all_goals (first | omega | rfl | (intros; first | assumption | exact True.intro | rfl | exact absurd (show false = true by assumption) Bool.false_ne_true | ((repeat' (first | assumption | apply anda | apply notf)); done)))
      | succ m ih =>
        intro k hk hg
        have hd : decide ((k : Int) < (v.2.1.1 : Int)) = true := by simp; omega
        have hkn : k < v.2.1.1 := by omega
        cases he : badB v.1 v.2.1.2 k with
        | true =>
          rw [goodB_bad _ _ k he v.2.1.1 (by omega)]
          have he2 := he
          rw [badB, ← cmpB_gt] at he2
          refine path_ok mixed Try.func77 hc (p51c v k) ?_
          simp only [All]
          repeat' (first | exact trivial | with_reducible apply And.intro)
          all_goals (first | omega | rfl | (intros; first | assumption | exact True.intro | rfl | exact absurd (show false = true by assumption) Bool.false_ne_true | ((repeat' (first | assumption | apply anda | apply notf)); done)) | (intros; exact con_compareBars _ _) | (exact he2) | (intro h; have := idx_lt h hkn; omega))
        | false =>
          have he2 := he
          rw [badB, ← cmpB_gt] at he2
          refine piece_ok mixed hc (p51b v k) ?_ (ih (k + 1) (by omega) (by simp [goodB, hg, he]))
          simp only [All]
          repeat' (first | exact trivial | with_reducible apply And.intro)
          all_goals (first | omega | rfl | (intros; first | assumption | exact True.intro | rfl | exact absurd (show false = true by assumption) Bool.false_ne_true | ((repeat' (first | assumption | apply anda | apply notf)); done)) | (intros; exact con_compareBars _ _) | (exact he2) | (intro h; have := idx_lt h hkn; omega) | (simp [All]))
    refine piece_ok mixed hc (p51a v) ?_ (lp v.2.1.1 0 (by omega) rfl)
    simp only [All]
    repeat' (first | exact trivial | with_reducible apply And.intro)
    all_goals (first | omega | rfl | (intros; first | assumption | exact True.intro | rfl | exact absurd (show false = true by assumption) Bool.false_ne_true | ((repeat' (first | assumption | apply anda | apply notf)); done)) | (exact con_within _ _ _) | (simp [hz.1]; omega) | (simp [All]))
  · rw [show isGraphF v = false by rw [isGraphF, if_neg hz]]
    have hb : (bif !inB v.1 1 8 then true else decide ((v.2.1.1 : Int) > 24)) = true := by
      cases hi : inB v.1 1 8 with
      | false => rfl
      | true =>
        have : ¬ v.2.1.1 ≤ 24 := fun h => hz ⟨hi, h⟩
        simp; omega
    refine path_ok mixed Try.func77 hc (p51z v) ?_
    simp only [All]
    repeat' (first | exact trivial | with_reducible apply And.intro)
    all_goals (first | omega | rfl | (intros; first | assumption | exact True.intro | rfl | exact absurd (show false = true by assumption) Bool.false_ne_true | ((repeat' (first | assumption | apply anda | apply notf)); done)) | (exact con_within _ _ _))
end Go.Proofs.Ytgdbnnmogddkaaa.Mach
