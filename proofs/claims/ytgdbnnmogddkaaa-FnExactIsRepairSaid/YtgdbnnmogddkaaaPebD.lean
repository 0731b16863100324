/- The pebble game of the program: pebbles are gathered, a bar is placed. Conditions: as each theorem says. -/
import Derived.Test.YtgdbnnmogddkaaaPebC
namespace Go.Proofs.Ytgdbnnmogddkaaa.Mach
open Go
set_option linter.unusedVariables false
set_option linter.unusedSimpArgs false

def SG (g : Nat → T_Bar) (nb N m : Nat) (F T Q : Nat → Int) (a b want : Int) : St :=
  ⟨[brL g nb, .pt 3 0 0 0, .p (.int .i64 a), .p (.int .i64 b), .p (.int .i64 want)] ++ List.replicate 37 anyA, pebH N m F T Q, 4⟩
def pebH2 (N m : Nat) (F T Q : Nat → Int) : Hp := [(0, ⟨true, 3, 1, fun _ => [.ar 1 1 0 N, .ar 1 4 0 m, .ar 1 5 0 m]⟩), (1, iOb N F), (4, iOb m T), (5, iOb m Q)]

theorem pGz (g : Nat → T_Bar) (nb N m : Nat) (F T Q : Nat → Int) (a b want : Int) :
    pieceOb Try.prog 4 [.reg [oT], .head] [.code (bodyOf Try.f170)] (start Try.f170 (pebH N m F T Q) 4 [brL g nb, .pt 3 0 0 0, .p (.int .i64 a), .p (.int .i64 b), .p (.int .i64 want)]) [0, 1, 2, 3] 1 (SG g nb N m F T Q a b want) =
    some ([.code (cAt (bodyOf Try.f170) [1, 0, 0, 0]), .inLoop (cAt (bodyOf Try.f170) [1, 0, 0, 0]), .inBlock 0, .code (cAt (bodyOf Try.f170) [1, 1])], [(((nb) : Nat) = (nb)),
  (∀ i : Nat, ((((i) : Nat) < (nb)) → (([.int .i64 ((g i).fst), .int .i64 ((g i).snd.fst)] : List PV) = [.int .i64 ((g i).fst), .int .i64 ((g i).snd.fst)]))),
  ((0 : Nat) = 0),
  (((a) : Int) = (a)),
  (((b) : Int) = (b)),
  (((want) : Int) = (want)),
  ((3 : Nat) = 3),
  ((1 : Nat) ≤ 1),
  ((1 : Nat) ≤ 1),
  ((0 : Nat) = 0),
  (((N) : Nat) = (N)),
  ((0 : Nat) = 0),
  (((m) : Nat) = (m)),
  ((0 : Nat) = 0),
  (((m) : Nat) = (m)),
  ((1 : Nat) = 1),
  (((N) : Nat) ≤ (N)),
  (∀ i : Nat, ((((i) : Nat) < (N)) → (All [] ∧ (([.p (.int .i64 (F i))] : List AV) = [.p (.int .i64 (F i))])))),
  ((1 : Nat) = 1),
  (((m) : Nat) ≤ (m)),
  (∀ i : Nat, ((((i) : Nat) < (m)) → (All [] ∧ (([.p (.int .i64 (T i))] : List AV) = [.p (.int .i64 (T i))])))),
  ((1 : Nat) = 1),
  (((m) : Nat) ≤ (m)),
  (∀ i : Nat, ((((i) : Nat) < (m)) → (All [] ∧ (([.p (.int .i64 (Q i))] : List AV) = [.p (.int .i64 (Q i))]))))]) := by kernel_rfl
theorem pGa (g : Nat → T_Bar) (nb N m : Nat) (F T Q F1 T1 : Nat → Int) (a b want : Int) :
    pieceOb Try.prog 4 [.reg [oT, oT, oT, oT, oT, oT, oT, oT, oT, oT, oT, oT, oT, oT, oT, oT, oT], .dec true, .reg [oT, oT, oT, oT, ⟨true, (some ⟨[0, 1, 2, 3], [], 1, pebH N m F1 T1 Q, .p (.bool true)⟩), none⟩, oT, oT, ⟨true, none, some false⟩, ⟨true, none, some false⟩, ⟨true, none, some false⟩, ⟨true, none, some false⟩, ⟨true, none, some false⟩, ⟨true, none, some false⟩, ⟨true, none, some false⟩], .dec false, .head] [.code (cAt (bodyOf Try.f170) [1, 0, 0, 0]), .inLoop (cAt (bodyOf Try.f170) [1, 0, 0, 0]), .inBlock 0, .code (cAt (bodyOf Try.f170) [1, 1])] (SG g nb N m F T Q a b want) [0, 1, 2, 3] 1 (SG g nb N m F1 T1 Q a b want) =
    some ([.code (cAt (bodyOf Try.f170) [1, 0, 0, 0]), .inLoop (cAt (bodyOf Try.f170) [1, 0, 0, 0]), .inBlock 0, .code (cAt (bodyOf Try.f170) [1, 1])], [((0 : Nat) < 1),
  ((0 : Int) ≤ (a)),
  (((a) : Int) < ((↑N : Int))),
  (((a.toNat) : Nat) < (N)),
  ((0 : Nat) < 1),
  ((0 : Int) ≤ (b)),
  (((b) : Int) < ((↑N : Int))),
  (((b.toNat) : Nat) < (N)),
  (((-9223372036854775808) : Int) ≤ (F a.toNat + F b.toNat)),
  (((F a.toNat + F b.toNat) : Int) ≤ 9223372036854775807),
  ((decide (F (a.toNat + 0) + F (b.toNat + 0) < want)) = true),
  (∀ i : Nat, ((((i) : Nat) < 1) → All [])),
  (∀ i : Nat, ((((i) : Nat) < (N)) → All [])),
  (∀ i : Nat, ((((i) : Nat) < (m)) → All [])),
  (∀ i : Nat, ((((i) : Nat) < (m)) → All [])),
  Con (Try.prog) 174 4 [(0, ⟨true, 3, 1, (fun i => [.ar 1 1 0 (N), .ar 1 2 0 (m), .ar 1 3 0 (m)])⟩), (1, ⟨false, 1, (N), (fun i => [.p (.int .i64 (F i))])⟩), (2, ⟨false, 1, (m), (fun i => [.p (.int .i64 (T i))])⟩), (3, ⟨false, 1, (m), (fun i => [.p (.int .i64 (Q i))])⟩)] [.p (.seq true 2 (nb) (fun i => [.int .i64 ((g i).fst), .int .i64 ((g i).snd.fst)])), .pt 3 0 0 0, .p (.int .i64 (a)), .p (.int .i64 (b))] [(0, ⟨true, 3, 1, (fun i => [.ar 1 1 0 (N), .ar 1 2 0 (m), .ar 1 3 0 (m)])⟩), (1, ⟨false, 1, (N), (fun i => [.p (.int .i64 (F1 i))])⟩), (2, ⟨false, 1, (m), (fun i => [.p (.int .i64 (T1 i))])⟩), (3, ⟨false, 1, (m), (fun i => [.p (.int .i64 (Q i))])⟩)] (.p (.bool true)),
  ((!true) = false),
  ((!true) = false),
  ((!true) = false),
  ((!true) = false),
  ((!true) = false),
  ((!true) = false),
  ((!true) = false),
  (false = false),
  (((nb) : Nat) = (nb)),
  (∀ i : Nat, ((((i) : Nat) < (nb)) → (([.int .i64 ((g i).fst), .int .i64 ((g i).snd.fst)] : List PV) = [.int .i64 ((g i).fst), .int .i64 ((g i).snd.fst)]))),
  ((0 : Nat) = 0),
  (((a) : Int) = (a)),
  (((b) : Int) = (b)),
  (((want) : Int) = (want)),
  ((3 : Nat) = 3),
  ((1 : Nat) ≤ 1),
  ((1 : Nat) ≤ 1),
  ((0 : Nat) = 0),
  (((N) : Nat) = (N)),
  ((0 : Nat) = 0),
  (((m) : Nat) = (m)),
  ((0 : Nat) = 0),
  (((m) : Nat) = (m)),
  ((1 : Nat) = 1),
  (((N) : Nat) ≤ (N)),
  (∀ i : Nat, ((((i) : Nat) < (N)) → (All [] ∧ (([.p (.int .i64 (F1 i))] : List AV) = [.p (.int .i64 (F1 i))])))),
  ((1 : Nat) = 1),
  (((m) : Nat) ≤ (m)),
  (∀ i : Nat, ((((i) : Nat) < (m)) → (All [] ∧ (([.p (.int .i64 (T1 i))] : List AV) = [.p (.int .i64 (T1 i))])))),
  ((1 : Nat) = 1),
  (((m) : Nat) ≤ (m)),
  (∀ i : Nat, ((((i) : Nat) < (m)) → (All [] ∧ (([.p (.int .i64 (Q i))] : List AV) = [.p (.int .i64 (Q i))]))))]) := by kernel_rfl
theorem pGb (g : Nat → T_Bar) (nb N m : Nat) (F T Q F1 T1 F2 T2 : Nat → Int) (a b want : Int) :
    pieceOb Try.prog 4 [.reg [oT, oT, oT, oT, oT, oT, oT, oT, oT, oT, oT, oT, oT, oT, oT, oT, oT], .dec true, .reg [oT, oT, oT, oT, ⟨true, (some ⟨[0, 1, 2, 3], [], 1, pebH N m F1 T1 Q, .p (.bool false)⟩), none⟩, oT, oT, ⟨true, none, some true⟩, ⟨true, none, some true⟩, ⟨true, none, some true⟩, ⟨true, none, some true⟩, ⟨true, (some ⟨[0, 1, 2, 3], [], 1, pebH N m F2 T2 Q, .p (.bool true)⟩), some true⟩, ⟨true, none, some true⟩, ⟨true, none, some true⟩], .dec false, .head] [.code (cAt (bodyOf Try.f170) [1, 0, 0, 0]), .inLoop (cAt (bodyOf Try.f170) [1, 0, 0, 0]), .inBlock 0, .code (cAt (bodyOf Try.f170) [1, 1])] (SG g nb N m F T Q a b want) [0, 1, 2, 3] 1 (SG g nb N m F2 T2 Q a b want) =
    some ([.code (cAt (bodyOf Try.f170) [1, 0, 0, 0]), .inLoop (cAt (bodyOf Try.f170) [1, 0, 0, 0]), .inBlock 0, .code (cAt (bodyOf Try.f170) [1, 1])], [((0 : Nat) < 1),
  ((0 : Int) ≤ (a)),
  (((a) : Int) < ((↑N : Int))),
  (((a.toNat) : Nat) < (N)),
  ((0 : Nat) < 1),
  ((0 : Int) ≤ (b)),
  (((b) : Int) < ((↑N : Int))),
  (((b.toNat) : Nat) < (N)),
  (((-9223372036854775808) : Int) ≤ (F a.toNat + F b.toNat)),
  (((F a.toNat + F b.toNat) : Int) ≤ 9223372036854775807),
  ((decide (F (a.toNat + 0) + F (b.toNat + 0) < want)) = true),
  (∀ i : Nat, ((((i) : Nat) < 1) → All [])),
  (∀ i : Nat, ((((i) : Nat) < (N)) → All [])),
  (∀ i : Nat, ((((i) : Nat) < (m)) → All [])),
  (∀ i : Nat, ((((i) : Nat) < (m)) → All [])),
  Con (Try.prog) 174 4 [(0, ⟨true, 3, 1, (fun i => [.ar 1 1 0 (N), .ar 1 2 0 (m), .ar 1 3 0 (m)])⟩), (1, ⟨false, 1, (N), (fun i => [.p (.int .i64 (F i))])⟩), (2, ⟨false, 1, (m), (fun i => [.p (.int .i64 (T i))])⟩), (3, ⟨false, 1, (m), (fun i => [.p (.int .i64 (Q i))])⟩)] [.p (.seq true 2 (nb) (fun i => [.int .i64 ((g i).fst), .int .i64 ((g i).snd.fst)])), .pt 3 0 0 0, .p (.int .i64 (a)), .p (.int .i64 (b))] [(0, ⟨true, 3, 1, (fun i => [.ar 1 1 0 (N), .ar 1 2 0 (m), .ar 1 3 0 (m)])⟩), (1, ⟨false, 1, (N), (fun i => [.p (.int .i64 (F1 i))])⟩), (2, ⟨false, 1, (m), (fun i => [.p (.int .i64 (T1 i))])⟩), (3, ⟨false, 1, (m), (fun i => [.p (.int .i64 (Q i))])⟩)] (.p (.bool false)),
  ((!false) = true),
  ((!false) = true),
  ((!false) = true),
  ((!false) = true),
  ((!false) = true),
  (∀ i : Nat, ((((i) : Nat) < 1) → All [])),
  (∀ i : Nat, ((((i) : Nat) < (N)) → All [])),
  (∀ i : Nat, ((((i) : Nat) < (m)) → All [])),
  (∀ i : Nat, ((((i) : Nat) < (m)) → All [])),
  Con (Try.prog) 174 4 [(0, ⟨true, 3, 1, (fun i => [.ar 1 1 0 (N), .ar 1 2 0 (m), .ar 1 3 0 (m)])⟩), (1, ⟨false, 1, (N), (fun i => [.p (.int .i64 (F1 i))])⟩), (2, ⟨false, 1, (m), (fun i => [.p (.int .i64 (T1 i))])⟩), (3, ⟨false, 1, (m), (fun i => [.p (.int .i64 (Q i))])⟩)] [.p (.seq true 2 (nb) (fun i => [.int .i64 ((g i).fst), .int .i64 ((g i).snd.fst)])), .pt 3 0 0 0, .p (.int .i64 (b)), .p (.int .i64 (a))] [(0, ⟨true, 3, 1, (fun i => [.ar 1 1 0 (N), .ar 1 2 0 (m), .ar 1 3 0 (m)])⟩), (1, ⟨false, 1, (N), (fun i => [.p (.int .i64 (F2 i))])⟩), (2, ⟨false, 1, (m), (fun i => [.p (.int .i64 (T2 i))])⟩), (3, ⟨false, 1, (m), (fun i => [.p (.int .i64 (Q i))])⟩)] (.p (.bool true)),
  ((!false) = true),
  ((!false) = true),
  ((!true) = false),
  (((nb) : Nat) = (nb)),
  (∀ i : Nat, ((((i) : Nat) < (nb)) → (([.int .i64 ((g i).fst), .int .i64 ((g i).snd.fst)] : List PV) = [.int .i64 ((g i).fst), .int .i64 ((g i).snd.fst)]))),
  ((0 : Nat) = 0),
  (((a) : Int) = (a)),
  (((b) : Int) = (b)),
  (((want) : Int) = (want)),
  ((3 : Nat) = 3),
  ((1 : Nat) ≤ 1),
  ((1 : Nat) ≤ 1),
  ((0 : Nat) = 0),
  (((N) : Nat) = (N)),
  ((0 : Nat) = 0),
  (((m) : Nat) = (m)),
  ((0 : Nat) = 0),
  (((m) : Nat) = (m)),
  ((1 : Nat) = 1),
  (((N) : Nat) ≤ (N)),
  (∀ i : Nat, ((((i) : Nat) < (N)) → (All [] ∧ (([.p (.int .i64 (F2 i))] : List AV) = [.p (.int .i64 (F2 i))])))),
  ((1 : Nat) = 1),
  (((m) : Nat) ≤ (m)),
  (∀ i : Nat, ((((i) : Nat) < (m)) → (All [] ∧ (([.p (.int .i64 (T2 i))] : List AV) = [.p (.int .i64 (T2 i))])))),
  ((1 : Nat) = 1),
  (((m) : Nat) ≤ (m)),
  (∀ i : Nat, ((((i) : Nat) < (m)) → (All [] ∧ (([.p (.int .i64 (Q i))] : List AV) = [.p (.int .i64 (Q i))]))))]) := by kernel_rfl
theorem pGc (g : Nat → T_Bar) (nb N m : Nat) (F T Q F1 T1 F2 T2 : Nat → Int) (a b want : Int) :
    pathOb Try.prog Try.f170 4 [.reg [oT, oT, oT, oT, oT, oT, oT, oT, oT, oT, oT, oT, oT, oT, oT, oT, oT], .dec true, .reg [oT, oT, oT, oT, ⟨true, (some ⟨[0, 1, 2, 3], [], 1, pebH N m F1 T1 Q, .p (.bool false)⟩), none⟩, oT, oT, ⟨true, none, some true⟩, ⟨true, none, some true⟩, ⟨true, none, some true⟩, ⟨true, none, some true⟩, ⟨true, (some ⟨[0, 1, 2, 3], [], 1, pebH N m F2 T2 Q, .p (.bool false)⟩), some true⟩, ⟨true, none, some true⟩, ⟨true, none, some true⟩], .dec true, .reg [oT]] [.code (cAt (bodyOf Try.f170) [1, 0, 0, 0]), .inLoop (cAt (bodyOf Try.f170) [1, 0, 0, 0]), .inBlock 0, .code (cAt (bodyOf Try.f170) [1, 1])] (SG g nb N m F T Q a b want) [0, 1, 2, 3] 1 (pebH N m F2 T2 Q) (.p (.bool false)) =
    some [((0 : Nat) < 1),
  ((0 : Int) ≤ (a)),
  (((a) : Int) < ((↑N : Int))),
  (((a.toNat) : Nat) < (N)),
  ((0 : Nat) < 1),
  ((0 : Int) ≤ (b)),
  (((b) : Int) < ((↑N : Int))),
  (((b.toNat) : Nat) < (N)),
  (((-9223372036854775808) : Int) ≤ (F a.toNat + F b.toNat)),
  (((F a.toNat + F b.toNat) : Int) ≤ 9223372036854775807),
  ((decide (F (a.toNat + 0) + F (b.toNat + 0) < want)) = true),
  (∀ i : Nat, ((((i) : Nat) < 1) → All [])),
  (∀ i : Nat, ((((i) : Nat) < (N)) → All [])),
  (∀ i : Nat, ((((i) : Nat) < (m)) → All [])),
  (∀ i : Nat, ((((i) : Nat) < (m)) → All [])),
  Con (Try.prog) 174 4 [(0, ⟨true, 3, 1, (fun i => [.ar 1 1 0 (N), .ar 1 2 0 (m), .ar 1 3 0 (m)])⟩), (1, ⟨false, 1, (N), (fun i => [.p (.int .i64 (F i))])⟩), (2, ⟨false, 1, (m), (fun i => [.p (.int .i64 (T i))])⟩), (3, ⟨false, 1, (m), (fun i => [.p (.int .i64 (Q i))])⟩)] [.p (.seq true 2 (nb) (fun i => [.int .i64 ((g i).fst), .int .i64 ((g i).snd.fst)])), .pt 3 0 0 0, .p (.int .i64 (a)), .p (.int .i64 (b))] [(0, ⟨true, 3, 1, (fun i => [.ar 1 1 0 (N), .ar 1 2 0 (m), .ar 1 3 0 (m)])⟩), (1, ⟨false, 1, (N), (fun i => [.p (.int .i64 (F1 i))])⟩), (2, ⟨false, 1, (m), (fun i => [.p (.int .i64 (T1 i))])⟩), (3, ⟨false, 1, (m), (fun i => [.p (.int .i64 (Q i))])⟩)] (.p (.bool false)),
  ((!false) = true),
  ((!false) = true),
  ((!false) = true),
  ((!false) = true),
  ((!false) = true),
  (∀ i : Nat, ((((i) : Nat) < 1) → All [])),
  (∀ i : Nat, ((((i) : Nat) < (N)) → All [])),
  (∀ i : Nat, ((((i) : Nat) < (m)) → All [])),
  (∀ i : Nat, ((((i) : Nat) < (m)) → All [])),
  Con (Try.prog) 174 4 [(0, ⟨true, 3, 1, (fun i => [.ar 1 1 0 (N), .ar 1 2 0 (m), .ar 1 3 0 (m)])⟩), (1, ⟨false, 1, (N), (fun i => [.p (.int .i64 (F1 i))])⟩), (2, ⟨false, 1, (m), (fun i => [.p (.int .i64 (T1 i))])⟩), (3, ⟨false, 1, (m), (fun i => [.p (.int .i64 (Q i))])⟩)] [.p (.seq true 2 (nb) (fun i => [.int .i64 ((g i).fst), .int .i64 ((g i).snd.fst)])), .pt 3 0 0 0, .p (.int .i64 (b)), .p (.int .i64 (a))] [(0, ⟨true, 3, 1, (fun i => [.ar 1 1 0 (N), .ar 1 2 0 (m), .ar 1 3 0 (m)])⟩), (1, ⟨false, 1, (N), (fun i => [.p (.int .i64 (F2 i))])⟩), (2, ⟨false, 1, (m), (fun i => [.p (.int .i64 (T2 i))])⟩), (3, ⟨false, 1, (m), (fun i => [.p (.int .i64 (Q i))])⟩)] (.p (.bool false)),
  ((!false) = true),
  ((!false) = true),
  ((!false) = true),
  (false = false),
  ((3 : Nat) = 3),
  ((1 : Nat) ≤ 1),
  ((1 : Nat) ≤ 1),
  ((0 : Nat) = 0),
  (((N) : Nat) = (N)),
  ((0 : Nat) = 0),
  (((m) : Nat) = (m)),
  ((0 : Nat) = 0),
  (((m) : Nat) = (m)),
  ((1 : Nat) = 1),
  (((N) : Nat) ≤ (N)),
  (∀ i : Nat, ((((i) : Nat) < (N)) → (All [] ∧ (([.p (.int .i64 (F2 i))] : List AV) = [.p (.int .i64 (F2 i))])))),
  ((1 : Nat) = 1),
  (((m) : Nat) ≤ (m)),
  (∀ i : Nat, ((((i) : Nat) < (m)) → (All [] ∧ (([.p (.int .i64 (T2 i))] : List AV) = [.p (.int .i64 (T2 i))])))),
  ((1 : Nat) = 1),
  (((m) : Nat) ≤ (m)),
  (∀ i : Nat, ((((i) : Nat) < (m)) → (All [] ∧ (([.p (.int .i64 (Q i))] : List AV) = [.p (.int .i64 (Q i))])))),
  (∀ i : Nat, ((((i) : Nat) < 1) → All [])),
  (∀ i : Nat, ((((i) : Nat) < (N)) → All [])),
  (∀ i : Nat, ((((i) : Nat) < (m)) → All [])),
  (∀ i : Nat, ((((i) : Nat) < (m)) → All []))] := by kernel_rfl
theorem pGd (g : Nat → T_Bar) (nb N m : Nat) (F T Q : Nat → Int) (a b want : Int) :
    pathOb Try.prog Try.f170 4 [.reg [oT, oT, oT, oT, oT, oT, oT, oT, oT, oT, oT, oT, oT, oT, oT, oT, oT], .dec false, .reg [oT]] [.code (cAt (bodyOf Try.f170) [1, 0, 0, 0]), .inLoop (cAt (bodyOf Try.f170) [1, 0, 0, 0]), .inBlock 0, .code (cAt (bodyOf Try.f170) [1, 1])] (SG g nb N m F T Q a b want) [0, 1, 2, 3] 1 (pebH N m F T Q) (.p (.bool true)) =
    some [((0 : Nat) < 1),
  ((0 : Int) ≤ (a)),
  (((a) : Int) < ((↑N : Int))),
  (((a.toNat) : Nat) < (N)),
  ((0 : Nat) < 1),
  ((0 : Int) ≤ (b)),
  (((b) : Int) < ((↑N : Int))),
  (((b.toNat) : Nat) < (N)),
  (((-9223372036854775808) : Int) ≤ (F a.toNat + F b.toNat)),
  (((F a.toNat + F b.toNat) : Int) ≤ 9223372036854775807),
  ((decide (F (a.toNat + 0) + F (b.toNat + 0) < want)) = false),
  (true = true),
  ((3 : Nat) = 3),
  ((1 : Nat) ≤ 1),
  ((1 : Nat) ≤ 1),
  ((0 : Nat) = 0),
  (((N) : Nat) = (N)),
  ((0 : Nat) = 0),
  (((m) : Nat) = (m)),
  ((0 : Nat) = 0),
  (((m) : Nat) = (m)),
  ((1 : Nat) = 1),
  (((N) : Nat) ≤ (N)),
  (∀ i : Nat, ((((i) : Nat) < (N)) → (All [] ∧ (([.p (.int .i64 (F i))] : List AV) = [.p (.int .i64 (F i))])))),
  ((1 : Nat) = 1),
  (((m) : Nat) ≤ (m)),
  (∀ i : Nat, ((((i) : Nat) < (m)) → (All [] ∧ (([.p (.int .i64 (T i))] : List AV) = [.p (.int .i64 (T i))])))),
  ((1 : Nat) = 1),
  (((m) : Nat) ≤ (m)),
  (∀ i : Nat, ((((i) : Nat) < (m)) → (All [] ∧ (([.p (.int .i64 (Q i))] : List AV) = [.p (.int .i64 (Q i))])))),
  (∀ i : Nat, ((((i) : Nat) < 1) → All [])),
  (∀ i : Nat, ((((i) : Nat) < (N)) → All [])),
  (∀ i : Nat, ((((i) : Nat) < (m)) → All [])),
  (∀ i : Nat, ((((i) : Nat) < (m)) → All []))] := by kernel_rfl
theorem pPf (g : Nat → T_Bar) (nb N m : Nat) (F T Q F1 T1 : Nat → Int) (l : Int) (e : Nat) :
    pathOb Try.prog Try.f159 4 [.reg [oT], .reg [oT, oT, oT, oT, oT, oT], .reg [oT, oT, oT, oT, oT, oT, oT, oT, ⟨true, (some ⟨[0, 1, 2, 3], [], 1, pebH N m F1 T1 Q, .p (.bool false)⟩), none⟩, oT], .dec true, .reg [oT]] [.code (bodyOf Try.f159)] (start Try.f159 (pebH N m F T Q) 4 [brL g nb, .p (.int .i64 l), .pt 3 0 0 0, .p (.int .i64 e)]) [0, 1, 2, 3] 1 (pebH N m F1 T1 Q) (.p (.bool false)) =
    some [((0 : Int) ≤ ((↑e : Int))),
  ((((↑e : Int)) : Int) < ((↑nb : Int))),
  ((0 : Nat) < 1),
  (((true) = true) → ((1 : Nat) = 1)),
  ((0 : Nat) < 1),
  ((0 : Nat) < 1),
  (((-9223372036854775808) : Int) ≤ (l + 1)),
  (((l + 1) : Int) ≤ 9223372036854775807),
  (∀ i : Nat, ((((i) : Nat) < 1) → All [])),
  (∀ i : Nat, ((((i) : Nat) < (N)) → All [])),
  (∀ i : Nat, ((((i) : Nat) < (m)) → All [])),
  (∀ i : Nat, ((((i) : Nat) < (m)) → All [])),
  Con (Try.prog) 170 4 [(0, ⟨true, 3, 1, (fun i => [.ar 1 1 0 (N), .ar 1 2 0 (m), .ar 1 3 0 (m)])⟩), (1, ⟨false, 1, (N), (fun i => [.p (.int .i64 (F i))])⟩), (2, ⟨false, 1, (m), (fun i => [.p (.int .i64 (T i))])⟩), (3, ⟨false, 1, (m), (fun i => [.p (.int .i64 (Q i))])⟩)] [.p (.seq true 2 (nb) (fun i => [.int .i64 ((g i).fst), .int .i64 ((g i).snd.fst)])), .pt 3 0 0 0, .p (.int .i64 ((g e).fst)), .p (.int .i64 ((g e).snd.fst)), .p (.int .i64 (l + 1))] [(0, ⟨true, 3, 1, (fun i => [.ar 1 1 0 (N), .ar 1 2 0 (m), .ar 1 3 0 (m)])⟩), (1, ⟨false, 1, (N), (fun i => [.p (.int .i64 (F1 i))])⟩), (2, ⟨false, 1, (m), (fun i => [.p (.int .i64 (T1 i))])⟩), (3, ⟨false, 1, (m), (fun i => [.p (.int .i64 (Q i))])⟩)] (.p (.bool false)),
  ((!false) = true),
  (false = false),
  ((3 : Nat) = 3),
  ((1 : Nat) ≤ 1),
  ((1 : Nat) ≤ 1),
  ((0 : Nat) = 0),
  (((N) : Nat) = (N)),
  ((0 : Nat) = 0),
  (((m) : Nat) = (m)),
  ((0 : Nat) = 0),
  (((m) : Nat) = (m)),
  ((1 : Nat) = 1),
  (((N) : Nat) ≤ (N)),
  (∀ i : Nat, ((((i) : Nat) < (N)) → (All [] ∧ (([.p (.int .i64 (F1 i))] : List AV) = [.p (.int .i64 (F1 i))])))),
  ((1 : Nat) = 1),
  (((m) : Nat) ≤ (m)),
  (∀ i : Nat, ((((i) : Nat) < (m)) → (All [] ∧ (([.p (.int .i64 (T1 i))] : List AV) = [.p (.int .i64 (T1 i))])))),
  ((1 : Nat) = 1),
  (((m) : Nat) ≤ (m)),
  (∀ i : Nat, ((((i) : Nat) < (m)) → (All [] ∧ (([.p (.int .i64 (Q i))] : List AV) = [.p (.int .i64 (Q i))])))),
  (∀ i : Nat, ((((i) : Nat) < 1) → All [])),
  (∀ i : Nat, ((((i) : Nat) < (N)) → All [])),
  (∀ i : Nat, ((((i) : Nat) < (m)) → All [])),
  (∀ i : Nat, ((((i) : Nat) < (m)) → All []))] := by kernel_rfl
theorem pPa (g : Nat → T_Bar) (nb N m : Nat) (F T Q F1 T1 : Nat → Int) (l : Int) (e : Nat) :
    pathOb Try.prog Try.f159 4 [.reg [oT], .reg [oT, oT, oT, oT, oT, oT], .reg [oT, oT, oT, oT, oT, oT, oT, oT, ⟨true, (some ⟨[0, 1, 2, 3], [], 1, pebH N m F1 T1 Q, .p (.bool true)⟩), none⟩, oT], .dec false, .reg [oT, oT, oT], .reg [oT, oT, oT, oT, oT, oT, oT, oT, oT], .dec false, .reg [oT, oT, oT, oT, oT, oT, oT, oT, oT, oT], .reg [oT, oT, oT, oT, oT, oT, oT, oT, oT, oT, oT], .reg [oT, oT, oT, oT, oT, oT, oT, oT, oT, oT, oT], .reg [oT]] [.code (bodyOf Try.f159)] (start Try.f159 (pebH N m F T Q) 4 [brL g nb, .p (.int .i64 l), .pt 3 0 0 0, .p (.int .i64 e)]) [0, 1, 2, 3, 1476, 1828] 1 (pebH2 N (m + 1) (fun s => if s = (g e).1.toNat then F1 s - 1 else F1 s) (fun s => if s < m then T1 s else (g e).1) (fun s => if s < m then Q s else e)) (.p (.bool true)) =
    some [((0 : Int) ≤ ((↑e : Int))),
  ((((↑e : Int)) : Int) < ((↑nb : Int))),
  ((0 : Nat) < 1),
  (((true) = true) → ((1 : Nat) = 1)),
  ((0 : Nat) < 1),
  ((0 : Nat) < 1),
  (((-9223372036854775808) : Int) ≤ (l + 1)),
  (((l + 1) : Int) ≤ 9223372036854775807),
  (∀ i : Nat, ((((i) : Nat) < 1) → All [])),
  (∀ i : Nat, ((((i) : Nat) < (N)) → All [])),
  (∀ i : Nat, ((((i) : Nat) < (m)) → All [])),
  (∀ i : Nat, ((((i) : Nat) < (m)) → All [])),
  Con (Try.prog) 170 4 [(0, ⟨true, 3, 1, (fun i => [.ar 1 1 0 (N), .ar 1 2 0 (m), .ar 1 3 0 (m)])⟩), (1, ⟨false, 1, (N), (fun i => [.p (.int .i64 (F i))])⟩), (2, ⟨false, 1, (m), (fun i => [.p (.int .i64 (T i))])⟩), (3, ⟨false, 1, (m), (fun i => [.p (.int .i64 (Q i))])⟩)] [.p (.seq true 2 (nb) (fun i => [.int .i64 ((g i).fst), .int .i64 ((g i).snd.fst)])), .pt 3 0 0 0, .p (.int .i64 ((g e).fst)), .p (.int .i64 ((g e).snd.fst)), .p (.int .i64 (l + 1))] [(0, ⟨true, 3, 1, (fun i => [.ar 1 1 0 (N), .ar 1 2 0 (m), .ar 1 3 0 (m)])⟩), (1, ⟨false, 1, (N), (fun i => [.p (.int .i64 (F1 i))])⟩), (2, ⟨false, 1, (m), (fun i => [.p (.int .i64 (T1 i))])⟩), (3, ⟨false, 1, (m), (fun i => [.p (.int .i64 (Q i))])⟩)] (.p (.bool true)),
  ((!true) = false),
  ((0 : Nat) < 1),
  ((0 : Nat) < 1),
  ((0 : Nat) < 1),
  ((0 : Int) ≤ ((g e).fst)),
  ((((g e).fst) : Int) < ((↑N : Int))),
  ((((g e).fst.toNat) : Nat) < (N)),
  ((F1 (g e).fst.toNat == 0) = false),
  ((0 : Nat) < 1),
  ((0 : Int) ≤ ((g e).fst)),
  ((((g e).fst) : Int) < ((↑N : Int))),
  ((((g e).fst.toNat) : Nat) < (N)),
  (((-9223372036854775808) : Int) ≤ (F1 (g e).fst.toNat - 1)),
  (((F1 (g e).fst.toNat - 1) : Int) ≤ 9223372036854775807),
  ((0 : Int) ≤ ((g e).fst)),
  ((((g e).fst) : Int) < ((↑N : Int))),
  ((((g e).fst.toNat) : Nat) < (N)),
  (((false) = true) → (((N) : Nat) = 1)),
  ((0 : Nat) < 1),
  ((1 : Nat) ≤ 1),
  (((m) : Nat) ≤ (m)),
  ((((m + 1) * 8) : Nat) ≤ 140737488355328),
  (((m + 1) : Nat) ≤ 9223372036854775807),
  ((0 : Nat) < 1),
  (((true) = true) → ((1 : Nat) = 1)),
  ((0 : Nat) < 1),
  ((1 : Nat) ≤ 1),
  (((m) : Nat) ≤ (m)),
  ((((m + 1) * 8) : Nat) ≤ 140737488355328),
  (((m + 1) : Nat) ≤ 9223372036854775807),
  ((0 : Nat) < 1),
  (((true) = true) → ((1 : Nat) = 1)),
  (true = true),
  ((3 : Nat) = 3),
  ((1 : Nat) ≤ 1),
  ((1 : Nat) ≤ 1),
  ((0 : Nat) = 0),
  (((N) : Nat) = (N)),
  ((0 : Nat) = 0),
  (((m + 1) : Nat) = (m + 1)),
  ((0 : Nat) = 0),
  (((m + 1) : Nat) = (m + 1)),
  ((1 : Nat) = 1),
  (((N) : Nat) ≤ (N)),
  (∀ i : Nat, ((((i) : Nat) < (N)) → (All (cvtL false [(0, ⟨true, 3, 1, (fun i_1 => [.ar 1 1 0 (N), .ar 1 1476 0 (m + 1), .ar 1 1828 0 (m + 1)])⟩), (1828, ⟨false, 1, (m + 1), (fun i_1 => (if (i_1 < m) then [.p (.int .i64 (Q i_1))] else [.p (.int .i64 ((↑e : Int)))]))⟩), (1796, ⟨false, 1, 1, (fun i_1 => [.p (.int .i64 ((↑e : Int)))])⟩), (1476, ⟨false, 1, (m + 1), (fun i_1 => (if (i_1 < m) then [.p (.int .i64 (T1 i_1))] else [.p (.int .i64 ((g e).fst))]))⟩), (1444, ⟨false, 1, 1, (fun i_1 => [.p (.int .i64 ((g e).fst))])⟩), (1, ⟨false, 1, (N), (fun i_1 => (if (i_1 = (g e).fst.toNat) then [.p (.int .i64 (F1 (g e).fst.toNat - 1))] else [.p (.int .i64 (F1 i_1))]))⟩), (164, ⟨true, 2, 1, (fun i_1 => [.p (.int .i64 ((g e).fst)), .p (.int .i64 ((g e).snd.fst))])⟩)] [0, 1, 2, 3, 1476, 1828] 1 (if (i = (g e).fst.toNat) then [.p (.int .i64 (F1 (g e).fst.toNat - 1))] else [.p (.int .i64 (F1 i))])).2 ∧ (((cvtL false [(0, ⟨true, 3, 1, (fun i_1 => [.ar 1 1 0 (N), .ar 1 1476 0 (m + 1), .ar 1 1828 0 (m + 1)])⟩), (1828, ⟨false, 1, (m + 1), (fun i_1 => (if (i_1 < m) then [.p (.int .i64 (Q i_1))] else [.p (.int .i64 ((↑e : Int)))]))⟩), (1796, ⟨false, 1, 1, (fun i_1 => [.p (.int .i64 ((↑e : Int)))])⟩), (1476, ⟨false, 1, (m + 1), (fun i_1 => (if (i_1 < m) then [.p (.int .i64 (T1 i_1))] else [.p (.int .i64 ((g e).fst))]))⟩), (1444, ⟨false, 1, 1, (fun i_1 => [.p (.int .i64 ((g e).fst))])⟩), (1, ⟨false, 1, (N), (fun i_1 => (if (i_1 = (g e).fst.toNat) then [.p (.int .i64 (F1 (g e).fst.toNat - 1))] else [.p (.int .i64 (F1 i_1))]))⟩), (164, ⟨true, 2, 1, (fun i_1 => [.p (.int .i64 ((g e).fst)), .p (.int .i64 ((g e).snd.fst))])⟩)] [0, 1, 2, 3, 1476, 1828] 1 (if (i = (g e).fst.toNat) then [.p (.int .i64 (F1 (g e).fst.toNat - 1))] else [.p (.int .i64 (F1 i))])).1 : List AV) = [.p (.int .i64 (if i = (g e).fst.toNat then F1 i - 1 else F1 i))])))),
  ((1 : Nat) = 1),
  (((m + 1) : Nat) ≤ (m + 1)),
  (∀ i : Nat, ((((i) : Nat) < (m + 1)) → (All (cvtL false [(0, ⟨true, 3, 1, (fun i_1 => [.ar 1 1 0 (N), .ar 1 1476 0 (m + 1), .ar 1 1828 0 (m + 1)])⟩), (1828, ⟨false, 1, (m + 1), (fun i_1 => (if (i_1 < m) then [.p (.int .i64 (Q i_1))] else [.p (.int .i64 ((↑e : Int)))]))⟩), (1796, ⟨false, 1, 1, (fun i_1 => [.p (.int .i64 ((↑e : Int)))])⟩), (1476, ⟨false, 1, (m + 1), (fun i_1 => (if (i_1 < m) then [.p (.int .i64 (T1 i_1))] else [.p (.int .i64 ((g e).fst))]))⟩), (1444, ⟨false, 1, 1, (fun i_1 => [.p (.int .i64 ((g e).fst))])⟩), (1, ⟨false, 1, (N), (fun i_1 => (if (i_1 = (g e).fst.toNat) then [.p (.int .i64 (F1 (g e).fst.toNat - 1))] else [.p (.int .i64 (F1 i_1))]))⟩), (164, ⟨true, 2, 1, (fun i_1 => [.p (.int .i64 ((g e).fst)), .p (.int .i64 ((g e).snd.fst))])⟩)] [0, 1, 2, 3, 1476, 1828] 1 (if (i < m) then [.p (.int .i64 (T1 i))] else [.p (.int .i64 ((g e).fst))])).2 ∧ (((cvtL false [(0, ⟨true, 3, 1, (fun i_1 => [.ar 1 1 0 (N), .ar 1 1476 0 (m + 1), .ar 1 1828 0 (m + 1)])⟩), (1828, ⟨false, 1, (m + 1), (fun i_1 => (if (i_1 < m) then [.p (.int .i64 (Q i_1))] else [.p (.int .i64 ((↑e : Int)))]))⟩), (1796, ⟨false, 1, 1, (fun i_1 => [.p (.int .i64 ((↑e : Int)))])⟩), (1476, ⟨false, 1, (m + 1), (fun i_1 => (if (i_1 < m) then [.p (.int .i64 (T1 i_1))] else [.p (.int .i64 ((g e).fst))]))⟩), (1444, ⟨false, 1, 1, (fun i_1 => [.p (.int .i64 ((g e).fst))])⟩), (1, ⟨false, 1, (N), (fun i_1 => (if (i_1 = (g e).fst.toNat) then [.p (.int .i64 (F1 (g e).fst.toNat - 1))] else [.p (.int .i64 (F1 i_1))]))⟩), (164, ⟨true, 2, 1, (fun i_1 => [.p (.int .i64 ((g e).fst)), .p (.int .i64 ((g e).snd.fst))])⟩)] [0, 1, 2, 3, 1476, 1828] 1 (if (i < m) then [.p (.int .i64 (T1 i))] else [.p (.int .i64 ((g e).fst))])).1 : List AV) = [.p (.int .i64 (if i < m then T1 i else (g e).fst))])))),
  ((1 : Nat) = 1),
  (((m + 1) : Nat) ≤ (m + 1)),
  (∀ i : Nat, ((((i) : Nat) < (m + 1)) → (All (cvtL false [(0, ⟨true, 3, 1, (fun i_1 => [.ar 1 1 0 (N), .ar 1 1476 0 (m + 1), .ar 1 1828 0 (m + 1)])⟩), (1828, ⟨false, 1, (m + 1), (fun i_1 => (if (i_1 < m) then [.p (.int .i64 (Q i_1))] else [.p (.int .i64 ((↑e : Int)))]))⟩), (1796, ⟨false, 1, 1, (fun i_1 => [.p (.int .i64 ((↑e : Int)))])⟩), (1476, ⟨false, 1, (m + 1), (fun i_1 => (if (i_1 < m) then [.p (.int .i64 (T1 i_1))] else [.p (.int .i64 ((g e).fst))]))⟩), (1444, ⟨false, 1, 1, (fun i_1 => [.p (.int .i64 ((g e).fst))])⟩), (1, ⟨false, 1, (N), (fun i_1 => (if (i_1 = (g e).fst.toNat) then [.p (.int .i64 (F1 (g e).fst.toNat - 1))] else [.p (.int .i64 (F1 i_1))]))⟩), (164, ⟨true, 2, 1, (fun i_1 => [.p (.int .i64 ((g e).fst)), .p (.int .i64 ((g e).snd.fst))])⟩)] [0, 1, 2, 3, 1476, 1828] 1 (if (i < m) then [.p (.int .i64 (Q i))] else [.p (.int .i64 ((↑e : Int)))])).2 ∧ (((cvtL false [(0, ⟨true, 3, 1, (fun i_1 => [.ar 1 1 0 (N), .ar 1 1476 0 (m + 1), .ar 1 1828 0 (m + 1)])⟩), (1828, ⟨false, 1, (m + 1), (fun i_1 => (if (i_1 < m) then [.p (.int .i64 (Q i_1))] else [.p (.int .i64 ((↑e : Int)))]))⟩), (1796, ⟨false, 1, 1, (fun i_1 => [.p (.int .i64 ((↑e : Int)))])⟩), (1476, ⟨false, 1, (m + 1), (fun i_1 => (if (i_1 < m) then [.p (.int .i64 (T1 i_1))] else [.p (.int .i64 ((g e).fst))]))⟩), (1444, ⟨false, 1, 1, (fun i_1 => [.p (.int .i64 ((g e).fst))])⟩), (1, ⟨false, 1, (N), (fun i_1 => (if (i_1 = (g e).fst.toNat) then [.p (.int .i64 (F1 (g e).fst.toNat - 1))] else [.p (.int .i64 (F1 i_1))]))⟩), (164, ⟨true, 2, 1, (fun i_1 => [.p (.int .i64 ((g e).fst)), .p (.int .i64 ((g e).snd.fst))])⟩)] [0, 1, 2, 3, 1476, 1828] 1 (if (i < m) then [.p (.int .i64 (Q i))] else [.p (.int .i64 ((↑e : Int)))])).1 : List AV) = [.p (.int .i64 (if i < m then Q i else (↑e : Int)))])))),
  (∀ i : Nat, ((((i) : Nat) < 1) → All [])),
  (∀ i : Nat, ((((i) : Nat) < (N)) → All [])),
  (∀ i : Nat, ((((i) : Nat) < (m + 1)) → All [])),
  (∀ i : Nat, ((((i) : Nat) < (m + 1)) → All []))] := by kernel_rfl
theorem pPb (g : Nat → T_Bar) (nb N m : Nat) (F T Q F1 T1 : Nat → Int) (l : Int) (e : Nat) :
    pathOb Try.prog Try.f159 4 [.reg [oT], .reg [oT, oT, oT, oT, oT, oT], .reg [oT, oT, oT, oT, oT, oT, oT, oT, ⟨true, (some ⟨[0, 1, 2, 3], [], 1, pebH N m F1 T1 Q, .p (.bool true)⟩), none⟩, oT], .dec false, .reg [oT, oT, oT], .reg [oT, oT, oT, oT, oT, oT, oT, oT, oT], .dec true, .reg [oT, oT, oT], .reg [oT, oT, oT, oT, oT, oT, oT, oT, oT, oT], .reg [oT, oT, oT, oT, oT, oT, oT, oT, oT, oT, oT], .reg [oT, oT, oT, oT, oT, oT, oT, oT, oT, oT, oT], .reg [oT]] [.code (bodyOf Try.f159)] (start Try.f159 (pebH N m F T Q) 4 [brL g nb, .p (.int .i64 l), .pt 3 0 0 0, .p (.int .i64 e)]) [0, 1, 2, 3, 1572, 1924] 1 (pebH2 N (m + 1) (fun s => if s = (g e).2.1.toNat then F1 s - 1 else F1 s) (fun s => if s < m then T1 s else (g e).2.1) (fun s => if s < m then Q s else e)) (.p (.bool true)) =
    some [((0 : Int) ≤ ((↑e : Int))),
  ((((↑e : Int)) : Int) < ((↑nb : Int))),
  ((0 : Nat) < 1),
  (((true) = true) → ((1 : Nat) = 1)),
  ((0 : Nat) < 1),
  ((0 : Nat) < 1),
  (((-9223372036854775808) : Int) ≤ (l + 1)),
  (((l + 1) : Int) ≤ 9223372036854775807),
  (∀ i : Nat, ((((i) : Nat) < 1) → All [])),
  (∀ i : Nat, ((((i) : Nat) < (N)) → All [])),
  (∀ i : Nat, ((((i) : Nat) < (m)) → All [])),
  (∀ i : Nat, ((((i) : Nat) < (m)) → All [])),
  Con (Try.prog) 170 4 [(0, ⟨true, 3, 1, (fun i => [.ar 1 1 0 (N), .ar 1 2 0 (m), .ar 1 3 0 (m)])⟩), (1, ⟨false, 1, (N), (fun i => [.p (.int .i64 (F i))])⟩), (2, ⟨false, 1, (m), (fun i => [.p (.int .i64 (T i))])⟩), (3, ⟨false, 1, (m), (fun i => [.p (.int .i64 (Q i))])⟩)] [.p (.seq true 2 (nb) (fun i => [.int .i64 ((g i).fst), .int .i64 ((g i).snd.fst)])), .pt 3 0 0 0, .p (.int .i64 ((g e).fst)), .p (.int .i64 ((g e).snd.fst)), .p (.int .i64 (l + 1))] [(0, ⟨true, 3, 1, (fun i => [.ar 1 1 0 (N), .ar 1 2 0 (m), .ar 1 3 0 (m)])⟩), (1, ⟨false, 1, (N), (fun i => [.p (.int .i64 (F1 i))])⟩), (2, ⟨false, 1, (m), (fun i => [.p (.int .i64 (T1 i))])⟩), (3, ⟨false, 1, (m), (fun i => [.p (.int .i64 (Q i))])⟩)] (.p (.bool true)),
  ((!true) = false),
  ((0 : Nat) < 1),
  ((0 : Nat) < 1),
  ((0 : Nat) < 1),
  ((0 : Int) ≤ ((g e).fst)),
  ((((g e).fst) : Int) < ((↑N : Int))),
  ((((g e).fst.toNat) : Nat) < (N)),
  ((F1 (g e).fst.toNat == 0) = true),
  ((0 : Nat) < 1),
  ((0 : Nat) < 1),
  ((0 : Int) ≤ ((g e).snd.fst)),
  ((((g e).snd.fst) : Int) < ((↑N : Int))),
  ((((g e).snd.fst.toNat) : Nat) < (N)),
  (((-9223372036854775808) : Int) ≤ (F1 (g e).snd.fst.toNat - 1)),
  (((F1 (g e).snd.fst.toNat - 1) : Int) ≤ 9223372036854775807),
  ((0 : Int) ≤ ((g e).snd.fst)),
  ((((g e).snd.fst) : Int) < ((↑N : Int))),
  ((((g e).snd.fst.toNat) : Nat) < (N)),
  (((false) = true) → (((N) : Nat) = 1)),
  ((0 : Nat) < 1),
  ((1 : Nat) ≤ 1),
  (((m) : Nat) ≤ (m)),
  ((((m + 1) * 8) : Nat) ≤ 140737488355328),
  (((m + 1) : Nat) ≤ 9223372036854775807),
  ((0 : Nat) < 1),
  (((true) = true) → ((1 : Nat) = 1)),
  ((0 : Nat) < 1),
  ((1 : Nat) ≤ 1),
  (((m) : Nat) ≤ (m)),
  ((((m + 1) * 8) : Nat) ≤ 140737488355328),
  (((m + 1) : Nat) ≤ 9223372036854775807),
  ((0 : Nat) < 1),
  (((true) = true) → ((1 : Nat) = 1)),
  (true = true),
  ((3 : Nat) = 3),
  ((1 : Nat) ≤ 1),
  ((1 : Nat) ≤ 1),
  ((0 : Nat) = 0),
  (((N) : Nat) = (N)),
  ((0 : Nat) = 0),
  (((m + 1) : Nat) = (m + 1)),
  ((0 : Nat) = 0),
  (((m + 1) : Nat) = (m + 1)),
  ((1 : Nat) = 1),
  (((N) : Nat) ≤ (N)),
  (∀ i : Nat, ((((i) : Nat) < (N)) → (All (cvtL false [(0, ⟨true, 3, 1, (fun i_1 => [.ar 1 1 0 (N), .ar 1 1572 0 (m + 1), .ar 1 1924 0 (m + 1)])⟩), (1924, ⟨false, 1, (m + 1), (fun i_1 => (if (i_1 < m) then [.p (.int .i64 (Q i_1))] else [.p (.int .i64 ((↑e : Int)))]))⟩), (1892, ⟨false, 1, 1, (fun i_1 => [.p (.int .i64 ((↑e : Int)))])⟩), (1572, ⟨false, 1, (m + 1), (fun i_1 => (if (i_1 < m) then [.p (.int .i64 (T1 i_1))] else [.p (.int .i64 ((g e).snd.fst))]))⟩), (1540, ⟨false, 1, 1, (fun i_1 => [.p (.int .i64 ((g e).snd.fst))])⟩), (1, ⟨false, 1, (N), (fun i_1 => (if (i_1 = (g e).snd.fst.toNat) then [.p (.int .i64 (F1 (g e).snd.fst.toNat - 1))] else [.p (.int .i64 (F1 i_1))]))⟩), (164, ⟨true, 2, 1, (fun i_1 => [.p (.int .i64 ((g e).fst)), .p (.int .i64 ((g e).snd.fst))])⟩)] [0, 1, 2, 3, 1572, 1924] 1 (if (i = (g e).snd.fst.toNat) then [.p (.int .i64 (F1 (g e).snd.fst.toNat - 1))] else [.p (.int .i64 (F1 i))])).2 ∧ (((cvtL false [(0, ⟨true, 3, 1, (fun i_1 => [.ar 1 1 0 (N), .ar 1 1572 0 (m + 1), .ar 1 1924 0 (m + 1)])⟩), (1924, ⟨false, 1, (m + 1), (fun i_1 => (if (i_1 < m) then [.p (.int .i64 (Q i_1))] else [.p (.int .i64 ((↑e : Int)))]))⟩), (1892, ⟨false, 1, 1, (fun i_1 => [.p (.int .i64 ((↑e : Int)))])⟩), (1572, ⟨false, 1, (m + 1), (fun i_1 => (if (i_1 < m) then [.p (.int .i64 (T1 i_1))] else [.p (.int .i64 ((g e).snd.fst))]))⟩), (1540, ⟨false, 1, 1, (fun i_1 => [.p (.int .i64 ((g e).snd.fst))])⟩), (1, ⟨false, 1, (N), (fun i_1 => (if (i_1 = (g e).snd.fst.toNat) then [.p (.int .i64 (F1 (g e).snd.fst.toNat - 1))] else [.p (.int .i64 (F1 i_1))]))⟩), (164, ⟨true, 2, 1, (fun i_1 => [.p (.int .i64 ((g e).fst)), .p (.int .i64 ((g e).snd.fst))])⟩)] [0, 1, 2, 3, 1572, 1924] 1 (if (i = (g e).snd.fst.toNat) then [.p (.int .i64 (F1 (g e).snd.fst.toNat - 1))] else [.p (.int .i64 (F1 i))])).1 : List AV) = [.p (.int .i64 (if i = (g e).snd.fst.toNat then F1 i - 1 else F1 i))])))),
  ((1 : Nat) = 1),
  (((m + 1) : Nat) ≤ (m + 1)),
  (∀ i : Nat, ((((i) : Nat) < (m + 1)) → (All (cvtL false [(0, ⟨true, 3, 1, (fun i_1 => [.ar 1 1 0 (N), .ar 1 1572 0 (m + 1), .ar 1 1924 0 (m + 1)])⟩), (1924, ⟨false, 1, (m + 1), (fun i_1 => (if (i_1 < m) then [.p (.int .i64 (Q i_1))] else [.p (.int .i64 ((↑e : Int)))]))⟩), (1892, ⟨false, 1, 1, (fun i_1 => [.p (.int .i64 ((↑e : Int)))])⟩), (1572, ⟨false, 1, (m + 1), (fun i_1 => (if (i_1 < m) then [.p (.int .i64 (T1 i_1))] else [.p (.int .i64 ((g e).snd.fst))]))⟩), (1540, ⟨false, 1, 1, (fun i_1 => [.p (.int .i64 ((g e).snd.fst))])⟩), (1, ⟨false, 1, (N), (fun i_1 => (if (i_1 = (g e).snd.fst.toNat) then [.p (.int .i64 (F1 (g e).snd.fst.toNat - 1))] else [.p (.int .i64 (F1 i_1))]))⟩), (164, ⟨true, 2, 1, (fun i_1 => [.p (.int .i64 ((g e).fst)), .p (.int .i64 ((g e).snd.fst))])⟩)] [0, 1, 2, 3, 1572, 1924] 1 (if (i < m) then [.p (.int .i64 (T1 i))] else [.p (.int .i64 ((g e).snd.fst))])).2 ∧ (((cvtL false [(0, ⟨true, 3, 1, (fun i_1 => [.ar 1 1 0 (N), .ar 1 1572 0 (m + 1), .ar 1 1924 0 (m + 1)])⟩), (1924, ⟨false, 1, (m + 1), (fun i_1 => (if (i_1 < m) then [.p (.int .i64 (Q i_1))] else [.p (.int .i64 ((↑e : Int)))]))⟩), (1892, ⟨false, 1, 1, (fun i_1 => [.p (.int .i64 ((↑e : Int)))])⟩), (1572, ⟨false, 1, (m + 1), (fun i_1 => (if (i_1 < m) then [.p (.int .i64 (T1 i_1))] else [.p (.int .i64 ((g e).snd.fst))]))⟩), (1540, ⟨false, 1, 1, (fun i_1 => [.p (.int .i64 ((g e).snd.fst))])⟩), (1, ⟨false, 1, (N), (fun i_1 => (if (i_1 = (g e).snd.fst.toNat) then [.p (.int .i64 (F1 (g e).snd.fst.toNat - 1))] else [.p (.int .i64 (F1 i_1))]))⟩), (164, ⟨true, 2, 1, (fun i_1 => [.p (.int .i64 ((g e).fst)), .p (.int .i64 ((g e).snd.fst))])⟩)] [0, 1, 2, 3, 1572, 1924] 1 (if (i < m) then [.p (.int .i64 (T1 i))] else [.p (.int .i64 ((g e).snd.fst))])).1 : List AV) = [.p (.int .i64 (if i < m then T1 i else (g e).snd.fst))])))),
  ((1 : Nat) = 1),
  (((m + 1) : Nat) ≤ (m + 1)),
  (∀ i : Nat, ((((i) : Nat) < (m + 1)) → (All (cvtL false [(0, ⟨true, 3, 1, (fun i_1 => [.ar 1 1 0 (N), .ar 1 1572 0 (m + 1), .ar 1 1924 0 (m + 1)])⟩), (1924, ⟨false, 1, (m + 1), (fun i_1 => (if (i_1 < m) then [.p (.int .i64 (Q i_1))] else [.p (.int .i64 ((↑e : Int)))]))⟩), (1892, ⟨false, 1, 1, (fun i_1 => [.p (.int .i64 ((↑e : Int)))])⟩), (1572, ⟨false, 1, (m + 1), (fun i_1 => (if (i_1 < m) then [.p (.int .i64 (T1 i_1))] else [.p (.int .i64 ((g e).snd.fst))]))⟩), (1540, ⟨false, 1, 1, (fun i_1 => [.p (.int .i64 ((g e).snd.fst))])⟩), (1, ⟨false, 1, (N), (fun i_1 => (if (i_1 = (g e).snd.fst.toNat) then [.p (.int .i64 (F1 (g e).snd.fst.toNat - 1))] else [.p (.int .i64 (F1 i_1))]))⟩), (164, ⟨true, 2, 1, (fun i_1 => [.p (.int .i64 ((g e).fst)), .p (.int .i64 ((g e).snd.fst))])⟩)] [0, 1, 2, 3, 1572, 1924] 1 (if (i < m) then [.p (.int .i64 (Q i))] else [.p (.int .i64 ((↑e : Int)))])).2 ∧ (((cvtL false [(0, ⟨true, 3, 1, (fun i_1 => [.ar 1 1 0 (N), .ar 1 1572 0 (m + 1), .ar 1 1924 0 (m + 1)])⟩), (1924, ⟨false, 1, (m + 1), (fun i_1 => (if (i_1 < m) then [.p (.int .i64 (Q i_1))] else [.p (.int .i64 ((↑e : Int)))]))⟩), (1892, ⟨false, 1, 1, (fun i_1 => [.p (.int .i64 ((↑e : Int)))])⟩), (1572, ⟨false, 1, (m + 1), (fun i_1 => (if (i_1 < m) then [.p (.int .i64 (T1 i_1))] else [.p (.int .i64 ((g e).snd.fst))]))⟩), (1540, ⟨false, 1, 1, (fun i_1 => [.p (.int .i64 ((g e).snd.fst))])⟩), (1, ⟨false, 1, (N), (fun i_1 => (if (i_1 = (g e).snd.fst.toNat) then [.p (.int .i64 (F1 (g e).snd.fst.toNat - 1))] else [.p (.int .i64 (F1 i_1))]))⟩), (164, ⟨true, 2, 1, (fun i_1 => [.p (.int .i64 ((g e).fst)), .p (.int .i64 ((g e).snd.fst))])⟩)] [0, 1, 2, 3, 1572, 1924] 1 (if (i < m) then [.p (.int .i64 (Q i))] else [.p (.int .i64 ((↑e : Int)))])).1 : List AV) = [.p (.int .i64 (if i < m then Q i else (↑e : Int)))])))),
  (∀ i : Nat, ((((i) : Nat) < 1) → All [])),
  (∀ i : Nat, ((((i) : Nat) < (N)) → All [])),
  (∀ i : Nat, ((((i) : Nat) < (m + 1)) → All [])),
  (∀ i : Nat, ((((i) : Nat) < (m + 1)) → All []))] := by kernel_rfl

def brN (x : T_Bar) : Nat × Nat := (x.1.toNat, x.2.1.toNat)
def plL (g : Nat → T_Bar) (Q : Nat → Int) : Nat → List (Nat × Nat)
  | 0 => []
  | m + 1 => plL g Q m ++ [brN (g (Q m).toNat)]
def gmL (g : Nat → T_Bar) (T Q : Nat → Int) : Nat → List Mat.PB
  | 0 => []
  | m + 1 => gmL g T Q m ++ [((T m).toNat, brN (g (Q m).toNat))]

theorem barsOf_app : ∀ a b : List Mat.PB, Mat.barsOf (a ++ b) = Mat.barsOf a ++ Mat.barsOf b
  | [], _ => rfl
  | p :: a, b => by simp only [List.cons_append, Mat.barsOf, barsOf_app a b]

theorem tc_app (v : Nat) : ∀ a b : List Mat.PB, Mat.tc v (a ++ b) = Mat.tc v a + Mat.tc v b
  | [], b => by simp [Mat.tc]
  | p :: a, b => by simp only [List.cons_append, Mat.tc, tc_app v a b]; omega

theorem barsOf_gm (g : Nat → T_Bar) (T Q : Nat → Int) : ∀ m, Mat.barsOf (gmL g T Q m) = plL g Q m
  | 0 => rfl
  | m + 1 => by simp only [gmL, plL, barsOf_app, barsOf_gm g T Q m, Mat.barsOf]

theorem tc_gm (g : Nat → T_Bar) (T Q : Nat → Int) (v : Nat) : ∀ m, (∀ j, j < m → 0 ≤ T j) → (Mat.tc v (gmL g T Q m) : Int) = tcI T m v
  | 0, _ => rfl
  | m + 1, h => by
    have ih := tc_gm g T Q v m (fun j hj => h j (by omega))
    have h1 := h m (by omega)
    simp only [gmL, tc_app, Mat.tc, tcI]
    by_cases e : T m = v
    · have e' : ((T m).toNat == v) = true := by simp; omega
      rw [e', if_pos e]; simp; omega
    · have e' : ((T m).toNat == v) = false := by simp; omega
      rw [e', if_neg e]; simp; omega

theorem mem_gm (g : Nat → T_Bar) (T Q : Nat → Int) (p : Mat.PB) : ∀ m, p ∈ gmL g T Q m → ∃ j, j < m ∧ p = ((T j).toNat, brN (g (Q j).toNat))
  | 0, h => by cases h
  | m + 1, h => by
    simp only [gmL, List.mem_append, List.mem_singleton] at h
    rcases h with h | h
    · obtain ⟨j, h1, h2⟩ := mem_gm g T Q p m h
      exact ⟨j, by omega, h2⟩
    · exact ⟨m, by omega, h⟩

theorem PInv.t0 {N k nb m : Nat} {g : Nat → T_Bar} {F T Q : Nat → Int} (h : PInv N k nb m g F T Q) : ∀ j, j < m → 0 ≤ T j ∧ T j < N := by
  intro j hj
  have h1 := h.q j hj
  have h2 := h.bars (Q j).toNat (by omega)
  rcases h.t j hj with e | e <;> rw [e] <;> omega

theorem PInv.game {N k nb m : Nat} {g : Nat → T_Bar} {F T Q : Nat → Int} (h : PInv N k nb m g F T Q) (l : Nat) : Mat.Game N k l (fun v => (F v).toNat) (gmL g T Q m) := by
  refine ⟨fun p hp => ?_, fun p hp => ?_, fun v hv => ?_⟩
  · obtain ⟨j, h1, rfl⟩ := mem_gm g T Q p m hp
    simp only [brN]
    rcases h.t j h1 with e | e
    · left; rw [e]
    · right; rw [e]
  · obtain ⟨j, h1, rfl⟩ := mem_gm g T Q p m hp
    have h2 := h.q j h1
    have h3 := h.bars (Q j).toNat (by omega)
    simp only [brN, Mat.GoodBar]
    omega
  · have h1 := h.sum v hv
    have h2 := h.f0 v hv
    have h3 := tc_gm g T Q v m (fun j hj => (h.t0 j hj).1)
    show (F v).toNat + Mat.tc v (gmL g T Q m) = k
    omega

theorem gather_no {N k nb m l : Nat} {g : Nat → T_Bar} {F T Q : Nat → Int} {a b : Int} (hp : PInv N k nb m g F T Q) (ha : 0 ≤ a ∧ a < N) (hb : 0 ≤ b ∧ b < N) (hab : a ≠ b) (hs : F a.toNat + F b.toNat ≤ l)
    {F1 T1 F2 T2 : Nat → Int} (h1 : Moved N k nb m g F T Q a b F1 T1 false) (h2 : Moved N k nb m g F T Q b a F2 T2 false) : ¬ Mat.Sparse N k l (plL g Q m ++ [(a.toNat, b.toNat)]) := by
  obtain ⟨_, _, R1, r1, c1, z1⟩ := h1.no rfl
  obtain ⟨_, _, R2, r2, c2, z2⟩ := h2.no rfl
  have f1 := hp.f0 a.toNat (by omega)
  have f2 := hp.f0 b.toNat (by omega)
  rw [← barsOf_gm g T Q m]
  refine (hp.game l).reject a.toNat b.toNat ⟨by show a.toNat ≠ b.toNat; omega, by show a.toNat < N; omega, by show b.toNat < N; omega⟩ (by show (F a.toNat).toNat + (F b.toNat).toNat ≤ l; omega) (fun v => R1 v || R2 v) (by simp [r1]) (by simp [r2]) (fun p hpm hR => ?_) (fun v hR v1 v2 => ?_)
  · obtain ⟨j, h3, rfl⟩ := mem_gm g T Q p m hpm
    have key : ∀ R : Nat → Bool, R (T j).toNat = true → R (othF (g (Q j).toNat) (T j)).toNat = true → R (g (Q j).toNat).1.toNat = true ∧ R (g (Q j).toNat).2.1.toNat = true := by
      intro R k1 k2
      unfold othF at k2
      by_cases e : (g (Q j).toNat).1 = T j
      · rw [if_pos e] at k2
        exact ⟨by rw [e]; exact k1, k2⟩
      · rw [if_neg e] at k2
        rcases hp.t j h3 with e' | e'
        · exact absurd e'.symm e
        · exact ⟨k2, by rw [← e']; exact k1⟩
    simp only [Mat.inn, brN]
    simp only [Bool.or_eq_true] at hR
    rcases hR with hR | hR
    · obtain ⟨k1, k2⟩ := key R1 hR (c1 j h3 hR)
      simp [k1, k2]
    · obtain ⟨k1, k2⟩ := key R2 hR (c2 j h3 hR)
      simp [k1, k2]
  · simp only [Bool.or_eq_true] at hR
    have : F v = 0 := by
      rcases hR with hR | hR
      · exact z1 v hR (by omega) (by omega)
      · exact z2 v hR (by omega) (by omega)
    show (F v).toNat = 0
    rw [this]; rfl

/-- Pebbles gathered at two points. -/
theorem con_gather {N k nb m l : Nat} {g : Nat → T_Bar} {F T Q : Nat → Int} {a b : Int} (hp : PInv N k nb m g F T Q) (hk : k ≤ 1048576) (hN : N ≤ 1048576) (hm : m ≤ 1048576) (hnb : nb ≤ 1048576)
    (ha : 0 ≤ a ∧ a < N) (hb : 0 ≤ b ∧ b < N) (hab : a ≠ b) : ∃ F' T' r, Con Try.prog 170 4 (pebH N m F T Q) [brL g nb, .pt 3 0 0 0, .p (.int .i64 a), .p (.int .i64 b), .p (.int .i64 ((l : Int) + 1))] (pebH N m F' T' Q) (.p (.bool r)) ∧
      PInv N k nb m g F' T' Q ∧ (r = true → (l : Int) + 1 ≤ F' a.toNat + F' b.toNat) ∧ (r = false → ¬ Mat.Sparse N k l (plL g Q m ++ [(a.toNat, b.toNat)])) := by
  have lp : ∀ d F T, PInv N k nb m g F T Q → (l : Int) + 1 ≤ F a.toNat + F b.toNat + (d : Nat) → ∃ F' T' r, (∀ c, c.n = 4 → Run Try.prog c 170 [.code (cAt (bodyOf Try.f170) [1, 0, 0, 0]), .inLoop (cAt (bodyOf Try.f170) [1, 0, 0, 0]), .inBlock 0, .code (cAt (bodyOf Try.f170) [1, 1])] (SG g nb N m F T Q a b ((l : Int) + 1)) (Post c (pebH N m F' T' Q) (.p (.bool r)))) ∧
      PInv N k nb m g F' T' Q ∧ (r = true → (l : Int) + 1 ≤ F' a.toNat + F' b.toNat) ∧ (r = false → ¬ Mat.Sparse N k l (plL g Q m ++ [(a.toNat, b.toNat)])) := by
    intro d
    induction d with
    | zero =>
      intro F T hp hw
      have hd : decide (F a.toNat + F b.toNat < (l : Int) + 1) = false := by simp; omega
      have l1 := hp.le (v := a.toNat) (by omega)
      have l2 := hp.le (v := b.toNat) (by omega)
      refine ⟨F, T, true, fun c hc => ?_, hp, (fun _ => by omega), (fun h => by cases h)⟩
      refine path_ok mixed Try.func170 hc (pGd g nb N m F T Q a b ((l : Int) + 1)) ?_
      simp only [All]
      repeat' (first | exact trivial | with_reducible apply And.intro)
      all_goals (first | omega | rfl | (intros; first | assumption | exact True.intro | rfl | exact absurd (show false = true by assumption) Bool.false_ne_true | ((repeat' (first | assumption | apply anda | apply notf)); done)) | (exact hd) | (intro i hi; simp [All]))
    | succ d ih =>
      intro F T hp hw
      have l1 := hp.le (v := a.toNat) (by omega)
      have l2 := hp.le (v := b.toNat) (by omega)
      by_cases hs : F a.toNat + F b.toNat < (l : Int) + 1
      · have hd : decide (F a.toNat + F b.toNat < (l : Int) + 1) = true := by simp; omega
        obtain ⟨F1, T1, r1, hc1, hm1⟩ := con_moveTo hp hk hN hm hnb ha hb hab
        cases r1 with
        | true =>
          obtain ⟨y1, y2⟩ := hm1.yes rfl
          obtain ⟨F', T', r, hrun, h1, h2, h3⟩ := ih F1 T1 hm1.inv (by omega)
          refine ⟨F', T', r, fun c hc => ?_, h1, h2, h3⟩
          refine piece_ok mixed hc (pGa g nb N m F T Q F1 T1 a b ((l : Int) + 1)) ?_ (hrun c hc)
          simp only [All]
          repeat' (first | exact trivial | with_reducible apply And.intro)
          all_goals (first | omega | rfl | (intros; first | assumption | exact True.intro | rfl | exact absurd (show false = true by assumption) Bool.false_ne_true | ((repeat' (first | assumption | apply anda | apply notf)); done)) | (exact hd) | (exact hc1) | (intro i hi; simp [All]))
        | false =>
          obtain ⟨n1, n2, _⟩ := hm1.no rfl
          subst n1; subst n2
          obtain ⟨F2, T2, r2, hc2, hm2⟩ := con_moveTo hp hk hN hm hnb hb ha (Ne.symm hab)
          cases r2 with
          | true =>
            obtain ⟨y1, y2⟩ := hm2.yes rfl
            obtain ⟨F', T', r, hrun, h1, h2, h3⟩ := ih F2 T2 hm2.inv (by omega)
            refine ⟨F', T', r, fun c hc => ?_, h1, h2, h3⟩
            refine piece_ok mixed hc (pGb g nb N m F1 T1 Q F1 T1 F2 T2 a b ((l : Int) + 1)) ?_ (hrun c hc)
            simp only [All]
            repeat' (first | exact trivial | with_reducible apply And.intro)
            all_goals (first | omega | rfl | (intros; first | assumption | exact True.intro | rfl | exact absurd (show false = true by assumption) Bool.false_ne_true | ((repeat' (first | assumption | apply anda | apply notf)); done)) | (exact hd) | (exact hc1) | (exact hc2) | (intro i hi; simp [All]))
          | false =>
            refine ⟨F2, T2, false, fun c hc => ?_, hm2.inv, (fun h => by cases h), fun _ => gather_no hp ha hb hab (by omega) hm1 hm2⟩
            refine path_ok mixed Try.func170 hc (pGc g nb N m F1 T1 Q F1 T1 F2 T2 a b ((l : Int) + 1)) ?_
            simp only [All]
            repeat' (first | exact trivial | with_reducible apply And.intro)
            all_goals (first | omega | rfl | (intros; first | assumption | exact True.intro | rfl | exact absurd (show false = true by assumption) Bool.false_ne_true | ((repeat' (first | assumption | apply anda | apply notf)); done)) | (exact hd) | (exact hc1) | (exact hc2) | (intro i hi; simp [All]))
      · have hd : decide (F a.toNat + F b.toNat < (l : Int) + 1) = false := by simp; omega
        refine ⟨F, T, true, fun c hc => ?_, hp, (fun _ => by omega), (fun h => by cases h)⟩
        refine path_ok mixed Try.func170 hc (pGd g nb N m F T Q a b ((l : Int) + 1)) ?_
        simp only [All]
        repeat' (first | exact trivial | with_reducible apply And.intro)
        all_goals (first | omega | rfl | (intros; first | assumption | exact True.intro | rfl | exact absurd (show false = true by assumption) Bool.false_ne_true | ((repeat' (first | assumption | apply anda | apply notf)); done)) | (exact hd) | (intro i hi; simp [All]))
  have l1 := hp.le (v := a.toNat) (by omega)
  have l2 := hp.le (v := b.toNat) (by omega)
  obtain ⟨F', T', r, hrun, h⟩ := lp (l + 1) F T hp (by omega)
  refine ⟨F', T', r, ?_, h⟩
  refine con_start Try.func170 rfl (by kernel_rfl) rfl (fun c hc => ?_)
  refine piece_ok mixed hc (pGz g nb N m F T Q a b ((l : Int) + 1)) ?_ (hrun c hc)
  simp only [All]
  repeat' (first | exact trivial | with_reducible apply And.intro)
  all_goals (first | omega | rfl | (intros; first | assumption | exact True.intro | rfl | exact absurd (show false = true by assumption) Bool.false_ne_true | ((repeat' (first | assumption | apply anda | apply notf)); done)) | (intro i hi; simp [All]))

theorem tcI_congr {T T' : Nat → Int} (x : Int) : ∀ m, (∀ j, j < m → T j = T' j) → tcI T m x = tcI T' m x
  | 0, _ => rfl
  | m + 1, h => by simp only [tcI]; rw [tcI_congr x m (fun j hj => h j (by omega)), h m (by omega)]

theorem PInv.placed {N k nb m : Nat} {g : Nat → T_Bar} {F T Q : Nat → Int} (hp : PInv N k nb m g F T Q) (e : Nat) (he : e < nb) (tl : Int) (ht : tl = (g e).1 ∨ tl = (g e).2.1) (hf : 1 ≤ F tl.toNat) :
    PInv N k nb (m + 1) g (fun s => if s = tl.toNat then F s - 1 else F s) (fun s => if s < m then T s else tl) (fun s => if s < m then Q s else e) := by
  have hb := hp.bars e he
  have h0 : 0 ≤ tl ∧ tl < N := by rcases ht with h | h <;> rw [h] <;> omega
  refine ⟨hp.bars, fun j hj => ?_, fun j hj => ?_, fun v hv => ?_, fun v hv => ?_⟩
  · show 0 ≤ (if j < m then Q j else (e : Int)) ∧ (if j < m then Q j else (e : Int)) < nb
    by_cases h : j < m
    · rw [if_pos h]; exact hp.q j h
    · rw [if_neg h]; omega
  · show (if j < m then T j else tl) = (g (if j < m then Q j else (e : Int)).toNat).1 ∨ (if j < m then T j else tl) = (g (if j < m then Q j else (e : Int)).toNat).2.1
    by_cases h : j < m
    · rw [if_pos h, if_pos h]; exact hp.t j h
    · rw [if_neg h, if_neg h]; exact ht
  · have := hp.f0 v hv
    show 0 ≤ (if v = tl.toNat then F v - 1 else F v)
    by_cases h : v = tl.toNat
    · rw [if_pos h, h]; omega
    · rw [if_neg h]; exact this
  · have h1 := hp.sum v hv
    show (if v = tl.toNat then F v - 1 else F v) + (tcI (fun s => if s < m then T s else tl) m v + (if (if m < m then T m else tl) = (v : Int) then 1 else 0)) = k
    rw [tcI_congr (T' := T) v m (fun j hj => by show (if j < m then T j else tl) = T j; rw [if_pos hj])]
    simp only [Nat.lt_irrefl, if_false]
    by_cases h : v = tl.toNat
    · rw [if_pos h, if_pos (by omega)]; omega
    · rw [if_neg h, if_neg (by omega)]; omega

theorem plL_congr (g : Nat → T_Bar) {Q Q' : Nat → Int} : ∀ m, (∀ j, j < m → Q j = Q' j) → plL g Q m = plL g Q' m
  | 0, _ => rfl
  | m + 1, h => by simp only [plL]; rw [plL_congr g m (fun j hj => h j (by omega)), h m (by omega)]

/-- A bar placed, or not. -/
theorem con_place {N k nb m l : Nat} {g : Nat → T_Bar} {F T Q : Nat → Int} (hp : PInv N k nb m g F T Q) (hk : k ≤ 1048576) (hl : l ≤ 1048576) (hN : N ≤ 1048576) (hm : m ≤ 1048576) (hnb : nb ≤ 1048576) (e : Nat) (he : e < nb)
    (hsp : Mat.Sparse N k l (plL g Q m)) :
    (∃ F' T', Con Try.prog 159 4 (pebH N m F T Q) [brL g nb, .p (.int .i64 l), .pt 3 0 0 0, .p (.int .i64 e)] (pebH2 N (m + 1) F' T' (fun s => if s < m then Q s else e)) (.p (.bool true)) ∧
      PInv N k nb (m + 1) g F' T' (fun s => if s < m then Q s else e) ∧ Mat.Sparse N k l (plL g Q m ++ [brN (g e)])) ∨
    (∃ F' T', Con Try.prog 159 4 (pebH N m F T Q) [brL g nb, .p (.int .i64 l), .pt 3 0 0 0, .p (.int .i64 e)] (pebH N m F' T' Q) (.p (.bool false)) ∧ ¬ Mat.Sparse N k l (plL g Q m ++ [brN (g e)])) := by
  have hbar := hp.bars e he
  obtain ⟨F1, T1, r, hc1, h1, h2, h3⟩ := con_gather (l := l) (a := (g e).1) (b := (g e).2.1) hp hk hN hm hnb (by omega) (by omega) (by omega)
  have hlA := h1.le (v := (g e).1.toNat) (by omega)
  have hlB := h1.le (v := (g e).2.1.toNat) (by omega)
  cases r with
  | false =>
    right
    refine ⟨F1, T1, ?_, h3 rfl⟩
    refine con_start Try.func159 rfl (by kernel_rfl) rfl (fun c hc => ?_)
    refine path_ok mixed Try.func159 hc (pPf g nb N m F T Q F1 T1 l e) ?_
    simp only [All]
    repeat' (first | exact trivial | with_reducible apply And.intro)
    all_goals (first | omega | rfl | (intros; first | assumption | exact True.intro | rfl | exact absurd (show false = true by assumption) Bool.false_ne_true | ((repeat' (first | assumption | apply anda | apply notf)); done)) | (exact hc1) | (intro i hi; simp [All]))
  | true =>
    left
    have hw := h2 rfl
    have hacc : Mat.Sparse N k l (plL g Q m ++ [brN (g e)]) := by
      have := (h1.game l).accept (by rw [barsOf_gm]; exact hsp) (g e).1.toNat (g e).2.1.toNat ⟨by show (g e).1.toNat ≠ (g e).2.1.toNat; omega, by show (g e).1.toNat < N; omega, by show (g e).2.1.toNat < N; omega⟩
        (by show l + 1 ≤ (F1 (g e).1.toNat).toNat + (F1 (g e).2.1.toNat).toNat; omega)
      rw [barsOf_gm] at this
      exact this
    by_cases hz : F1 (g e).1.toNat = 0
    · have hzb : (F1 (g e).1.toNat == 0) = true := by simp [hz]
      refine ⟨_, _, ?_, h1.placed e he (g e).2.1 (.inr rfl) (by omega), hacc⟩
      refine con_start Try.func159 rfl (by kernel_rfl) rfl (fun c hc => ?_)
      refine path_ok mixed Try.func159 hc (pPb g nb N m F T Q F1 T1 l e) ?_
      simp only [All]
      repeat' (first | exact trivial | with_reducible apply And.intro)
      all_goals (first | omega | rfl | (intros; first | assumption | exact True.intro | rfl | exact absurd (show false = true by assumption) Bool.false_ne_true | ((repeat' (first | assumption | apply anda | apply notf)); done)) | (exact hc1) | (exact hzb) | (intro i hi; simp [All]; done) | (intro i hi; by_cases h : i < m <;> simp [h, cvtL, cvt, tg, tru, All]; done) | (intro i hi; by_cases h : i = (g e).2.1.toNat <;> simp [h, cvtL, cvt, tg, tru, All]))
    · have hzb : (F1 (g e).1.toNat == 0) = false := by simp [hz]
      refine ⟨_, _, ?_, h1.placed e he (g e).1 (.inl rfl) (by omega), hacc⟩
      refine con_start Try.func159 rfl (by kernel_rfl) rfl (fun c hc => ?_)
      refine path_ok mixed Try.func159 hc (pPa g nb N m F T Q F1 T1 l e) ?_
      simp only [All]
      repeat' (first | exact trivial | with_reducible apply And.intro)
      all_goals (first | omega | rfl | (intros; first | assumption | exact True.intro | rfl | exact absurd (show false = true by assumption) Bool.false_ne_true | ((repeat' (first | assumption | apply anda | apply notf)); done)) | (exact hc1) | (exact hzb) | (intro i hi; simp [All]; done) | (intro i hi; by_cases h : i < m <;> simp [h, cvtL, cvt, tg, tru, All]; done) | (intro i hi; by_cases h : i = (g e).1.toNat <;> simp [h, cvtL, cvt, tg, tru, All]))

end Go.Proofs.Ytgdbnnmogddkaaa.Mach
