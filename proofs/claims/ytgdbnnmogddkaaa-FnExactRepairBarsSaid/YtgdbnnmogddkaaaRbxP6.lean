/- What the law Rbx needs, part 6 of 6: the abstract machine and the contracts of the functions. Conditions: as each theorem says. -/
import Derived.Test.YtgdbnnmogddkaaaRbxP5
namespace Go.Proofs.Ytgdbnnmogddkaaa.Mach
open Go Go.Sort
set_option linter.unusedVariables false
set_option linter.unusedSimpArgs false
def hitB (x : T_Bar) (a b : Int) : Bool := bif bif x.1 == a then x.2.1 == b else false then true else bif x.1 == b then x.2.1 == a else false
def SOs (v : T_Graph) (a b : Int) (k n : Nat) : St :=
  ⟨[graphA v, .p (.int .i64 a), .p (.int .i64 b), .pt 2 0 0 0, .p .any, .p .any, .p .any, .p (.int .i64 n), .p (.int .i64 k)] ++ List.replicate 48 anyA, [(0, boxG v)], 1⟩
def SOi (v : T_Graph) (a b : Int) (k n : Nat) : St :=
  ⟨[graphA v, .p (.int .i64 a), .p (.int .i64 b), .pt 2 0 0 0, .p .any, .p .any, .p .any, .p (.int .i64 n), .p .any, .p .any, .p .any, graphL v.2.1, .p (.int .i64 v.2.1.1), .p (.int .i64 k)] ++ List.replicate 29 anyA, [(0, boxG v)], 1⟩
def SMso (v : T_Graph) (a n : Nat) (h : Nat → T_Bar) : St :=
  ⟨[graphA v, .pt 2 0 0 0, .p .any, .ar 2 1 0 n, .p (.int .i64 a)] ++ List.replicate 32 anyA, [(0, boxG v), (1, brOb n h)], 2⟩
def SMsi (v : T_Graph) (a b n : Nat) (h : Nat → T_Bar) : St :=
  ⟨[graphA v, .pt 2 0 0 0, .p .any, .ar 2 1 0 n, .p (.int .i64 a), .p (.int .i64 b)] ++ List.replicate 31 anyA, [(0, boxG v), (1, brOb n h)], 2⟩
def SMio (v : T_Graph) (a n : Nat) (h : Nat → T_Bar) : St :=
  ⟨[graphA v, .pt 2 0 0 0, .p .any, .ar 2 1 0 n] ++ List.replicate 8 anyA ++ [.p (.int .i64 v.1), .p (.int .i64 a)] ++ List.replicate 23 anyA, [(0, boxG v), (1, brOb n h)], 2⟩
def SMii (v : T_Graph) (a b n : Nat) (h : Nat → T_Bar) : St :=
  ⟨[graphA v, .pt 2 0 0 0, .p .any, .ar 2 1 0 n, .p (.int .i64 a), .p (.int .i64 b)] ++ List.replicate 6 anyA ++ [.p (.int .i64 v.1), .p (.int .i64 a)] ++ List.replicate 23 anyA, [(0, boxG v), (1, brOb n h)], 2⟩
def pinF (p : T_Pinned) : AV := .agg [.p (.int .i64 p.1.1), .p (.seq false 2 p.1.2.1.1 (fun i => [.int .i64 (p.1.2.1.2 i).1, .int .i64 (p.1.2.1.2 i).2.1])), .p (.seq false 1 p.2.1.1 (fun i => [.int .i64 (p.2.1.2 i)]))]
def boxF (p : T_Pinned) : Ob := ⟨true, 3, 1, fun _ => [.p (.int .i64 p.1.1), .p (.seq false 2 p.1.2.1.1 (fun i => [.int .i64 (p.1.2.1.2 i).1, .int .i64 (p.1.2.1.2 i).2.1])), .p (.seq false 1 p.2.1.1 (fun i => [.int .i64 (p.2.1.2 i)]))]⟩
def SAd (q : T_Pinned) (l : T_BarS) (k n : Nat) (h : Nat → T_Bar) : St :=
  ⟨[.p .any, .p .any, .pt 3 0 0 0, .p .any, .pt 3 1 0 0, .p .any, .ar 2 2 0 n] ++ List.replicate 6 anyA ++ [graphL l, .p (.int .i64 l.1), .p (.int .i64 k)] ++ List.replicate 38 anyA,
   [(0, boxF q), (1, zP3), (2, brOb n h)], 3⟩
theorem oSz (v : T_Graph) (a b : Int) :
    pieceOb Try.prog 0 [.reg [oT, oT], .reg [oT], .reg [oT], .head] [.code (bodyOf Try.f110)] (start Try.f110 [] 0 [graphA v, .p (.int .i64 a), .p (.int .i64 b)]) [0] 1 (SOs v a b 0 0) =
    some ([.code (cAt (bodyOf Try.f110) [1, 1, 0, 1, 0, 0]), .inLoop (cAt (bodyOf Try.f110) [1, 1, 0, 1, 0, 0]), .inBlock 0, .code (cAt (bodyOf Try.f110) [1, 1, 1])], [((v.1 : Int) = v.1),
  ((v.2.1.1 : Nat) = v.2.1.1),
  (∀ i : Nat, (((i : Nat) < v.2.1.1) → (([.int .i64 ((v.2.1.2 i).1), .int .i64 ((v.2.1.2 i).2.1)] : List PV) = [.int .i64 ((v.2.1.2 i).1), .int .i64 ((v.2.1.2 i).2.1)]))),
  ((a : Int) = a),
  ((b : Int) = b),
  ((0 : Nat) = 0),
  ((0 : Int) = (↑0 : Int)),
  ((0 : Int) = (↑0 : Int)),
  ((([AV.p (PV.int IntKind.i64 v.1), graphL v.2.1].length) : Nat) = 2),
  ((1 : Nat) ≤ 1),
  ((1 : Nat) ≤ 1),
  ((v.1 : Int) = v.1),
  ((v.2.1.1 : Nat) = v.2.1.1),
  (∀ i : Nat, (((i : Nat) < v.2.1.1) → (([.int .i64 ((v.2.1.2 i).1), .int .i64 ((v.2.1.2 i).2.1)] : List PV) = [.int .i64 ((v.2.1.2 i).1), .int .i64 ((v.2.1.2 i).2.1)])))]) := by kernel_rfl
theorem oSt (v : T_Graph) (a b : Int) (k n : Nat) :
    pieceOb Try.prog 0 [.reg [oT, oT, oT, oT, oT], .dec true, .reg [oT, oT, oT, oT, oT, oT, oT, oT, oT, oT, oT, oT, oT, oT, oT, oT, oT, oT, oT, oT, oT, oT, oT, oT, oT, oT, oT, oT, oT, oT, oT, oT, oT, oT, oT, oT, oT, oT], .dec true, .reg [oT, oT, oT], .reg [oT, oT, oT], .head] [.code (cAt (bodyOf Try.f110) [1, 1, 0, 1, 0, 0]), .inLoop (cAt (bodyOf Try.f110) [1, 1, 0, 1, 0, 0]), .inBlock 0, .code (cAt (bodyOf Try.f110) [1, 1, 1])] (SOs v a b k n) [0] 1 (SOs v a b (k + 1) (n + 1)) =
    some ([.code (cAt (bodyOf Try.f110) [1, 1, 0, 1, 0, 0]), .inLoop (cAt (bodyOf Try.f110) [1, 1, 0, 1, 0, 0]), .inBlock 0, .code (cAt (bodyOf Try.f110) [1, 1, 1])], [((0 : Nat) < 1),
  ((decide ((↑k : Int) < (↑v.2.1.1 : Int))) = true),
  ((0 : Nat) < 1),
  ((0 : Int) ≤ (↑k : Int)),
  (((↑k : Int) : Int) < (↑v.2.1.1 : Int)),
  ((((v.2.1.2 k).1 == a) = true) → (((v.2.1.2 k).1 == a) = true)),
  ((((v.2.1.2 k).1 == a) = true) → ((0 : Nat) < 1)),
  ((((v.2.1.2 k).1 == a) = true) → (((v.2.1.2 k).1 == a) = true)),
  ((((v.2.1.2 k).1 == a) = true) → (((v.2.1.2 k).1 == a) = true)),
  ((((v.2.1.2 k).1 == a) = true) → ((0 : Int) ≤ (↑k : Int))),
  ((((v.2.1.2 k).1 == a) = true) → (((↑k : Int) : Int) < (↑v.2.1.1 : Int))),
  ((((v.2.1.2 k).1 == a) = true) → (((v.2.1.2 k).1 == a) = true)),
  ((((v.2.1.2 k).1 == a) = true) → (((v.2.1.2 k).1 == a) = true)),
  ((((v.2.1.2 k).1 == a) = true) → (((v.2.1.2 k).1 == a) = true)),
  ((((v.2.1.2 k).1 == a) = true) → (((v.2.1.2 k).1 == a) = true)),
  ((((v.2.1.2 k).1 == a) = true) → (((v.2.1.2 k).1 == a) = true)),
  (((!bif (v.2.1.2 k).1 == a then (v.2.1.2 k).2.1 == b else false) = true) → ((!bif (v.2.1.2 k).1 == a then (v.2.1.2 k).2.1 == b else false) = true)),
  (((!bif (v.2.1.2 k).1 == a then (v.2.1.2 k).2.1 == b else false) = true) → ((0 : Nat) < 1)),
  (((!bif (v.2.1.2 k).1 == a then (v.2.1.2 k).2.1 == b else false) = true) → ((!bif (v.2.1.2 k).1 == a then (v.2.1.2 k).2.1 == b else false) = true)),
  (((!bif (v.2.1.2 k).1 == a then (v.2.1.2 k).2.1 == b else false) = true) → ((!bif (v.2.1.2 k).1 == a then (v.2.1.2 k).2.1 == b else false) = true)),
  (((!bif (v.2.1.2 k).1 == a then (v.2.1.2 k).2.1 == b else false) = true) → ((0 : Int) ≤ (↑k : Int))),
  (((!bif (v.2.1.2 k).1 == a then (v.2.1.2 k).2.1 == b else false) = true) → (((↑k : Int) : Int) < (↑v.2.1.1 : Int))),
  (((!bif (v.2.1.2 k).1 == a then (v.2.1.2 k).2.1 == b else false) = true) → ((!bif (v.2.1.2 k).1 == a then (v.2.1.2 k).2.1 == b else false) = true)),
  (((!bif (v.2.1.2 k).1 == a then (v.2.1.2 k).2.1 == b else false) = true) → ((!bif (v.2.1.2 k).1 == a then (v.2.1.2 k).2.1 == b else false) = true)),
  (((!bif (v.2.1.2 k).1 == a then (v.2.1.2 k).2.1 == b else false) = true) → ((!bif (v.2.1.2 k).1 == a then (v.2.1.2 k).2.1 == b else false) = true)),
  (((!bif (v.2.1.2 k).1 == a then (v.2.1.2 k).2.1 == b else false) = true) → ((!bif (v.2.1.2 k).1 == a then (v.2.1.2 k).2.1 == b else false) = true)),
  (((!bif (v.2.1.2 k).1 == a then (v.2.1.2 k).2.1 == b else false) = true) → ((!bif (v.2.1.2 k).1 == a then (v.2.1.2 k).2.1 == b else false) = true)),
  ((((!bif (v.2.1.2 k).1 == a then (v.2.1.2 k).2.1 == b else false) && (v.2.1.2 k).1 == b) = true) → (((!bif (v.2.1.2 k).1 == a then (v.2.1.2 k).2.1 == b else false) && (v.2.1.2 k).1 == b) = true)),
  ((((!bif (v.2.1.2 k).1 == a then (v.2.1.2 k).2.1 == b else false) && (v.2.1.2 k).1 == b) = true) → ((0 : Nat) < 1)),
  ((((!bif (v.2.1.2 k).1 == a then (v.2.1.2 k).2.1 == b else false) && (v.2.1.2 k).1 == b) = true) → (((!bif (v.2.1.2 k).1 == a then (v.2.1.2 k).2.1 == b else false) && (v.2.1.2 k).1 == b) = true)),
  ((((!bif (v.2.1.2 k).1 == a then (v.2.1.2 k).2.1 == b else false) && (v.2.1.2 k).1 == b) = true) → (((!bif (v.2.1.2 k).1 == a then (v.2.1.2 k).2.1 == b else false) && (v.2.1.2 k).1 == b) = true)),
  ((((!bif (v.2.1.2 k).1 == a then (v.2.1.2 k).2.1 == b else false) && (v.2.1.2 k).1 == b) = true) → ((0 : Int) ≤ (↑k : Int))),
  ((((!bif (v.2.1.2 k).1 == a then (v.2.1.2 k).2.1 == b else false) && (v.2.1.2 k).1 == b) = true) → (((↑k : Int) : Int) < (↑v.2.1.1 : Int))),
  ((((!bif (v.2.1.2 k).1 == a then (v.2.1.2 k).2.1 == b else false) && (v.2.1.2 k).1 == b) = true) → (((!bif (v.2.1.2 k).1 == a then (v.2.1.2 k).2.1 == b else false) && (v.2.1.2 k).1 == b) = true)),
  ((((!bif (v.2.1.2 k).1 == a then (v.2.1.2 k).2.1 == b else false) && (v.2.1.2 k).1 == b) = true) → (((!bif (v.2.1.2 k).1 == a then (v.2.1.2 k).2.1 == b else false) && (v.2.1.2 k).1 == b) = true)),
  ((((!bif (v.2.1.2 k).1 == a then (v.2.1.2 k).2.1 == b else false) && (v.2.1.2 k).1 == b) = true) → (((!bif (v.2.1.2 k).1 == a then (v.2.1.2 k).2.1 == b else false) && (v.2.1.2 k).1 == b) = true)),
  ((((!bif (v.2.1.2 k).1 == a then (v.2.1.2 k).2.1 == b else false) && (v.2.1.2 k).1 == b) = true) → (((!bif (v.2.1.2 k).1 == a then (v.2.1.2 k).2.1 == b else false) && (v.2.1.2 k).1 == b) = true)),
  (((!bif (v.2.1.2 k).1 == a then (v.2.1.2 k).2.1 == b else false) = true) → ((!bif (v.2.1.2 k).1 == a then (v.2.1.2 k).2.1 == b else false) = true)),
  (((!bif (v.2.1.2 k).1 == a then (v.2.1.2 k).2.1 == b else false) = true) → ((((v.2.1.2 k).1 == b) = true) → (((!bif (v.2.1.2 k).1 == a then (v.2.1.2 k).2.1 == b else false) && (v.2.1.2 k).1 == b) = true))),
  (((bif (v.2.1.2 k).1 == a then (v.2.1.2 k).2.1 == b else false) = false) → ((!bif (v.2.1.2 k).1 == a then (v.2.1.2 k).2.1 == b else false) = true)),
  ((bif bif (v.2.1.2 k).1 == a then (v.2.1.2 k).2.1 == b else false then true else bif (v.2.1.2 k).1 == b then (v.2.1.2 k).2.1 == a else false) = true),
  (((-9223372036854775808) : Int) ≤ ((↑n : Int) + 1)),
  ((((↑n : Int) + 1) : Int) ≤ 9223372036854775807),
  (((-9223372036854775808) : Int) ≤ ((↑k : Int) + 1)),
  ((((↑k : Int) + 1) : Int) ≤ 9223372036854775807),
  ((v.1 : Int) = v.1),
  ((v.2.1.1 : Nat) = v.2.1.1),
  (∀ i : Nat, (((i : Nat) < v.2.1.1) → (([.int .i64 ((v.2.1.2 i).1), .int .i64 ((v.2.1.2 i).2.1)] : List PV) = [.int .i64 ((v.2.1.2 i).1), .int .i64 ((v.2.1.2 i).2.1)]))),
  ((a : Int) = a),
  ((b : Int) = b),
  ((0 : Nat) = 0),
  ((((↑n : Int) + 1) : Int) = (↑(n + 1) : Int)),
  ((((↑k : Int) + 1) : Int) = (↑(k + 1) : Int)),
  ((2 : Nat) = 2),
  ((1 : Nat) ≤ 1),
  ((1 : Nat) ≤ 1),
  ((v.1 : Int) = v.1),
  ((v.2.1.1 : Nat) = v.2.1.1),
  (∀ i : Nat, (((i : Nat) < v.2.1.1) → (([.int .i64 ((v.2.1.2 i).1), .int .i64 ((v.2.1.2 i).2.1)] : List PV) = [.int .i64 ((v.2.1.2 i).1), .int .i64 ((v.2.1.2 i).2.1)])))]) := by kernel_rfl
theorem oSf (v : T_Graph) (a b : Int) (k n : Nat) :
    pieceOb Try.prog 0 [.reg [oT, oT, oT, oT, oT], .dec true, .reg [oT, oT, oT, oT, oT, oT, oT, oT, oT, oT, oT, oT, oT, oT, oT, oT, oT, oT, oT, oT, oT, oT, oT, oT, oT, oT, oT, oT, oT, oT, oT, oT, oT, oT, oT, oT, oT, oT], .dec false, .reg [oT, oT, oT], .head] [.code (cAt (bodyOf Try.f110) [1, 1, 0, 1, 0, 0]), .inLoop (cAt (bodyOf Try.f110) [1, 1, 0, 1, 0, 0]), .inBlock 0, .code (cAt (bodyOf Try.f110) [1, 1, 1])] (SOs v a b k n) [0] 1 (SOs v a b (k + 1) n) =
    some ([.code (cAt (bodyOf Try.f110) [1, 1, 0, 1, 0, 0]), .inLoop (cAt (bodyOf Try.f110) [1, 1, 0, 1, 0, 0]), .inBlock 0, .code (cAt (bodyOf Try.f110) [1, 1, 1])], [((0 : Nat) < 1),
  ((decide ((↑k : Int) < (↑v.2.1.1 : Int))) = true),
  ((0 : Nat) < 1),
  ((0 : Int) ≤ (↑k : Int)),
  (((↑k : Int) : Int) < (↑v.2.1.1 : Int)),
  ((((v.2.1.2 k).1 == a) = true) → (((v.2.1.2 k).1 == a) = true)),
  ((((v.2.1.2 k).1 == a) = true) → ((0 : Nat) < 1)),
  ((((v.2.1.2 k).1 == a) = true) → (((v.2.1.2 k).1 == a) = true)),
  ((((v.2.1.2 k).1 == a) = true) → (((v.2.1.2 k).1 == a) = true)),
  ((((v.2.1.2 k).1 == a) = true) → ((0 : Int) ≤ (↑k : Int))),
  ((((v.2.1.2 k).1 == a) = true) → (((↑k : Int) : Int) < (↑v.2.1.1 : Int))),
  ((((v.2.1.2 k).1 == a) = true) → (((v.2.1.2 k).1 == a) = true)),
  ((((v.2.1.2 k).1 == a) = true) → (((v.2.1.2 k).1 == a) = true)),
  ((((v.2.1.2 k).1 == a) = true) → (((v.2.1.2 k).1 == a) = true)),
  ((((v.2.1.2 k).1 == a) = true) → (((v.2.1.2 k).1 == a) = true)),
  ((((v.2.1.2 k).1 == a) = true) → (((v.2.1.2 k).1 == a) = true)),
  (((!bif (v.2.1.2 k).1 == a then (v.2.1.2 k).2.1 == b else false) = true) → ((!bif (v.2.1.2 k).1 == a then (v.2.1.2 k).2.1 == b else false) = true)),
  (((!bif (v.2.1.2 k).1 == a then (v.2.1.2 k).2.1 == b else false) = true) → ((0 : Nat) < 1)),
  (((!bif (v.2.1.2 k).1 == a then (v.2.1.2 k).2.1 == b else false) = true) → ((!bif (v.2.1.2 k).1 == a then (v.2.1.2 k).2.1 == b else false) = true)),
  (((!bif (v.2.1.2 k).1 == a then (v.2.1.2 k).2.1 == b else false) = true) → ((!bif (v.2.1.2 k).1 == a then (v.2.1.2 k).2.1 == b else false) = true)),
  (((!bif (v.2.1.2 k).1 == a then (v.2.1.2 k).2.1 == b else false) = true) → ((0 : Int) ≤ (↑k : Int))),
  (((!bif (v.2.1.2 k).1 == a then (v.2.1.2 k).2.1 == b else false) = true) → (((↑k : Int) : Int) < (↑v.2.1.1 : Int))),
  (((!bif (v.2.1.2 k).1 == a then (v.2.1.2 k).2.1 == b else false) = true) → ((!bif (v.2.1.2 k).1 == a then (v.2.1.2 k).2.1 == b else false) = true)),
  (((!bif (v.2.1.2 k).1 == a then (v.2.1.2 k).2.1 == b else false) = true) → ((!bif (v.2.1.2 k).1 == a then (v.2.1.2 k).2.1 == b else false) = true)),
  (((!bif (v.2.1.2 k).1 == a then (v.2.1.2 k).2.1 == b else false) = true) → ((!bif (v.2.1.2 k).1 == a then (v.2.1.2 k).2.1 == b else false) = true)),
  (((!bif (v.2.1.2 k).1 == a then (v.2.1.2 k).2.1 == b else false) = true) → ((!bif (v.2.1.2 k).1 == a then (v.2.1.2 k).2.1 == b else false) = true)),
  (((!bif (v.2.1.2 k).1 == a then (v.2.1.2 k).2.1 == b else false) = true) → ((!bif (v.2.1.2 k).1 == a then (v.2.1.2 k).2.1 == b else false) = true)),
  ((((!bif (v.2.1.2 k).1 == a then (v.2.1.2 k).2.1 == b else false) && (v.2.1.2 k).1 == b) = true) → (((!bif (v.2.1.2 k).1 == a then (v.2.1.2 k).2.1 == b else false) && (v.2.1.2 k).1 == b) = true)),
  ((((!bif (v.2.1.2 k).1 == a then (v.2.1.2 k).2.1 == b else false) && (v.2.1.2 k).1 == b) = true) → ((0 : Nat) < 1)),
  ((((!bif (v.2.1.2 k).1 == a then (v.2.1.2 k).2.1 == b else false) && (v.2.1.2 k).1 == b) = true) → (((!bif (v.2.1.2 k).1 == a then (v.2.1.2 k).2.1 == b else false) && (v.2.1.2 k).1 == b) = true)),
  ((((!bif (v.2.1.2 k).1 == a then (v.2.1.2 k).2.1 == b else false) && (v.2.1.2 k).1 == b) = true) → (((!bif (v.2.1.2 k).1 == a then (v.2.1.2 k).2.1 == b else false) && (v.2.1.2 k).1 == b) = true)),
  ((((!bif (v.2.1.2 k).1 == a then (v.2.1.2 k).2.1 == b else false) && (v.2.1.2 k).1 == b) = true) → ((0 : Int) ≤ (↑k : Int))),
  ((((!bif (v.2.1.2 k).1 == a then (v.2.1.2 k).2.1 == b else false) && (v.2.1.2 k).1 == b) = true) → (((↑k : Int) : Int) < (↑v.2.1.1 : Int))),
  ((((!bif (v.2.1.2 k).1 == a then (v.2.1.2 k).2.1 == b else false) && (v.2.1.2 k).1 == b) = true) → (((!bif (v.2.1.2 k).1 == a then (v.2.1.2 k).2.1 == b else false) && (v.2.1.2 k).1 == b) = true)),
  ((((!bif (v.2.1.2 k).1 == a then (v.2.1.2 k).2.1 == b else false) && (v.2.1.2 k).1 == b) = true) → (((!bif (v.2.1.2 k).1 == a then (v.2.1.2 k).2.1 == b else false) && (v.2.1.2 k).1 == b) = true)),
  ((((!bif (v.2.1.2 k).1 == a then (v.2.1.2 k).2.1 == b else false) && (v.2.1.2 k).1 == b) = true) → (((!bif (v.2.1.2 k).1 == a then (v.2.1.2 k).2.1 == b else false) && (v.2.1.2 k).1 == b) = true)),
  ((((!bif (v.2.1.2 k).1 == a then (v.2.1.2 k).2.1 == b else false) && (v.2.1.2 k).1 == b) = true) → (((!bif (v.2.1.2 k).1 == a then (v.2.1.2 k).2.1 == b else false) && (v.2.1.2 k).1 == b) = true)),
  (((!bif (v.2.1.2 k).1 == a then (v.2.1.2 k).2.1 == b else false) = true) → ((!bif (v.2.1.2 k).1 == a then (v.2.1.2 k).2.1 == b else false) = true)),
  (((!bif (v.2.1.2 k).1 == a then (v.2.1.2 k).2.1 == b else false) = true) → ((((v.2.1.2 k).1 == b) = true) → (((!bif (v.2.1.2 k).1 == a then (v.2.1.2 k).2.1 == b else false) && (v.2.1.2 k).1 == b) = true))),
  (((bif (v.2.1.2 k).1 == a then (v.2.1.2 k).2.1 == b else false) = false) → ((!bif (v.2.1.2 k).1 == a then (v.2.1.2 k).2.1 == b else false) = true)),
  ((bif bif (v.2.1.2 k).1 == a then (v.2.1.2 k).2.1 == b else false then true else bif (v.2.1.2 k).1 == b then (v.2.1.2 k).2.1 == a else false) = false),
  (((-9223372036854775808) : Int) ≤ ((↑k : Int) + 1)),
  ((((↑k : Int) + 1) : Int) ≤ 9223372036854775807),
  ((v.1 : Int) = v.1),
  ((v.2.1.1 : Nat) = v.2.1.1),
  (∀ i : Nat, (((i : Nat) < v.2.1.1) → (([.int .i64 ((v.2.1.2 i).1), .int .i64 ((v.2.1.2 i).2.1)] : List PV) = [.int .i64 ((v.2.1.2 i).1), .int .i64 ((v.2.1.2 i).2.1)]))),
  ((a : Int) = a),
  ((b : Int) = b),
  ((0 : Nat) = 0),
  (((↑n : Int) : Int) = (↑n : Int)),
  ((((↑k : Int) + 1) : Int) = (↑(k + 1) : Int)),
  ((2 : Nat) = 2),
  ((1 : Nat) ≤ 1),
  ((1 : Nat) ≤ 1),
  ((v.1 : Int) = v.1),
  ((v.2.1.1 : Nat) = v.2.1.1),
  (∀ i : Nat, (((i : Nat) < v.2.1.1) → (([.int .i64 ((v.2.1.2 i).1), .int .i64 ((v.2.1.2 i).2.1)] : List PV) = [.int .i64 ((v.2.1.2 i).1), .int .i64 ((v.2.1.2 i).2.1)])))]) := by kernel_rfl
theorem oSe (v : T_Graph) (a b : Int) (k n : Nat) :
    pathOb Try.prog Try.f110 0 [.reg [oT, oT, oT, oT, oT], .dec false, .reg [oT, oT]] [.code (cAt (bodyOf Try.f110) [1, 1, 0, 1, 0, 0]), .inLoop (cAt (bodyOf Try.f110) [1, 1, 0, 1, 0, 0]), .inBlock 0, .code (cAt (bodyOf Try.f110) [1, 1, 1])] (SOs v a b k n) [] 1 [] (.p (.int .i64 n)) =
    some [((0 : Nat) < 1),
  ((decide ((↑k : Int) < (↑v.2.1.1 : Int))) = false),
  (((↑n : Int) : Int) = (↑n : Int))] := by kernel_rfl
theorem oIz (v : T_Graph) (a b : Int) :
    pieceOb Try.prog 0 [.reg [oT, oT], .reg [oT], .reg [oT, oT, oT, oT], .head] [.code (bodyOf Try.f111)] (start Try.f111 [] 0 [graphA v, .p (.int .i64 a), .p (.int .i64 b)]) [0] 1 (SOi v a b 0 0) =
    some ([.code (cAt (bodyOf Try.f111) [1, 1, 0, 1, 0, 0]), .inLoop (cAt (bodyOf Try.f111) [1, 1, 0, 1, 0, 0]), .inBlock 0, .code (cAt (bodyOf Try.f111) [1, 1, 1])], [((0 : Nat) < 1),
  ((v.1 : Int) = v.1),
  ((v.2.1.1 : Nat) = v.2.1.1),
  (∀ i : Nat, (((i : Nat) < v.2.1.1) → (([.int .i64 ((v.2.1.2 i).1), .int .i64 ((v.2.1.2 i).2.1)] : List PV) = [.int .i64 ((v.2.1.2 i).1), .int .i64 ((v.2.1.2 i).2.1)]))),
  ((a : Int) = a),
  ((b : Int) = b),
  ((0 : Nat) = 0),
  ((0 : Int) = (↑0 : Int)),
  ((v.2.1.1 : Nat) = v.2.1.1),
  (∀ i : Nat, (((i : Nat) < v.2.1.1) → (([.int .i64 ((v.2.1.2 i).1), .int .i64 ((v.2.1.2 i).2.1)] : List PV) = [.int .i64 ((v.2.1.2 i).1), .int .i64 ((v.2.1.2 i).2.1)]))),
  (((↑v.2.1.1 : Int) : Int) = (↑v.2.1.1 : Int)),
  ((0 : Int) = (↑0 : Int)),
  ((([AV.p (PV.int IntKind.i64 v.1), graphL v.2.1].length) : Nat) = 2),
  ((1 : Nat) ≤ 1),
  ((1 : Nat) ≤ 1),
  ((v.1 : Int) = v.1),
  ((v.2.1.1 : Nat) = v.2.1.1),
  (∀ i : Nat, (((i : Nat) < v.2.1.1) → (([.int .i64 ((v.2.1.2 i).1), .int .i64 ((v.2.1.2 i).2.1)] : List PV) = [.int .i64 ((v.2.1.2 i).1), .int .i64 ((v.2.1.2 i).2.1)])))]) := by kernel_rfl
theorem oIt (v : T_Graph) (a b : Int) (k n : Nat) :
    pieceOb Try.prog 0 [.reg [oT], .dec true, .reg [oT, oT, oT, oT], .reg [oT, oT, oT, oT, oT, oT, oT, oT, oT, oT, oT, oT, oT, oT, oT, oT, oT, oT, oT, oT, oT, oT], .dec true, .reg [oT, oT, oT], .reg [oT, oT], .head] [.code (cAt (bodyOf Try.f111) [1, 1, 0, 1, 0, 0]), .inLoop (cAt (bodyOf Try.f111) [1, 1, 0, 1, 0, 0]), .inBlock 0, .code (cAt (bodyOf Try.f111) [1, 1, 1])] (SOi v a b k n) [0] 1 (SOi v a b (k + 1) (n + 1)) =
    some ([.code (cAt (bodyOf Try.f111) [1, 1, 0, 1, 0, 0]), .inLoop (cAt (bodyOf Try.f111) [1, 1, 0, 1, 0, 0]), .inBlock 0, .code (cAt (bodyOf Try.f111) [1, 1, 1])], [((decide ((↑k : Int) < (↑v.2.1.1 : Int))) = true),
  ((0 : Int) ≤ (↑k : Int)),
  (((↑k : Int) : Int) < (↑v.2.1.1 : Int)),
  ((0 : Nat) < 1),
  ((true = true) → ((1 : Nat) = 1)),
  ((0 : Nat) < 1),
  ((((v.2.1.2 k).1 == a) = true) → (((v.2.1.2 k).1 == a) = true)),
  ((((v.2.1.2 k).1 == a) = true) → ((0 : Nat) < 1)),
  ((((v.2.1.2 k).1 == a) = true) → (((v.2.1.2 k).1 == a) = true)),
  ((((v.2.1.2 k).1 == a) = true) → (((v.2.1.2 k).1 == a) = true)),
  ((((v.2.1.2 k).1 == a) = true) → (((v.2.1.2 k).1 == a) = true)),
  (((!bif (v.2.1.2 k).1 == a then (v.2.1.2 k).2.1 == b else false) = true) → ((!bif (v.2.1.2 k).1 == a then (v.2.1.2 k).2.1 == b else false) = true)),
  (((!bif (v.2.1.2 k).1 == a then (v.2.1.2 k).2.1 == b else false) = true) → ((0 : Nat) < 1)),
  (((!bif (v.2.1.2 k).1 == a then (v.2.1.2 k).2.1 == b else false) = true) → ((!bif (v.2.1.2 k).1 == a then (v.2.1.2 k).2.1 == b else false) = true)),
  (((!bif (v.2.1.2 k).1 == a then (v.2.1.2 k).2.1 == b else false) = true) → ((!bif (v.2.1.2 k).1 == a then (v.2.1.2 k).2.1 == b else false) = true)),
  (((!bif (v.2.1.2 k).1 == a then (v.2.1.2 k).2.1 == b else false) = true) → ((!bif (v.2.1.2 k).1 == a then (v.2.1.2 k).2.1 == b else false) = true)),
  ((((!bif (v.2.1.2 k).1 == a then (v.2.1.2 k).2.1 == b else false) && (v.2.1.2 k).1 == b) = true) → (((!bif (v.2.1.2 k).1 == a then (v.2.1.2 k).2.1 == b else false) && (v.2.1.2 k).1 == b) = true)),
  ((((!bif (v.2.1.2 k).1 == a then (v.2.1.2 k).2.1 == b else false) && (v.2.1.2 k).1 == b) = true) → ((0 : Nat) < 1)),
  ((((!bif (v.2.1.2 k).1 == a then (v.2.1.2 k).2.1 == b else false) && (v.2.1.2 k).1 == b) = true) → (((!bif (v.2.1.2 k).1 == a then (v.2.1.2 k).2.1 == b else false) && (v.2.1.2 k).1 == b) = true)),
  ((((!bif (v.2.1.2 k).1 == a then (v.2.1.2 k).2.1 == b else false) && (v.2.1.2 k).1 == b) = true) → (((!bif (v.2.1.2 k).1 == a then (v.2.1.2 k).2.1 == b else false) && (v.2.1.2 k).1 == b) = true)),
  (((!bif (v.2.1.2 k).1 == a then (v.2.1.2 k).2.1 == b else false) = true) → ((!bif (v.2.1.2 k).1 == a then (v.2.1.2 k).2.1 == b else false) = true)),
  (((!bif (v.2.1.2 k).1 == a then (v.2.1.2 k).2.1 == b else false) = true) → ((((v.2.1.2 k).1 == b) = true) → (((!bif (v.2.1.2 k).1 == a then (v.2.1.2 k).2.1 == b else false) && (v.2.1.2 k).1 == b) = true))),
  (((bif (v.2.1.2 k).1 == a then (v.2.1.2 k).2.1 == b else false) = false) → ((!bif (v.2.1.2 k).1 == a then (v.2.1.2 k).2.1 == b else false) = true)),
  ((bif bif (v.2.1.2 k).1 == a then (v.2.1.2 k).2.1 == b else false then true else bif (v.2.1.2 k).1 == b then (v.2.1.2 k).2.1 == a else false) = true),
  (((-9223372036854775808) : Int) ≤ ((↑n : Int) + 1)),
  ((((↑n : Int) + 1) : Int) ≤ 9223372036854775807),
  (((-9223372036854775808) : Int) ≤ ((↑k : Int) + 1)),
  ((((↑k : Int) + 1) : Int) ≤ 9223372036854775807),
  ((v.1 : Int) = v.1),
  ((v.2.1.1 : Nat) = v.2.1.1),
  (∀ i : Nat, (((i : Nat) < v.2.1.1) → (([.int .i64 ((v.2.1.2 i).1), .int .i64 ((v.2.1.2 i).2.1)] : List PV) = [.int .i64 ((v.2.1.2 i).1), .int .i64 ((v.2.1.2 i).2.1)]))),
  ((a : Int) = a),
  ((b : Int) = b),
  ((0 : Nat) = 0),
  ((((↑n : Int) + 1) : Int) = (↑(n + 1) : Int)),
  ((v.2.1.1 : Nat) = v.2.1.1),
  (∀ i : Nat, (((i : Nat) < v.2.1.1) → (([.int .i64 ((v.2.1.2 i).1), .int .i64 ((v.2.1.2 i).2.1)] : List PV) = [.int .i64 ((v.2.1.2 i).1), .int .i64 ((v.2.1.2 i).2.1)]))),
  (((↑v.2.1.1 : Int) : Int) = (↑v.2.1.1 : Int)),
  ((((↑k : Int) + 1) : Int) = (↑(k + 1) : Int)),
  ((2 : Nat) = 2),
  ((1 : Nat) ≤ 1),
  ((1 : Nat) ≤ 1),
  ((v.1 : Int) = v.1),
  ((v.2.1.1 : Nat) = v.2.1.1),
  (∀ i : Nat, (((i : Nat) < v.2.1.1) → (([.int .i64 ((v.2.1.2 i).1), .int .i64 ((v.2.1.2 i).2.1)] : List PV) = [.int .i64 ((v.2.1.2 i).1), .int .i64 ((v.2.1.2 i).2.1)])))]) := by kernel_rfl
theorem oIf (v : T_Graph) (a b : Int) (k n : Nat) :
    pieceOb Try.prog 0 [.reg [oT], .dec true, .reg [oT, oT, oT, oT], .reg [oT, oT, oT, oT, oT, oT, oT, oT, oT, oT, oT, oT, oT, oT, oT, oT, oT, oT, oT, oT, oT, oT], .dec false, .reg [oT, oT], .head] [.code (cAt (bodyOf Try.f111) [1, 1, 0, 1, 0, 0]), .inLoop (cAt (bodyOf Try.f111) [1, 1, 0, 1, 0, 0]), .inBlock 0, .code (cAt (bodyOf Try.f111) [1, 1, 1])] (SOi v a b k n) [0] 1 (SOi v a b (k + 1) n) =
    some ([.code (cAt (bodyOf Try.f111) [1, 1, 0, 1, 0, 0]), .inLoop (cAt (bodyOf Try.f111) [1, 1, 0, 1, 0, 0]), .inBlock 0, .code (cAt (bodyOf Try.f111) [1, 1, 1])], [((decide ((↑k : Int) < (↑v.2.1.1 : Int))) = true),
  ((0 : Int) ≤ (↑k : Int)),
  (((↑k : Int) : Int) < (↑v.2.1.1 : Int)),
  ((0 : Nat) < 1),
  ((true = true) → ((1 : Nat) = 1)),
  ((0 : Nat) < 1),
  ((((v.2.1.2 k).1 == a) = true) → (((v.2.1.2 k).1 == a) = true)),
  ((((v.2.1.2 k).1 == a) = true) → ((0 : Nat) < 1)),
  ((((v.2.1.2 k).1 == a) = true) → (((v.2.1.2 k).1 == a) = true)),
  ((((v.2.1.2 k).1 == a) = true) → (((v.2.1.2 k).1 == a) = true)),
  ((((v.2.1.2 k).1 == a) = true) → (((v.2.1.2 k).1 == a) = true)),
  (((!bif (v.2.1.2 k).1 == a then (v.2.1.2 k).2.1 == b else false) = true) → ((!bif (v.2.1.2 k).1 == a then (v.2.1.2 k).2.1 == b else false) = true)),
  (((!bif (v.2.1.2 k).1 == a then (v.2.1.2 k).2.1 == b else false) = true) → ((0 : Nat) < 1)),
  (((!bif (v.2.1.2 k).1 == a then (v.2.1.2 k).2.1 == b else false) = true) → ((!bif (v.2.1.2 k).1 == a then (v.2.1.2 k).2.1 == b else false) = true)),
  (((!bif (v.2.1.2 k).1 == a then (v.2.1.2 k).2.1 == b else false) = true) → ((!bif (v.2.1.2 k).1 == a then (v.2.1.2 k).2.1 == b else false) = true)),
  (((!bif (v.2.1.2 k).1 == a then (v.2.1.2 k).2.1 == b else false) = true) → ((!bif (v.2.1.2 k).1 == a then (v.2.1.2 k).2.1 == b else false) = true)),
  ((((!bif (v.2.1.2 k).1 == a then (v.2.1.2 k).2.1 == b else false) && (v.2.1.2 k).1 == b) = true) → (((!bif (v.2.1.2 k).1 == a then (v.2.1.2 k).2.1 == b else false) && (v.2.1.2 k).1 == b) = true)),
  ((((!bif (v.2.1.2 k).1 == a then (v.2.1.2 k).2.1 == b else false) && (v.2.1.2 k).1 == b) = true) → ((0 : Nat) < 1)),
  ((((!bif (v.2.1.2 k).1 == a then (v.2.1.2 k).2.1 == b else false) && (v.2.1.2 k).1 == b) = true) → (((!bif (v.2.1.2 k).1 == a then (v.2.1.2 k).2.1 == b else false) && (v.2.1.2 k).1 == b) = true)),
  ((((!bif (v.2.1.2 k).1 == a then (v.2.1.2 k).2.1 == b else false) && (v.2.1.2 k).1 == b) = true) → (((!bif (v.2.1.2 k).1 == a then (v.2.1.2 k).2.1 == b else false) && (v.2.1.2 k).1 == b) = true)),
  (((!bif (v.2.1.2 k).1 == a then (v.2.1.2 k).2.1 == b else false) = true) → ((!bif (v.2.1.2 k).1 == a then (v.2.1.2 k).2.1 == b else false) = true)),
  (((!bif (v.2.1.2 k).1 == a then (v.2.1.2 k).2.1 == b else false) = true) → ((((v.2.1.2 k).1 == b) = true) → (((!bif (v.2.1.2 k).1 == a then (v.2.1.2 k).2.1 == b else false) && (v.2.1.2 k).1 == b) = true))),
  (((bif (v.2.1.2 k).1 == a then (v.2.1.2 k).2.1 == b else false) = false) → ((!bif (v.2.1.2 k).1 == a then (v.2.1.2 k).2.1 == b else false) = true)),
  ((bif bif (v.2.1.2 k).1 == a then (v.2.1.2 k).2.1 == b else false then true else bif (v.2.1.2 k).1 == b then (v.2.1.2 k).2.1 == a else false) = false),
  (((-9223372036854775808) : Int) ≤ ((↑k : Int) + 1)),
  ((((↑k : Int) + 1) : Int) ≤ 9223372036854775807),
  ((v.1 : Int) = v.1),
  ((v.2.1.1 : Nat) = v.2.1.1),
  (∀ i : Nat, (((i : Nat) < v.2.1.1) → (([.int .i64 ((v.2.1.2 i).1), .int .i64 ((v.2.1.2 i).2.1)] : List PV) = [.int .i64 ((v.2.1.2 i).1), .int .i64 ((v.2.1.2 i).2.1)]))),
  ((a : Int) = a),
  ((b : Int) = b),
  ((0 : Nat) = 0),
  (((↑n : Int) : Int) = (↑n : Int)),
  ((v.2.1.1 : Nat) = v.2.1.1),
  (∀ i : Nat, (((i : Nat) < v.2.1.1) → (([.int .i64 ((v.2.1.2 i).1), .int .i64 ((v.2.1.2 i).2.1)] : List PV) = [.int .i64 ((v.2.1.2 i).1), .int .i64 ((v.2.1.2 i).2.1)]))),
  (((↑v.2.1.1 : Int) : Int) = (↑v.2.1.1 : Int)),
  ((((↑k : Int) + 1) : Int) = (↑(k + 1) : Int)),
  ((2 : Nat) = 2),
  ((1 : Nat) ≤ 1),
  ((1 : Nat) ≤ 1),
  ((v.1 : Int) = v.1),
  ((v.2.1.1 : Nat) = v.2.1.1),
  (∀ i : Nat, (((i : Nat) < v.2.1.1) → (([.int .i64 ((v.2.1.2 i).1), .int .i64 ((v.2.1.2 i).2.1)] : List PV) = [.int .i64 ((v.2.1.2 i).1), .int .i64 ((v.2.1.2 i).2.1)])))]) := by kernel_rfl
theorem oIe (v : T_Graph) (a b : Int) (k n : Nat) :
    pathOb Try.prog Try.f111 0 [.reg [oT], .dec false, .reg [oT, oT]] [.code (cAt (bodyOf Try.f111) [1, 1, 0, 1, 0, 0]), .inLoop (cAt (bodyOf Try.f111) [1, 1, 0, 1, 0, 0]), .inBlock 0, .code (cAt (bodyOf Try.f111) [1, 1, 1])] (SOi v a b k n) [] 1 [] (.p (.int .i64 n)) =
    some [((decide ((↑k : Int) < (↑v.2.1.1 : Int))) = false),
  (((↑n : Int) : Int) = (↑n : Int))] := by kernel_rfl
theorem mSz (v : T_Graph) :
    pieceOb Try.prog 0 [.reg [oT, oT], .reg [oT, oT], .reg [oT], .head] [.code (bodyOf Try.f71)] (start Try.f71 [] 0 [graphA v]) [0, 64] 1 (SMso v 0 0 (fun _ => (0, 0, ()))) =
    some ([.code (cAt (bodyOf Try.f71) [1, 1, 0, 1, 0, 0]), .inLoop (cAt (bodyOf Try.f71) [1, 1, 0, 1, 0, 0]), .inBlock 0, .code (cAt (bodyOf Try.f71) [1, 1, 1])], [((v.1 : Int) = v.1),
  ((v.2.1.1 : Nat) = v.2.1.1),
  (∀ i : Nat, (((i : Nat) < v.2.1.1) → (([.int .i64 ((v.2.1.2 i).1), .int .i64 ((v.2.1.2 i).2.1)] : List PV) = [.int .i64 ((v.2.1.2 i).1), .int .i64 ((v.2.1.2 i).2.1)]))),
  ((0 : Nat) = 0),
  ((0 : Nat) = 0),
  ((0 : Nat) = 0),
  ((0 : Int) = (↑0 : Int)),
  ((([AV.p (PV.int IntKind.i64 v.1), graphL v.2.1].length) : Nat) = 2),
  ((1 : Nat) ≤ 1),
  ((1 : Nat) ≤ 1),
  ((v.1 : Int) = v.1),
  ((v.2.1.1 : Nat) = v.2.1.1),
  (∀ i : Nat, (((i : Nat) < v.2.1.1) → (([.int .i64 ((v.2.1.2 i).1), .int .i64 ((v.2.1.2 i).2.1)] : List PV) = [.int .i64 ((v.2.1.2 i).1), .int .i64 ((v.2.1.2 i).2.1)]))),
  ((2 : Nat) = 2),
  ((0 : Nat) ≤ 0),
  (∀ i : Nat, (((i : Nat) < 0) → (All [] ∧ (([.p .any, .p .any] : List AV) = [.p (.int .i64 0), .p (.int .i64 0)]))))]) := by kernel_rfl
theorem mSo (v : T_Graph) (a n : Nat) (h : Nat → T_Bar) (b : Bool) :
    pieceOb Try.prog 0 [.reg [oT, oT, oT, oT, oT, oT, ⟨true, (some ⟨[], [], 1, [], .p (.bool b)⟩), none⟩, oT], .dec true, .reg [oT, oT, oT], .head] [.code (cAt (bodyOf Try.f71) [1, 1, 0, 1, 0, 0]), .inLoop (cAt (bodyOf Try.f71) [1, 1, 0, 1, 0, 0]), .inBlock 0, .code (cAt (bodyOf Try.f71) [1, 1, 1])] (SMso v a n h) [0, 1] 1 (SMsi v a (a + 1) n h) =
    some ([.code (cAt (bodyOf Try.f71) [1, 1, 0, 1, 0, 0, 1, 0, 0, 1, 0, 0]), .inLoop (cAt (bodyOf Try.f71) [1, 1, 0, 1, 0, 0, 1, 0, 0, 1, 0, 0]), .inBlock 2, .inBlock 1, .code (cAt (bodyOf Try.f71) [1, 1, 0, 1, 0, 0, 1, 1]), .inLoop (cAt (bodyOf Try.f71) [1, 1, 0, 1, 0, 0]), .inBlock 0, .code (cAt (bodyOf Try.f71) [1, 1, 1])], [((0 : Nat) < 1),
  (((decide ((↑a : Int) < v.1)) = true) → ((0 : Nat) < 1)),
  (((decide ((↑a : Int) < v.1)) = true) → ((decide ((↑a : Int) < v.1)) = true)),
  (((decide ((↑a : Int) < v.1)) = true) → Con Try.prog 73 0 [] [.agg [.p (.int .i64 v.1), .p (.seq true 2 v.2.1.1 (fun i => [.int .i64 ((v.2.1.2 i).1), .int .i64 ((v.2.1.2 i).2.1)]))]] [] (.p (.bool b))),
  (((decide ((↑a : Int) < v.1)) = true) → ((decide ((↑a : Int) < v.1)) = true)),
  ((bif decide ((↑a : Int) < v.1) then b else false) = true),
  (((-9223372036854775808) : Int) ≤ ((↑a : Int) + 1)),
  ((((↑a : Int) + 1) : Int) ≤ 9223372036854775807),
  ((v.1 : Int) = v.1),
  ((v.2.1.1 : Nat) = v.2.1.1),
  (∀ i : Nat, (((i : Nat) < v.2.1.1) → (([.int .i64 ((v.2.1.2 i).1), .int .i64 ((v.2.1.2 i).2.1)] : List PV) = [.int .i64 ((v.2.1.2 i).1), .int .i64 ((v.2.1.2 i).2.1)]))),
  ((0 : Nat) = 0),
  ((0 : Nat) = 0),
  ((n : Nat) = n),
  (((↑a : Int) : Int) = (↑a : Int)),
  ((((↑a : Int) + 1) : Int) = (↑(a + 1) : Int)),
  ((2 : Nat) = 2),
  ((1 : Nat) ≤ 1),
  ((1 : Nat) ≤ 1),
  ((v.1 : Int) = v.1),
  ((v.2.1.1 : Nat) = v.2.1.1),
  (∀ i : Nat, (((i : Nat) < v.2.1.1) → (([.int .i64 ((v.2.1.2 i).1), .int .i64 ((v.2.1.2 i).2.1)] : List PV) = [.int .i64 ((v.2.1.2 i).1), .int .i64 ((v.2.1.2 i).2.1)]))),
  ((2 : Nat) = 2),
  ((n : Nat) ≤ n),
  (∀ i : Nat, (((i : Nat) < n) → (All [] ∧ (([.p (.int .i64 ((h i).1)), .p (.int .i64 ((h i).2.1))] : List AV) = [.p (.int .i64 ((h i).1)), .p (.int .i64 ((h i).2.1))]))))]) := by kernel_rfl
theorem mSt (v : T_Graph) (a b n c : Nat) (h : Nat → T_Bar) :
    pieceOb Try.prog 0 [.reg [oT, oT, oT, oT], .dec true, .reg [oT, oT, oT, ⟨true, (some ⟨[], [], 1, [], .p (.int .i64 c)⟩), none⟩, oT], .dec true, .reg [oT, oT, oT, oT, oT, oT, oT], .reg [oT, oT, oT], .head] [.code (cAt (bodyOf Try.f71) [1, 1, 0, 1, 0, 0, 1, 0, 0, 1, 0, 0]), .inLoop (cAt (bodyOf Try.f71) [1, 1, 0, 1, 0, 0, 1, 0, 0, 1, 0, 0]), .inBlock 2, .inBlock 1, .code (cAt (bodyOf Try.f71) [1, 1, 0, 1, 0, 0, 1, 1]), .inLoop (cAt (bodyOf Try.f71) [1, 1, 0, 1, 0, 0]), .inBlock 0, .code (cAt (bodyOf Try.f71) [1, 1, 1])] (SMsi v a b n h) [0, 450] 1 (SMsi v a (b + 1) (n + 1) (snoc n h (a, b, ()))) =
    some ([.code (cAt (bodyOf Try.f71) [1, 1, 0, 1, 0, 0, 1, 0, 0, 1, 0, 0]), .inLoop (cAt (bodyOf Try.f71) [1, 1, 0, 1, 0, 0, 1, 0, 0, 1, 0, 0]), .inBlock 2, .inBlock 1, .code (cAt (bodyOf Try.f71) [1, 1, 0, 1, 0, 0, 1, 1]), .inLoop (cAt (bodyOf Try.f71) [1, 1, 0, 1, 0, 0]), .inBlock 0, .code (cAt (bodyOf Try.f71) [1, 1, 1])], [((0 : Nat) < 1),
  ((decide ((↑b : Int) < v.1)) = true),
  ((0 : Nat) < 1),
  Con Try.prog 110 0 [] [.agg [.p (.int .i64 v.1), .p (.seq true 2 v.2.1.1 (fun i => [.int .i64 ((v.2.1.2 i).1), .int .i64 ((v.2.1.2 i).2.1)]))], .p (.int .i64 (↑a : Int)), .p (.int .i64 (↑b : Int))] [] (.p (.int .i64 (↑c : Int))),
  (((↑c : Int) == 0) = true),
  ((1 : Nat) ≤ 1),
  ((n : Nat) ≤ n),
  ((((n + 1) * 16) : Nat) ≤ 140737488355328),
  (((n + 1) : Nat) ≤ 9223372036854775807),
  (((-9223372036854775808) : Int) ≤ ((↑b : Int) + 1)),
  ((((↑b : Int) + 1) : Int) ≤ 9223372036854775807),
  ((v.1 : Int) = v.1),
  ((v.2.1.1 : Nat) = v.2.1.1),
  (∀ i : Nat, (((i : Nat) < v.2.1.1) → (([.int .i64 ((v.2.1.2 i).1), .int .i64 ((v.2.1.2 i).2.1)] : List PV) = [.int .i64 ((v.2.1.2 i).1), .int .i64 ((v.2.1.2 i).2.1)]))),
  ((0 : Nat) = 0),
  ((0 : Nat) = 0),
  (((n + 1) : Nat) = (n + 1)),
  (((↑a : Int) : Int) = (↑a : Int)),
  ((((↑b : Int) + 1) : Int) = (↑(b + 1) : Int)),
  ((2 : Nat) = 2),
  ((1 : Nat) ≤ 1),
  ((1 : Nat) ≤ 1),
  ((v.1 : Int) = v.1),
  ((v.2.1.1 : Nat) = v.2.1.1),
  (∀ i : Nat, (((i : Nat) < v.2.1.1) → (([.int .i64 ((v.2.1.2 i).1), .int .i64 ((v.2.1.2 i).2.1)] : List PV) = [.int .i64 ((v.2.1.2 i).1), .int .i64 ((v.2.1.2 i).2.1)]))),
  ((2 : Nat) = 2),
  (((n + 1) : Nat) ≤ (n + 1)),
  (∀ i : Nat, (((i : Nat) < (n + 1)) → (All (cvtL false [(450, ⟨false, 2, (n + 1), (fun i_1 => (if (i_1 < n) then [.p (.int .i64 ((h i_1).1)), .p (.int .i64 ((h i_1).2.1))] else [.p (.int .i64 (↑a : Int)), .p (.int .i64 (↑b : Int))]))⟩), (418, ⟨false, 2, 1, (fun i_1 => [.p (.int .i64 (↑a : Int)), .p (.int .i64 (↑b : Int))])⟩), (0, ⟨true, 2, 1, (fun i_1 => [.p (.int .i64 v.1), .p (.seq true 2 v.2.1.1 (fun i_2 => [.int .i64 ((v.2.1.2 i_2).1), .int .i64 ((v.2.1.2 i_2).2.1)]))])⟩)] [0, 450] 1 (if (i < n) then [.p (.int .i64 ((h i).1)), .p (.int .i64 ((h i).2.1))] else [.p (.int .i64 (↑a : Int)), .p (.int .i64 (↑b : Int))])).2 ∧ (((cvtL false [(450, ⟨false, 2, (n + 1), (fun i_1 => (if (i_1 < n) then [.p (.int .i64 ((h i_1).1)), .p (.int .i64 ((h i_1).2.1))] else [.p (.int .i64 (↑a : Int)), .p (.int .i64 (↑b : Int))]))⟩), (418, ⟨false, 2, 1, (fun i_1 => [.p (.int .i64 (↑a : Int)), .p (.int .i64 (↑b : Int))])⟩), (0, ⟨true, 2, 1, (fun i_1 => [.p (.int .i64 v.1), .p (.seq true 2 v.2.1.1 (fun i_2 => [.int .i64 ((v.2.1.2 i_2).1), .int .i64 ((v.2.1.2 i_2).2.1)]))])⟩)] [0, 450] 1 (if (i < n) then [.p (.int .i64 ((h i).1)), .p (.int .i64 ((h i).2.1))] else [.p (.int .i64 (↑a : Int)), .p (.int .i64 (↑b : Int))])).1 : List AV) = [.p (.int .i64 (if i < n then (h i).1 else (↑a : Int))), .p (.int .i64 (if i < n then (h i).2.1 else (↑b : Int)))]))))]) := by kernel_rfl
theorem mSf (v : T_Graph) (a b n c : Nat) (h : Nat → T_Bar) :
    pieceOb Try.prog 0 [.reg [oT, oT, oT, oT], .dec true, .reg [oT, oT, oT, ⟨true, (some ⟨[], [], 1, [], .p (.int .i64 c)⟩), none⟩, oT], .dec false, .reg [oT, oT, oT], .head] [.code (cAt (bodyOf Try.f71) [1, 1, 0, 1, 0, 0, 1, 0, 0, 1, 0, 0]), .inLoop (cAt (bodyOf Try.f71) [1, 1, 0, 1, 0, 0, 1, 0, 0, 1, 0, 0]), .inBlock 2, .inBlock 1, .code (cAt (bodyOf Try.f71) [1, 1, 0, 1, 0, 0, 1, 1]), .inLoop (cAt (bodyOf Try.f71) [1, 1, 0, 1, 0, 0]), .inBlock 0, .code (cAt (bodyOf Try.f71) [1, 1, 1])] (SMsi v a b n h) [0, 1] 1 (SMsi v a (b + 1) n h) =
    some ([.code (cAt (bodyOf Try.f71) [1, 1, 0, 1, 0, 0, 1, 0, 0, 1, 0, 0]), .inLoop (cAt (bodyOf Try.f71) [1, 1, 0, 1, 0, 0, 1, 0, 0, 1, 0, 0]), .inBlock 2, .inBlock 1, .code (cAt (bodyOf Try.f71) [1, 1, 0, 1, 0, 0, 1, 1]), .inLoop (cAt (bodyOf Try.f71) [1, 1, 0, 1, 0, 0]), .inBlock 0, .code (cAt (bodyOf Try.f71) [1, 1, 1])], [((0 : Nat) < 1),
  ((decide ((↑b : Int) < v.1)) = true),
  ((0 : Nat) < 1),
  Con Try.prog 110 0 [] [.agg [.p (.int .i64 v.1), .p (.seq true 2 v.2.1.1 (fun i => [.int .i64 ((v.2.1.2 i).1), .int .i64 ((v.2.1.2 i).2.1)]))], .p (.int .i64 (↑a : Int)), .p (.int .i64 (↑b : Int))] [] (.p (.int .i64 (↑c : Int))),
  (((↑c : Int) == 0) = false),
  (((-9223372036854775808) : Int) ≤ ((↑b : Int) + 1)),
  ((((↑b : Int) + 1) : Int) ≤ 9223372036854775807),
  ((v.1 : Int) = v.1),
  ((v.2.1.1 : Nat) = v.2.1.1),
  (∀ i : Nat, (((i : Nat) < v.2.1.1) → (([.int .i64 ((v.2.1.2 i).1), .int .i64 ((v.2.1.2 i).2.1)] : List PV) = [.int .i64 ((v.2.1.2 i).1), .int .i64 ((v.2.1.2 i).2.1)]))),
  ((0 : Nat) = 0),
  ((0 : Nat) = 0),
  ((n : Nat) = n),
  (((↑a : Int) : Int) = (↑a : Int)),
  ((((↑b : Int) + 1) : Int) = (↑(b + 1) : Int)),
  ((2 : Nat) = 2),
  ((1 : Nat) ≤ 1),
  ((1 : Nat) ≤ 1),
  ((v.1 : Int) = v.1),
  ((v.2.1.1 : Nat) = v.2.1.1),
  (∀ i : Nat, (((i : Nat) < v.2.1.1) → (([.int .i64 ((v.2.1.2 i).1), .int .i64 ((v.2.1.2 i).2.1)] : List PV) = [.int .i64 ((v.2.1.2 i).1), .int .i64 ((v.2.1.2 i).2.1)]))),
  ((2 : Nat) = 2),
  ((n : Nat) ≤ n),
  (∀ i : Nat, (((i : Nat) < n) → (All [] ∧ (([.p (.int .i64 ((h i).1)), .p (.int .i64 ((h i).2.1))] : List AV) = [.p (.int .i64 ((h i).1)), .p (.int .i64 ((h i).2.1))]))))]) := by kernel_rfl
theorem mSx (v : T_Graph) (a b n : Nat) (h : Nat → T_Bar) :
    pieceOb Try.prog 0 [.reg [oT, oT, oT, oT], .dec false, .reg [oT, oT, oT], .head] [.code (cAt (bodyOf Try.f71) [1, 1, 0, 1, 0, 0, 1, 0, 0, 1, 0, 0]), .inLoop (cAt (bodyOf Try.f71) [1, 1, 0, 1, 0, 0, 1, 0, 0, 1, 0, 0]), .inBlock 2, .inBlock 1, .code (cAt (bodyOf Try.f71) [1, 1, 0, 1, 0, 0, 1, 1]), .inLoop (cAt (bodyOf Try.f71) [1, 1, 0, 1, 0, 0]), .inBlock 0, .code (cAt (bodyOf Try.f71) [1, 1, 1])] (SMsi v a b n h) [0, 1] 1 (SMso v (a + 1) n h) =
    some ([.code (cAt (bodyOf Try.f71) [1, 1, 0, 1, 0, 0]), .inLoop (cAt (bodyOf Try.f71) [1, 1, 0, 1, 0, 0]), .inBlock 0, .code (cAt (bodyOf Try.f71) [1, 1, 1])], [((0 : Nat) < 1),
  ((decide ((↑b : Int) < v.1)) = false),
  (((-9223372036854775808) : Int) ≤ ((↑a : Int) + 1)),
  ((((↑a : Int) + 1) : Int) ≤ 9223372036854775807),
  ((v.1 : Int) = v.1),
  ((v.2.1.1 : Nat) = v.2.1.1),
  (∀ i : Nat, (((i : Nat) < v.2.1.1) → (([.int .i64 ((v.2.1.2 i).1), .int .i64 ((v.2.1.2 i).2.1)] : List PV) = [.int .i64 ((v.2.1.2 i).1), .int .i64 ((v.2.1.2 i).2.1)]))),
  ((0 : Nat) = 0),
  ((0 : Nat) = 0),
  ((n : Nat) = n),
  ((((↑a : Int) + 1) : Int) = (↑(a + 1) : Int)),
  ((2 : Nat) = 2),
  ((1 : Nat) ≤ 1),
  ((1 : Nat) ≤ 1),
  ((v.1 : Int) = v.1),
  ((v.2.1.1 : Nat) = v.2.1.1),
  (∀ i : Nat, (((i : Nat) < v.2.1.1) → (([.int .i64 ((v.2.1.2 i).1), .int .i64 ((v.2.1.2 i).2.1)] : List PV) = [.int .i64 ((v.2.1.2 i).1), .int .i64 ((v.2.1.2 i).2.1)]))),
  ((2 : Nat) = 2),
  ((n : Nat) ≤ n),
  (∀ i : Nat, (((i : Nat) < n) → (All [] ∧ (([.p (.int .i64 ((h i).1)), .p (.int .i64 ((h i).2.1))] : List AV) = [.p (.int .i64 ((h i).1)), .p (.int .i64 ((h i).2.1))]))))]) := by kernel_rfl
theorem mSe (v : T_Graph) (a n : Nat) (h : Nat → T_Bar) (b : Bool) :
    pathOb Try.prog Try.f71 0 [.reg [oT, oT, oT, oT, oT, oT, ⟨true, (some ⟨[], [], 1, [], .p (.bool b)⟩), none⟩, oT], .dec false, .reg [oT, oT]] [.code (cAt (bodyOf Try.f71) [1, 1, 0, 1, 0, 0]), .inLoop (cAt (bodyOf Try.f71) [1, 1, 0, 1, 0, 0]), .inBlock 0, .code (cAt (bodyOf Try.f71) [1, 1, 1])] (SMso v a n h) [1] 1 [(0, brOb n h)] (.ar 2 0 0 n) =
    some [((0 : Nat) < 1),
  (((decide ((↑a : Int) < v.1)) = true) → ((0 : Nat) < 1)),
  (((decide ((↑a : Int) < v.1)) = true) → ((decide ((↑a : Int) < v.1)) = true)),
  (((decide ((↑a : Int) < v.1)) = true) → Con Try.prog 73 0 [] [.agg [.p (.int .i64 v.1), .p (.seq true 2 v.2.1.1 (fun i => [.int .i64 ((v.2.1.2 i).1), .int .i64 ((v.2.1.2 i).2.1)]))]] [] (.p (.bool b))),
  (((decide ((↑a : Int) < v.1)) = true) → ((decide ((↑a : Int) < v.1)) = true)),
  ((bif decide ((↑a : Int) < v.1) then b else false) = false),
  ((0 : Nat) = 0),
  ((n : Nat) = n),
  ((2 : Nat) = 2),
  ((n : Nat) ≤ n),
  (∀ i : Nat, (((i : Nat) < n) → (All [] ∧ (([.p (.int .i64 ((h i).1)), .p (.int .i64 ((h i).2.1))] : List AV) = [.p (.int .i64 ((h i).1)), .p (.int .i64 ((h i).2.1))])))),
  (∀ i : Nat, (((i : Nat) < n) → All []))] := by kernel_rfl
theorem mIn (v : T_Graph) :
    pathOb Try.prog Try.f72 0 [.reg [oT, oT], .reg [oT, oT], .reg [oT, ⟨true, (some ⟨[], [], 1, [], .p (.bool false)⟩), none⟩, oT], .dec true, .reg [oT, oT]] [.code (bodyOf Try.f72)] (start Try.f72 [] 0 [graphA v]) [64] 1 [(0, brOb 0 (fun _ => (0, 0, ())))] (.ar 2 0 0 0) =
    some [((0 : Nat) < 1),
  Con Try.prog 77 0 [] [.agg [.p (.int .i64 v.1), .p (.seq true 2 v.2.1.1 (fun i => [.int .i64 ((v.2.1.2 i).1), .int .i64 ((v.2.1.2 i).2.1)]))]] [] (.p (.bool false)),
  ((!false) = true),
  ((0 : Nat) = 0),
  ((0 : Nat) = 0),
  ((2 : Nat) = 2),
  ((0 : Nat) ≤ 0),
  (∀ i : Nat, (((i : Nat) < 0) → (All [] ∧ (([.p .any, .p .any] : List AV) = [.p (.int .i64 0), .p (.int .i64 0)])))),
  (∀ i : Nat, (((i : Nat) < 0) → All []))] := by kernel_rfl
theorem mIz (v : T_Graph) :
    pieceOb Try.prog 0 [.reg [oT, oT], .reg [oT, oT], .reg [oT, ⟨true, (some ⟨[], [], 1, [], .p (.bool true)⟩), none⟩, oT], .dec false, .reg [oT, oT, oT], .head] [.code (bodyOf Try.f72)] (start Try.f72 [] 0 [graphA v]) [0, 64] 1 (SMio v 0 0 (fun _ => (0, 0, ()))) =
    some ([.code (cAt (bodyOf Try.f72) [1, 1, 1, 0, 1, 0, 0]), .inLoop (cAt (bodyOf Try.f72) [1, 1, 1, 0, 1, 0, 0]), .inBlock 0, .code (cAt (bodyOf Try.f72) [1, 1, 1, 1])], [((0 : Nat) < 1),
  Con Try.prog 77 0 [] [.agg [.p (.int .i64 v.1), .p (.seq true 2 v.2.1.1 (fun i => [.int .i64 ((v.2.1.2 i).1), .int .i64 ((v.2.1.2 i).2.1)]))]] [] (.p (.bool true)),
  ((!true) = false),
  ((0 : Nat) < 1),
  ((v.1 : Int) = v.1),
  ((v.2.1.1 : Nat) = v.2.1.1),
  (∀ i : Nat, (((i : Nat) < v.2.1.1) → (([.int .i64 ((v.2.1.2 i).1), .int .i64 ((v.2.1.2 i).2.1)] : List PV) = [.int .i64 ((v.2.1.2 i).1), .int .i64 ((v.2.1.2 i).2.1)]))),
  ((0 : Nat) = 0),
  ((0 : Nat) = 0),
  ((0 : Nat) = 0),
  ((v.1 : Int) = v.1),
  ((0 : Int) = (↑0 : Int)),
  ((([AV.p (PV.int IntKind.i64 v.1), graphL v.2.1].length) : Nat) = 2),
  ((1 : Nat) ≤ 1),
  ((1 : Nat) ≤ 1),
  ((v.1 : Int) = v.1),
  ((v.2.1.1 : Nat) = v.2.1.1),
  (∀ i : Nat, (((i : Nat) < v.2.1.1) → (([.int .i64 ((v.2.1.2 i).1), .int .i64 ((v.2.1.2 i).2.1)] : List PV) = [.int .i64 ((v.2.1.2 i).1), .int .i64 ((v.2.1.2 i).2.1)]))),
  ((2 : Nat) = 2),
  ((0 : Nat) ≤ 0),
  (∀ i : Nat, (((i : Nat) < 0) → (All [] ∧ (([.p .any, .p .any] : List AV) = [.p (.int .i64 0), .p (.int .i64 0)]))))]) := by kernel_rfl
theorem mIo (v : T_Graph) (a n : Nat) (h : Nat → T_Bar) :
    pieceOb Try.prog 0 [.reg [oT], .dec true, .reg [oT, oT], .reg [oT, oT, oT], .head] [.code (cAt (bodyOf Try.f72) [1, 1, 1, 0, 1, 0, 0]), .inLoop (cAt (bodyOf Try.f72) [1, 1, 1, 0, 1, 0, 0]), .inBlock 0, .code (cAt (bodyOf Try.f72) [1, 1, 1, 1])] (SMio v a n h) [0, 1] 1 (SMii v a (a + 1) n h) =
    some ([.code (cAt (bodyOf Try.f72) [1, 1, 1, 0, 1, 0, 0, 1, 1, 0, 0, 1, 1, 0, 0]), .inLoop (cAt (bodyOf Try.f72) [1, 1, 1, 0, 1, 0, 0, 1, 1, 0, 0, 1, 1, 0, 0]), .inBlock 2, .inBlock 1, .code (cAt (bodyOf Try.f72) [1, 1, 1, 0, 1, 0, 0, 1, 1, 1]), .inLoop (cAt (bodyOf Try.f72) [1, 1, 1, 0, 1, 0, 0]), .inBlock 0, .code (cAt (bodyOf Try.f72) [1, 1, 1, 1])], [((decide ((↑a : Int) < v.1)) = true),
  (((-9223372036854775808) : Int) ≤ ((↑a : Int) + 1)),
  ((((↑a : Int) + 1) : Int) ≤ 9223372036854775807),
  ((v.1 : Int) = v.1),
  ((v.2.1.1 : Nat) = v.2.1.1),
  (∀ i : Nat, (((i : Nat) < v.2.1.1) → (([.int .i64 ((v.2.1.2 i).1), .int .i64 ((v.2.1.2 i).2.1)] : List PV) = [.int .i64 ((v.2.1.2 i).1), .int .i64 ((v.2.1.2 i).2.1)]))),
  ((0 : Nat) = 0),
  ((0 : Nat) = 0),
  ((n : Nat) = n),
  (((↑a : Int) : Int) = (↑a : Int)),
  ((((↑a : Int) + 1) : Int) = (↑(a + 1) : Int)),
  ((v.1 : Int) = v.1),
  (((↑a : Int) : Int) = (↑a : Int)),
  ((2 : Nat) = 2),
  ((1 : Nat) ≤ 1),
  ((1 : Nat) ≤ 1),
  ((v.1 : Int) = v.1),
  ((v.2.1.1 : Nat) = v.2.1.1),
  (∀ i : Nat, (((i : Nat) < v.2.1.1) → (([.int .i64 ((v.2.1.2 i).1), .int .i64 ((v.2.1.2 i).2.1)] : List PV) = [.int .i64 ((v.2.1.2 i).1), .int .i64 ((v.2.1.2 i).2.1)]))),
  ((2 : Nat) = 2),
  ((n : Nat) ≤ n),
  (∀ i : Nat, (((i : Nat) < n) → (All [] ∧ (([.p (.int .i64 ((h i).1)), .p (.int .i64 ((h i).2.1))] : List AV) = [.p (.int .i64 ((h i).1)), .p (.int .i64 ((h i).2.1))]))))]) := by kernel_rfl
theorem mIt (v : T_Graph) (a b n c : Nat) (h : Nat → T_Bar) :
    pieceOb Try.prog 0 [.reg [oT, oT, oT, oT], .dec true, .reg [oT, oT, oT, ⟨true, (some ⟨[], [], 1, [], .p (.int .i64 c)⟩), none⟩, oT], .dec true, .reg [oT, oT, oT, oT, oT, oT, oT], .reg [oT, oT, oT], .head] [.code (cAt (bodyOf Try.f72) [1, 1, 1, 0, 1, 0, 0, 1, 1, 0, 0, 1, 1, 0, 0]), .inLoop (cAt (bodyOf Try.f72) [1, 1, 1, 0, 1, 0, 0, 1, 1, 0, 0, 1, 1, 0, 0]), .inBlock 2, .inBlock 1, .code (cAt (bodyOf Try.f72) [1, 1, 1, 0, 1, 0, 0, 1, 1, 1]), .inLoop (cAt (bodyOf Try.f72) [1, 1, 1, 0, 1, 0, 0]), .inBlock 0, .code (cAt (bodyOf Try.f72) [1, 1, 1, 1])] (SMii v a b n h) [0, 450] 1 (SMii v a (b + 1) (n + 1) (snoc n h (a, b, ()))) =
    some ([.code (cAt (bodyOf Try.f72) [1, 1, 1, 0, 1, 0, 0, 1, 1, 0, 0, 1, 1, 0, 0]), .inLoop (cAt (bodyOf Try.f72) [1, 1, 1, 0, 1, 0, 0, 1, 1, 0, 0, 1, 1, 0, 0]), .inBlock 2, .inBlock 1, .code (cAt (bodyOf Try.f72) [1, 1, 1, 0, 1, 0, 0, 1, 1, 1]), .inLoop (cAt (bodyOf Try.f72) [1, 1, 1, 0, 1, 0, 0]), .inBlock 0, .code (cAt (bodyOf Try.f72) [1, 1, 1, 1])], [((0 : Nat) < 1),
  ((decide ((↑b : Int) < v.1)) = true),
  ((0 : Nat) < 1),
  Con Try.prog 111 0 [] [.agg [.p (.int .i64 v.1), .p (.seq true 2 v.2.1.1 (fun i => [.int .i64 ((v.2.1.2 i).1), .int .i64 ((v.2.1.2 i).2.1)]))], .p (.int .i64 (↑a : Int)), .p (.int .i64 (↑b : Int))] [] (.p (.int .i64 (↑c : Int))),
  (((↑c : Int) == 0) = true),
  ((1 : Nat) ≤ 1),
  ((n : Nat) ≤ n),
  ((((n + 1) * 16) : Nat) ≤ 140737488355328),
  (((n + 1) : Nat) ≤ 9223372036854775807),
  (((-9223372036854775808) : Int) ≤ ((↑b : Int) + 1)),
  ((((↑b : Int) + 1) : Int) ≤ 9223372036854775807),
  ((v.1 : Int) = v.1),
  ((v.2.1.1 : Nat) = v.2.1.1),
  (∀ i : Nat, (((i : Nat) < v.2.1.1) → (([.int .i64 ((v.2.1.2 i).1), .int .i64 ((v.2.1.2 i).2.1)] : List PV) = [.int .i64 ((v.2.1.2 i).1), .int .i64 ((v.2.1.2 i).2.1)]))),
  ((0 : Nat) = 0),
  ((0 : Nat) = 0),
  (((n + 1) : Nat) = (n + 1)),
  (((↑a : Int) : Int) = (↑a : Int)),
  ((((↑b : Int) + 1) : Int) = (↑(b + 1) : Int)),
  ((v.1 : Int) = v.1),
  (((↑a : Int) : Int) = (↑a : Int)),
  ((2 : Nat) = 2),
  ((1 : Nat) ≤ 1),
  ((1 : Nat) ≤ 1),
  ((v.1 : Int) = v.1),
  ((v.2.1.1 : Nat) = v.2.1.1),
  (∀ i : Nat, (((i : Nat) < v.2.1.1) → (([.int .i64 ((v.2.1.2 i).1), .int .i64 ((v.2.1.2 i).2.1)] : List PV) = [.int .i64 ((v.2.1.2 i).1), .int .i64 ((v.2.1.2 i).2.1)]))),
  ((2 : Nat) = 2),
  (((n + 1) : Nat) ≤ (n + 1)),
  (∀ i : Nat, (((i : Nat) < (n + 1)) → (All (cvtL false [(450, ⟨false, 2, (n + 1), (fun i_1 => (if (i_1 < n) then [.p (.int .i64 ((h i_1).1)), .p (.int .i64 ((h i_1).2.1))] else [.p (.int .i64 (↑a : Int)), .p (.int .i64 (↑b : Int))]))⟩), (418, ⟨false, 2, 1, (fun i_1 => [.p (.int .i64 (↑a : Int)), .p (.int .i64 (↑b : Int))])⟩), (0, ⟨true, 2, 1, (fun i_1 => [.p (.int .i64 v.1), .p (.seq true 2 v.2.1.1 (fun i_2 => [.int .i64 ((v.2.1.2 i_2).1), .int .i64 ((v.2.1.2 i_2).2.1)]))])⟩)] [0, 450] 1 (if (i < n) then [.p (.int .i64 ((h i).1)), .p (.int .i64 ((h i).2.1))] else [.p (.int .i64 (↑a : Int)), .p (.int .i64 (↑b : Int))])).2 ∧ (((cvtL false [(450, ⟨false, 2, (n + 1), (fun i_1 => (if (i_1 < n) then [.p (.int .i64 ((h i_1).1)), .p (.int .i64 ((h i_1).2.1))] else [.p (.int .i64 (↑a : Int)), .p (.int .i64 (↑b : Int))]))⟩), (418, ⟨false, 2, 1, (fun i_1 => [.p (.int .i64 (↑a : Int)), .p (.int .i64 (↑b : Int))])⟩), (0, ⟨true, 2, 1, (fun i_1 => [.p (.int .i64 v.1), .p (.seq true 2 v.2.1.1 (fun i_2 => [.int .i64 ((v.2.1.2 i_2).1), .int .i64 ((v.2.1.2 i_2).2.1)]))])⟩)] [0, 450] 1 (if (i < n) then [.p (.int .i64 ((h i).1)), .p (.int .i64 ((h i).2.1))] else [.p (.int .i64 (↑a : Int)), .p (.int .i64 (↑b : Int))])).1 : List AV) = [.p (.int .i64 (if i < n then (h i).1 else (↑a : Int))), .p (.int .i64 (if i < n then (h i).2.1 else (↑b : Int)))]))))]) := by kernel_rfl
theorem mIf (v : T_Graph) (a b n c : Nat) (h : Nat → T_Bar) :
    pieceOb Try.prog 0 [.reg [oT, oT, oT, oT], .dec true, .reg [oT, oT, oT, ⟨true, (some ⟨[], [], 1, [], .p (.int .i64 c)⟩), none⟩, oT], .dec false, .reg [oT, oT, oT], .head] [.code (cAt (bodyOf Try.f72) [1, 1, 1, 0, 1, 0, 0, 1, 1, 0, 0, 1, 1, 0, 0]), .inLoop (cAt (bodyOf Try.f72) [1, 1, 1, 0, 1, 0, 0, 1, 1, 0, 0, 1, 1, 0, 0]), .inBlock 2, .inBlock 1, .code (cAt (bodyOf Try.f72) [1, 1, 1, 0, 1, 0, 0, 1, 1, 1]), .inLoop (cAt (bodyOf Try.f72) [1, 1, 1, 0, 1, 0, 0]), .inBlock 0, .code (cAt (bodyOf Try.f72) [1, 1, 1, 1])] (SMii v a b n h) [0, 1] 1 (SMii v a (b + 1) n h) =
    some ([.code (cAt (bodyOf Try.f72) [1, 1, 1, 0, 1, 0, 0, 1, 1, 0, 0, 1, 1, 0, 0]), .inLoop (cAt (bodyOf Try.f72) [1, 1, 1, 0, 1, 0, 0, 1, 1, 0, 0, 1, 1, 0, 0]), .inBlock 2, .inBlock 1, .code (cAt (bodyOf Try.f72) [1, 1, 1, 0, 1, 0, 0, 1, 1, 1]), .inLoop (cAt (bodyOf Try.f72) [1, 1, 1, 0, 1, 0, 0]), .inBlock 0, .code (cAt (bodyOf Try.f72) [1, 1, 1, 1])], [((0 : Nat) < 1),
  ((decide ((↑b : Int) < v.1)) = true),
  ((0 : Nat) < 1),
  Con Try.prog 111 0 [] [.agg [.p (.int .i64 v.1), .p (.seq true 2 v.2.1.1 (fun i => [.int .i64 ((v.2.1.2 i).1), .int .i64 ((v.2.1.2 i).2.1)]))], .p (.int .i64 (↑a : Int)), .p (.int .i64 (↑b : Int))] [] (.p (.int .i64 (↑c : Int))),
  (((↑c : Int) == 0) = false),
  (((-9223372036854775808) : Int) ≤ ((↑b : Int) + 1)),
  ((((↑b : Int) + 1) : Int) ≤ 9223372036854775807),
  ((v.1 : Int) = v.1),
  ((v.2.1.1 : Nat) = v.2.1.1),
  (∀ i : Nat, (((i : Nat) < v.2.1.1) → (([.int .i64 ((v.2.1.2 i).1), .int .i64 ((v.2.1.2 i).2.1)] : List PV) = [.int .i64 ((v.2.1.2 i).1), .int .i64 ((v.2.1.2 i).2.1)]))),
  ((0 : Nat) = 0),
  ((0 : Nat) = 0),
  ((n : Nat) = n),
  (((↑a : Int) : Int) = (↑a : Int)),
  ((((↑b : Int) + 1) : Int) = (↑(b + 1) : Int)),
  ((v.1 : Int) = v.1),
  (((↑a : Int) : Int) = (↑a : Int)),
  ((2 : Nat) = 2),
  ((1 : Nat) ≤ 1),
  ((1 : Nat) ≤ 1),
  ((v.1 : Int) = v.1),
  ((v.2.1.1 : Nat) = v.2.1.1),
  (∀ i : Nat, (((i : Nat) < v.2.1.1) → (([.int .i64 ((v.2.1.2 i).1), .int .i64 ((v.2.1.2 i).2.1)] : List PV) = [.int .i64 ((v.2.1.2 i).1), .int .i64 ((v.2.1.2 i).2.1)]))),
  ((2 : Nat) = 2),
  ((n : Nat) ≤ n),
  (∀ i : Nat, (((i : Nat) < n) → (All [] ∧ (([.p (.int .i64 ((h i).1)), .p (.int .i64 ((h i).2.1))] : List AV) = [.p (.int .i64 ((h i).1)), .p (.int .i64 ((h i).2.1))]))))]) := by kernel_rfl
theorem mIx (v : T_Graph) (a b n : Nat) (h : Nat → T_Bar) :
    pieceOb Try.prog 0 [.reg [oT, oT, oT, oT], .dec false, .reg [oT, oT], .head] [.code (cAt (bodyOf Try.f72) [1, 1, 1, 0, 1, 0, 0, 1, 1, 0, 0, 1, 1, 0, 0]), .inLoop (cAt (bodyOf Try.f72) [1, 1, 1, 0, 1, 0, 0, 1, 1, 0, 0, 1, 1, 0, 0]), .inBlock 2, .inBlock 1, .code (cAt (bodyOf Try.f72) [1, 1, 1, 0, 1, 0, 0, 1, 1, 1]), .inLoop (cAt (bodyOf Try.f72) [1, 1, 1, 0, 1, 0, 0]), .inBlock 0, .code (cAt (bodyOf Try.f72) [1, 1, 1, 1])] (SMii v a b n h) [0, 1] 1 (SMio v (a + 1) n h) =
    some ([.code (cAt (bodyOf Try.f72) [1, 1, 1, 0, 1, 0, 0]), .inLoop (cAt (bodyOf Try.f72) [1, 1, 1, 0, 1, 0, 0]), .inBlock 0, .code (cAt (bodyOf Try.f72) [1, 1, 1, 1])], [((0 : Nat) < 1),
  ((decide ((↑b : Int) < v.1)) = false),
  (((-9223372036854775808) : Int) ≤ ((↑a : Int) + 1)),
  ((((↑a : Int) + 1) : Int) ≤ 9223372036854775807),
  ((v.1 : Int) = v.1),
  ((v.2.1.1 : Nat) = v.2.1.1),
  (∀ i : Nat, (((i : Nat) < v.2.1.1) → (([.int .i64 ((v.2.1.2 i).1), .int .i64 ((v.2.1.2 i).2.1)] : List PV) = [.int .i64 ((v.2.1.2 i).1), .int .i64 ((v.2.1.2 i).2.1)]))),
  ((0 : Nat) = 0),
  ((0 : Nat) = 0),
  ((n : Nat) = n),
  ((v.1 : Int) = v.1),
  ((((↑a : Int) + 1) : Int) = (↑(a + 1) : Int)),
  ((2 : Nat) = 2),
  ((1 : Nat) ≤ 1),
  ((1 : Nat) ≤ 1),
  ((v.1 : Int) = v.1),
  ((v.2.1.1 : Nat) = v.2.1.1),
  (∀ i : Nat, (((i : Nat) < v.2.1.1) → (([.int .i64 ((v.2.1.2 i).1), .int .i64 ((v.2.1.2 i).2.1)] : List PV) = [.int .i64 ((v.2.1.2 i).1), .int .i64 ((v.2.1.2 i).2.1)]))),
  ((2 : Nat) = 2),
  ((n : Nat) ≤ n),
  (∀ i : Nat, (((i : Nat) < n) → (All [] ∧ (([.p (.int .i64 ((h i).1)), .p (.int .i64 ((h i).2.1))] : List AV) = [.p (.int .i64 ((h i).1)), .p (.int .i64 ((h i).2.1))]))))]) := by kernel_rfl
theorem mIe (v : T_Graph) (a n : Nat) (h : Nat → T_Bar) :
    pathOb Try.prog Try.f72 0 [.reg [oT], .dec false, .reg [oT, oT]] [.code (cAt (bodyOf Try.f72) [1, 1, 1, 0, 1, 0, 0]), .inLoop (cAt (bodyOf Try.f72) [1, 1, 1, 0, 1, 0, 0]), .inBlock 0, .code (cAt (bodyOf Try.f72) [1, 1, 1, 1])] (SMio v a n h) [1] 1 [(0, brOb n h)] (.ar 2 0 0 n) =
    some [((decide ((↑a : Int) < v.1)) = false),
  ((0 : Nat) = 0),
  ((n : Nat) = n),
  ((2 : Nat) = 2),
  ((n : Nat) ≤ n),
  (∀ i : Nat, (((i : Nat) < n) → (All [] ∧ (([.p (.int .i64 ((h i).1)), .p (.int .i64 ((h i).2.1))] : List AV) = [.p (.int .i64 ((h i).1)), .p (.int .i64 ((h i).2.1))])))),
  (∀ i : Nat, (((i : Nat) < n) → All []))] := by kernel_rfl
theorem dAz (p : T_Pinned) (l : T_BarS) :
    pieceOb Try.prog 0 [.reg [oT, oT, oT], .reg [oT, oT], .reg [oT, oT, oT], .head] [.code (bodyOf Try.f70)] (start Try.f70 [] 0 [pinF p, graphL l]) [0, 32, 96] 1 (SAd p l 0 0 (fun _ => (0, 0, ()))) =
    some ([.code (cAt (bodyOf Try.f70) [1, 1, 0, 1, 0, 0]), .inLoop (cAt (bodyOf Try.f70) [1, 1, 0, 1, 0, 0]), .inBlock 0, .code (cAt (bodyOf Try.f70) [1, 1, 1])], [((0 : Nat) = 0),
  ((0 : Nat) = 0),
  ((0 : Nat) = 0),
  ((0 : Nat) = 0),
  ((l.1 : Nat) = l.1),
  (∀ i : Nat, (((i : Nat) < l.1) → (([.int .i64 ((l.2 i).1), .int .i64 ((l.2 i).2.1)] : List PV) = [.int .i64 ((l.2 i).1), .int .i64 ((l.2 i).2.1)]))),
  (((↑l.1 : Int) : Int) = (↑l.1 : Int)),
  ((0 : Int) = (↑0 : Int)),
  ((([AV.p (PV.int IntKind.i64 p.1.1), AV.p (PV.seq false 2 p.1.2.1.1 fun i => [PV.int IntKind.i64 (p.1.2.1.2 i).1, PV.int IntKind.i64 (p.1.2.1.2 i).2.1]), AV.p (PV.seq false 1 p.2.1.1 fun i => [PV.int IntKind.i64 (p.2.1.2 i)])].length) : Nat) = 3),
  ((1 : Nat) ≤ 1),
  ((1 : Nat) ≤ 1),
  ((p.1.1 : Int) = p.1.1),
  ((p.1.2.1.1 : Nat) = p.1.2.1.1),
  (∀ i : Nat, (((i : Nat) < p.1.2.1.1) → (([.int .i64 ((p.1.2.1.2 i).1), .int .i64 ((p.1.2.1.2 i).2.1)] : List PV) = [.int .i64 ((p.1.2.1.2 i).1), .int .i64 ((p.1.2.1.2 i).2.1)]))),
  ((p.2.1.1 : Nat) = p.2.1.1),
  (∀ i : Nat, (((i : Nat) < p.2.1.1) → (([.int .i64 (p.2.1.2 i)] : List PV) = [.int .i64 (p.2.1.2 i)]))),
  ((((List.map (fun v => AV.p (absV v)) [Value.int IntKind.i64 0, Value.slice none 0 0, Value.slice none 0 0]).length) : Nat) = 3),
  ((1 : Nat) ≤ 1),
  ((1 : Nat) ≤ 1),
  ((0 : Int) = 0),
  ((2 : Nat) = 2),
  ((0 : Nat) ≤ 0),
  (∀ i : Nat, (((i : Nat) < 0) → (All [] ∧ (([.p .any, .p .any] : List AV) = [.p (.int .i64 0), .p (.int .i64 0)]))))]) := by kernel_rfl
theorem dAt (q : T_Pinned) (l : T_BarS) (k n : Nat) (h : Nat → T_Bar) (v : T_Graph) (b1 b2 : Bool) (r1 r2 : Int) :
    pieceOb Try.prog 0 [.reg [oT], .dec true, .reg [oT, oT, oT, oT], .reg [oT, oT, oT, oT, oT, oT, ⟨true, (some ⟨[], [], 1, [(0, brOb v.2.1.1 v.2.1.2)], .tup [.agg [.p (.int .i64 v.1), .ar 2 0 0 v.2.1.1], .p (.bool b1)]⟩), none⟩, oT, oT, oT, oT, oT, oT], .reg [oT, oT, oT, oT, oT, oT], .reg [oT, oT, oT, ⟨true, (some ⟨[], [], 1, [], .p (.bool b2)⟩), none⟩, oT, oT, oT, ⟨true, (some ⟨[], [], 1, [], .p (.int .i64 r2)⟩), none⟩, oT, ⟨true, (some ⟨[], [], 1, [], .p (.int .i64 r1)⟩), none⟩, oT, oT, oT], .dec true, .reg [oT, oT, oT, oT, oT], .reg [oT, oT], .reg [oT, oT], .head] [.code (cAt (bodyOf Try.f70) [1, 1, 0, 1, 0, 0]), .inLoop (cAt (bodyOf Try.f70) [1, 1, 0, 1, 0, 0]), .inBlock 0, .code (cAt (bodyOf Try.f70) [1, 1, 1])] (SAd q l k n h) [0, 1, 1283] 1 (SAd (v, q.2) l (k + 1) (n + 1) (snoc n h (l.2 k))) =
    some ([.code (cAt (bodyOf Try.f70) [1, 1, 0, 1, 0, 0]), .inLoop (cAt (bodyOf Try.f70) [1, 1, 0, 1, 0, 0]), .inBlock 0, .code (cAt (bodyOf Try.f70) [1, 1, 1])], [((decide ((↑k : Int) < (↑l.1 : Int))) = true),
  ((0 : Int) ≤ (↑k : Int)),
  (((↑k : Int) : Int) < (↑l.1 : Int)),
  ((0 : Nat) < 1),
  ((true = true) → ((1 : Nat) = 1)),
  ((0 : Nat) < 1),
  ((0 : Nat) < 1),
  ((0 : Nat) < 1),
  Con Try.prog 63 0 [] [.agg [.p (.int .i64 q.1.1), .p (.seq true 2 q.1.2.1.1 (fun i => [.int .i64 ((q.1.2.1.2 i).1), .int .i64 ((q.1.2.1.2 i).2.1)]))], .p (.int .i64 ((l.2 k).1)), .p (.int .i64 ((l.2 k).2.1))] [(0, ⟨false, 2, v.2.1.1, (fun i => [.p (.int .i64 ((v.2.1.2 i).1)), .p (.int .i64 ((v.2.1.2 i).2.1))])⟩)] (.tup [.agg [.p (.int .i64 v.1), .ar 2 0 0 v.2.1.1], .p (.bool b1)]),
  ((0 : Nat) < 1),
  ((true = true) → ((1 : Nat) = 1)),
  ((0 : Nat) < 1),
  ((0 : Nat) < 1),
  ((0 : Nat) < 1),
  ((true = true) → ((1 : Nat) = 1)),
  ((b1 = true) → ((0 : Nat) < 1)),
  ((b1 = true) → (b1 = true)),
  ((b1 = true) → ((2 : Nat) = 2)),
  ((b1 = true) → ((v.2.1.1 : Nat) ≤ v.2.1.1)),
  ((b1 = true) → Con Try.prog 52 0 [] [.agg [.p (.int .i64 v.1), .p (.seq true 2 v.2.1.1 (fun i => [.int .i64 ((v.2.1.2 i).1), .int .i64 ((v.2.1.2 i).2.1)])), .p (.seq true 1 q.2.1.1 (fun i => [.int .i64 (q.2.1.2 i)]))]] [] (.p (.bool b2))),
  ((b1 = true) → (b1 = true)),
  (((bif b1 then b2 else false) = true) → ((0 : Nat) < 1)),
  (((bif b1 then b2 else false) = true) → ((bif b1 then b2 else false) = true)),
  (((bif b1 then b2 else false) = true) → ((2 : Nat) = 2)),
  (((bif b1 then b2 else false) = true) → ((v.2.1.1 : Nat) ≤ v.2.1.1)),
  (((bif b1 then b2 else false) = true) → Con Try.prog 103 0 [] [.agg [.p (.int .i64 v.1), .p (.seq true 2 v.2.1.1 (fun i => [.int .i64 ((v.2.1.2 i).1), .int .i64 ((v.2.1.2 i).2.1)])), .p (.seq true 1 q.2.1.1 (fun i => [.int .i64 (q.2.1.2 i)]))]] [] (.p (.int .i64 r2))),
  (((bif b1 then b2 else false) = true) → ((0 : Nat) < 1)),
  (((bif b1 then b2 else false) = true) → ((bif b1 then b2 else false) = true)),
  (((bif b1 then b2 else false) = true) → Con Try.prog 103 0 [] [.agg [.p (.int .i64 q.1.1), .p (.seq true 2 q.1.2.1.1 (fun i => [.int .i64 ((q.1.2.1.2 i).1), .int .i64 ((q.1.2.1.2 i).2.1)])), .p (.seq true 1 q.2.1.1 (fun i => [.int .i64 (q.2.1.2 i)]))]] [] (.p (.int .i64 r1))),
  (((bif b1 then b2 else false) = true) → ((bif b1 then b2 else false) = true)),
  (((bif b1 then b2 else false) = true) → (((-9223372036854775808) : Int) ≤ (r1 + 1))),
  (((bif b1 then b2 else false) = true) → (((r1 + 1) : Int) ≤ 9223372036854775807)),
  (((bif b1 then b2 else false) = true) → ((bif b1 then b2 else false) = true)),
  (((bif b1 then b2 else false) = true) → ((bif b1 then b2 else false) = true)),
  (((bif b1 then b2 else false) = true) → ((bif b1 then b2 else false) = true)),
  ((bif bif b1 then b2 else false then r2 == r1 + 1 else false) = true),
  ((0 : Nat) < 1),
  ((1 : Nat) ≤ 1),
  ((n : Nat) ≤ n),
  ((((n + 1) * 16) : Nat) ≤ 140737488355328),
  (((n + 1) : Nat) ≤ 9223372036854775807),
  ((0 : Nat) < 1),
  ((0 : Nat) < 1),
  ((true = true) → ((1 : Nat) = 1)),
  (((-9223372036854775808) : Int) ≤ ((↑k : Int) + 1)),
  ((((↑k : Int) + 1) : Int) ≤ 9223372036854775807),
  ((0 : Nat) = 0),
  ((0 : Nat) = 0),
  ((0 : Nat) = 0),
  (((n + 1) : Nat) = (n + 1)),
  ((l.1 : Nat) = l.1),
  (∀ i : Nat, (((i : Nat) < l.1) → (([.int .i64 ((l.2 i).1), .int .i64 ((l.2 i).2.1)] : List PV) = [.int .i64 ((l.2 i).1), .int .i64 ((l.2 i).2.1)]))),
  (((↑l.1 : Int) : Int) = (↑l.1 : Int)),
  ((((↑k : Int) + 1) : Int) = (↑(k + 1) : Int)),
  ((3 : Nat) = 3),
  ((1 : Nat) ≤ 1),
  ((1 : Nat) ≤ 1),
  ((2 : Nat) = 2),
  ((v.2.1.1 : Nat) ≤ v.2.1.1),
  ((v.1 : Int) = v.1),
  ((v.2.1.1 : Nat) = v.2.1.1),
  (∀ i : Nat, (((i : Nat) < v.2.1.1) → (([.int .i64 ((v.2.1.2 i).1), .int .i64 ((v.2.1.2 i).2.1)] : List PV) = [.int .i64 ((v.2.1.2 i).1), .int .i64 ((v.2.1.2 i).2.1)]))),
  ((q.2.1.1 : Nat) = q.2.1.1),
  (∀ i : Nat, (((i : Nat) < q.2.1.1) → (([.int .i64 (q.2.1.2 i)] : List PV) = [.int .i64 (q.2.1.2 i)]))),
  ((3 : Nat) = 3),
  ((1 : Nat) ≤ 1),
  ((1 : Nat) ≤ 1),
  ((0 : Int) = 0),
  ((2 : Nat) = 2),
  (((n + 1) : Nat) ≤ (n + 1)),
  (∀ i : Nat, (((i : Nat) < (n + 1)) → (All (cvtL false [(0, ⟨true, 3, 1, (fun i_1 => [.p (.int .i64 v.1), .ar 2 355 0 v.2.1.1, .p (.seq false 1 q.2.1.1 (fun i_2 => [.int .i64 (q.2.1.2 i_2)]))])⟩), (1283, ⟨false, 2, (n + 1), (fun i_1 => (if (i_1 < n) then [.p (.int .i64 ((h i_1).1)), .p (.int .i64 ((h i_1).2.1))] else [.p (.int .i64 ((l.2 k).1)), .p (.int .i64 ((l.2 k).2.1))]))⟩), (1251, ⟨false, 2, 1, (fun i_1 => [.p (.int .i64 ((l.2 k).1)), .p (.int .i64 ((l.2 k).2.1))])⟩), (707, ⟨true, 3, 1, (fun i_1 => [.p (.int .i64 v.1), .ar 2 355 0 v.2.1.1, .p (.seq false 1 q.2.1.1 (fun i_2 => [.int .i64 (q.2.1.2 i_2)]))])⟩), (483, ⟨true, 2, 1, (fun i_1 => [.p (.int .i64 v.1), .ar 2 355 0 v.2.1.1])⟩), (355, ⟨false, 2, v.2.1.1, (fun i_1 => [.p (.int .i64 ((v.2.1.2 i_1).1)), .p (.int .i64 ((v.2.1.2 i_1).2.1))])⟩), (99, ⟨true, 2, 1, (fun i_1 => [.p (.int .i64 ((l.2 k).1)), .p (.int .i64 ((l.2 k).2.1))])⟩), (1, ⟨true, 3, 1, (fun i_1 => [.p (.int .i64 0), .p (.nil), .p (.nil)])⟩)] [0, 1, 1283] 1 (if (i < n) then [.p (.int .i64 ((h i).1)), .p (.int .i64 ((h i).2.1))] else [.p (.int .i64 ((l.2 k).1)), .p (.int .i64 ((l.2 k).2.1))])).2 ∧ (((cvtL false [(0, ⟨true, 3, 1, (fun i_1 => [.p (.int .i64 v.1), .ar 2 355 0 v.2.1.1, .p (.seq false 1 q.2.1.1 (fun i_2 => [.int .i64 (q.2.1.2 i_2)]))])⟩), (1283, ⟨false, 2, (n + 1), (fun i_1 => (if (i_1 < n) then [.p (.int .i64 ((h i_1).1)), .p (.int .i64 ((h i_1).2.1))] else [.p (.int .i64 ((l.2 k).1)), .p (.int .i64 ((l.2 k).2.1))]))⟩), (1251, ⟨false, 2, 1, (fun i_1 => [.p (.int .i64 ((l.2 k).1)), .p (.int .i64 ((l.2 k).2.1))])⟩), (707, ⟨true, 3, 1, (fun i_1 => [.p (.int .i64 v.1), .ar 2 355 0 v.2.1.1, .p (.seq false 1 q.2.1.1 (fun i_2 => [.int .i64 (q.2.1.2 i_2)]))])⟩), (483, ⟨true, 2, 1, (fun i_1 => [.p (.int .i64 v.1), .ar 2 355 0 v.2.1.1])⟩), (355, ⟨false, 2, v.2.1.1, (fun i_1 => [.p (.int .i64 ((v.2.1.2 i_1).1)), .p (.int .i64 ((v.2.1.2 i_1).2.1))])⟩), (99, ⟨true, 2, 1, (fun i_1 => [.p (.int .i64 ((l.2 k).1)), .p (.int .i64 ((l.2 k).2.1))])⟩), (1, ⟨true, 3, 1, (fun i_1 => [.p (.int .i64 0), .p (.nil), .p (.nil)])⟩)] [0, 1, 1283] 1 (if (i < n) then [.p (.int .i64 ((h i).1)), .p (.int .i64 ((h i).2.1))] else [.p (.int .i64 ((l.2 k).1)), .p (.int .i64 ((l.2 k).2.1))])).1 : List AV) = [.p (.int .i64 (if i < n then (h i).1 else (l.2 k).1)), .p (.int .i64 (if i < n then (h i).2.1 else (l.2 k).2.1))]))))]) := by kernel_rfl
theorem dAf (q : T_Pinned) (l : T_BarS) (k n : Nat) (h : Nat → T_Bar) (v : T_Graph) (b1 b2 : Bool) (r1 r2 : Int) :
    pieceOb Try.prog 0 [.reg [oT], .dec true, .reg [oT, oT, oT, oT], .reg [oT, oT, oT, oT, oT, oT, ⟨true, (some ⟨[], [], 1, [(0, brOb v.2.1.1 v.2.1.2)], .tup [.agg [.p (.int .i64 v.1), .ar 2 0 0 v.2.1.1], .p (.bool b1)]⟩), none⟩, oT, oT, oT, oT, oT, oT], .reg [oT, oT, oT, oT, oT, oT], .reg [oT, oT, oT, ⟨true, (some ⟨[], [], 1, [], .p (.bool b2)⟩), none⟩, oT, oT, oT, ⟨true, (some ⟨[], [], 1, [], .p (.int .i64 r2)⟩), none⟩, oT, ⟨true, (some ⟨[], [], 1, [], .p (.int .i64 r1)⟩), none⟩, oT, oT, oT], .dec false, .reg [oT, oT], .head] [.code (cAt (bodyOf Try.f70) [1, 1, 0, 1, 0, 0]), .inLoop (cAt (bodyOf Try.f70) [1, 1, 0, 1, 0, 0]), .inBlock 0, .code (cAt (bodyOf Try.f70) [1, 1, 1])] (SAd q l k n h) [0, 1, 2] 1 (SAd q l (k + 1) n h) =
    some ([.code (cAt (bodyOf Try.f70) [1, 1, 0, 1, 0, 0]), .inLoop (cAt (bodyOf Try.f70) [1, 1, 0, 1, 0, 0]), .inBlock 0, .code (cAt (bodyOf Try.f70) [1, 1, 1])], [((decide ((↑k : Int) < (↑l.1 : Int))) = true),
  ((0 : Int) ≤ (↑k : Int)),
  (((↑k : Int) : Int) < (↑l.1 : Int)),
  ((0 : Nat) < 1),
  ((true = true) → ((1 : Nat) = 1)),
  ((0 : Nat) < 1),
  ((0 : Nat) < 1),
  ((0 : Nat) < 1),
  Con Try.prog 63 0 [] [.agg [.p (.int .i64 q.1.1), .p (.seq true 2 q.1.2.1.1 (fun i => [.int .i64 ((q.1.2.1.2 i).1), .int .i64 ((q.1.2.1.2 i).2.1)]))], .p (.int .i64 ((l.2 k).1)), .p (.int .i64 ((l.2 k).2.1))] [(0, ⟨false, 2, v.2.1.1, (fun i => [.p (.int .i64 ((v.2.1.2 i).1)), .p (.int .i64 ((v.2.1.2 i).2.1))])⟩)] (.tup [.agg [.p (.int .i64 v.1), .ar 2 0 0 v.2.1.1], .p (.bool b1)]),
  ((0 : Nat) < 1),
  ((true = true) → ((1 : Nat) = 1)),
  ((0 : Nat) < 1),
  ((0 : Nat) < 1),
  ((0 : Nat) < 1),
  ((true = true) → ((1 : Nat) = 1)),
  ((b1 = true) → ((0 : Nat) < 1)),
  ((b1 = true) → (b1 = true)),
  ((b1 = true) → ((2 : Nat) = 2)),
  ((b1 = true) → ((v.2.1.1 : Nat) ≤ v.2.1.1)),
  ((b1 = true) → Con Try.prog 52 0 [] [.agg [.p (.int .i64 v.1), .p (.seq true 2 v.2.1.1 (fun i => [.int .i64 ((v.2.1.2 i).1), .int .i64 ((v.2.1.2 i).2.1)])), .p (.seq true 1 q.2.1.1 (fun i => [.int .i64 (q.2.1.2 i)]))]] [] (.p (.bool b2))),
  ((b1 = true) → (b1 = true)),
  (((bif b1 then b2 else false) = true) → ((0 : Nat) < 1)),
  (((bif b1 then b2 else false) = true) → ((bif b1 then b2 else false) = true)),
  (((bif b1 then b2 else false) = true) → ((2 : Nat) = 2)),
  (((bif b1 then b2 else false) = true) → ((v.2.1.1 : Nat) ≤ v.2.1.1)),
  (((bif b1 then b2 else false) = true) → Con Try.prog 103 0 [] [.agg [.p (.int .i64 v.1), .p (.seq true 2 v.2.1.1 (fun i => [.int .i64 ((v.2.1.2 i).1), .int .i64 ((v.2.1.2 i).2.1)])), .p (.seq true 1 q.2.1.1 (fun i => [.int .i64 (q.2.1.2 i)]))]] [] (.p (.int .i64 r2))),
  (((bif b1 then b2 else false) = true) → ((0 : Nat) < 1)),
  (((bif b1 then b2 else false) = true) → ((bif b1 then b2 else false) = true)),
  (((bif b1 then b2 else false) = true) → Con Try.prog 103 0 [] [.agg [.p (.int .i64 q.1.1), .p (.seq true 2 q.1.2.1.1 (fun i => [.int .i64 ((q.1.2.1.2 i).1), .int .i64 ((q.1.2.1.2 i).2.1)])), .p (.seq true 1 q.2.1.1 (fun i => [.int .i64 (q.2.1.2 i)]))]] [] (.p (.int .i64 r1))),
  (((bif b1 then b2 else false) = true) → ((bif b1 then b2 else false) = true)),
  (((bif b1 then b2 else false) = true) → (((-9223372036854775808) : Int) ≤ (r1 + 1))),
  (((bif b1 then b2 else false) = true) → (((r1 + 1) : Int) ≤ 9223372036854775807)),
  (((bif b1 then b2 else false) = true) → ((bif b1 then b2 else false) = true)),
  (((bif b1 then b2 else false) = true) → ((bif b1 then b2 else false) = true)),
  (((bif b1 then b2 else false) = true) → ((bif b1 then b2 else false) = true)),
  ((bif bif b1 then b2 else false then r2 == r1 + 1 else false) = false),
  (((-9223372036854775808) : Int) ≤ ((↑k : Int) + 1)),
  ((((↑k : Int) + 1) : Int) ≤ 9223372036854775807),
  ((0 : Nat) = 0),
  ((0 : Nat) = 0),
  ((0 : Nat) = 0),
  ((n : Nat) = n),
  ((l.1 : Nat) = l.1),
  (∀ i : Nat, (((i : Nat) < l.1) → (([.int .i64 ((l.2 i).1), .int .i64 ((l.2 i).2.1)] : List PV) = [.int .i64 ((l.2 i).1), .int .i64 ((l.2 i).2.1)]))),
  (((↑l.1 : Int) : Int) = (↑l.1 : Int)),
  ((((↑k : Int) + 1) : Int) = (↑(k + 1) : Int)),
  ((3 : Nat) = 3),
  ((1 : Nat) ≤ 1),
  ((1 : Nat) ≤ 1),
  ((q.1.1 : Int) = q.1.1),
  ((q.1.2.1.1 : Nat) = q.1.2.1.1),
  (∀ i : Nat, (((i : Nat) < q.1.2.1.1) → (([.int .i64 ((q.1.2.1.2 i).1), .int .i64 ((q.1.2.1.2 i).2.1)] : List PV) = [.int .i64 ((q.1.2.1.2 i).1), .int .i64 ((q.1.2.1.2 i).2.1)]))),
  ((q.2.1.1 : Nat) = q.2.1.1),
  (∀ i : Nat, (((i : Nat) < q.2.1.1) → (([.int .i64 (q.2.1.2 i)] : List PV) = [.int .i64 (q.2.1.2 i)]))),
  ((3 : Nat) = 3),
  ((1 : Nat) ≤ 1),
  ((1 : Nat) ≤ 1),
  ((0 : Int) = 0),
  ((2 : Nat) = 2),
  ((n : Nat) ≤ n),
  (∀ i : Nat, (((i : Nat) < n) → (All [] ∧ (([.p (.int .i64 ((h i).1)), .p (.int .i64 ((h i).2.1))] : List AV) = [.p (.int .i64 ((h i).1)), .p (.int .i64 ((h i).2.1))]))))]) := by kernel_rfl
theorem dAe (q : T_Pinned) (l : T_BarS) (k n : Nat) (h : Nat → T_Bar) :
    pathOb Try.prog Try.f70 0 [.reg [oT], .dec false, .reg [oT, oT, oT, oT]] [.code (cAt (bodyOf Try.f70) [1, 1, 0, 1, 0, 0]), .inLoop (cAt (bodyOf Try.f70) [1, 1, 0, 1, 0, 0]), .inBlock 0, .code (cAt (bodyOf Try.f70) [1, 1, 1])] (SAd q l k n h) [2] 1 [(0, brOb n h)] (.tup [pinF q, .ar 2 0 0 n]) =
    some [((decide ((↑k : Int) < (↑l.1 : Int))) = false),
  ((0 : Nat) < 1),
  ((0 : Nat) < 1),
  ((true = true) → ((1 : Nat) = 1)),
  ((0 : Nat) < 1),
  ((q.1.1 : Int) = q.1.1),
  ((q.1.2.1.1 : Nat) = q.1.2.1.1),
  (∀ i : Nat, (((i : Nat) < q.1.2.1.1) → (([.int .i64 ((q.1.2.1.2 i).1), .int .i64 ((q.1.2.1.2 i).2.1)] : List PV) = [.int .i64 ((q.1.2.1.2 i).1), .int .i64 ((q.1.2.1.2 i).2.1)]))),
  ((q.2.1.1 : Nat) = q.2.1.1),
  (∀ i : Nat, (((i : Nat) < q.2.1.1) → (([.int .i64 (q.2.1.2 i)] : List PV) = [.int .i64 (q.2.1.2 i)]))),
  ((0 : Nat) = 0),
  ((n : Nat) = n),
  ((2 : Nat) = 2),
  ((n : Nat) ≤ n),
  (∀ i : Nat, (((i : Nat) < n) → (All [] ∧ (([.p (.int .i64 ((h i).1)), .p (.int .i64 ((h i).2.1))] : List AV) = [.p (.int .i64 ((h i).1)), .p (.int .i64 ((h i).2.1))])))),
  (false = false),
  (∀ i : Nat, (((i : Nat) < q.1.2.1.1) → All [])),
  (false = false),
  (∀ i : Nat, (((i : Nat) < q.2.1.1) → All [])),
  (∀ i : Nat, (((i : Nat) < n) → All []))] := by kernel_rfl
def cbN (g : Nat → T_Bar) (a b : Int) : Nat → Nat
  | 0 => 0
  | k + 1 => if hitB (g k) a b = true then cbN g a b k + 1 else cbN g a b k
theorem cbN_le (g : Nat → T_Bar) (a b : Int) : ∀ k, cbN g a b k ≤ k
  | 0 => Nat.le_refl _
  | k + 1 => by
    have := cbN_le g a b k
    simp only [cbN]
    split <;> omega
theorem con_CountBar_s (v : T_Graph) (hs : smS s_Graph v) (a b : Int) : Con Try.prog 110 0 [] [graphA v, .p (.int .i64 a), .p (.int .i64 b)] [] (.p (.int .i64 (cbN v.2.1.2 a b v.2.1.1))) := by
  have hn : v.2.1.1 ≤ 1048576 := hs.2.1.1
  refine con_start Try.func110 rfl (by kernel_rfl) rfl (fun c hc => ?_)
  have lo : ∀ d k, k + d = v.2.1.1 → Run Try.prog c 110 [.code (cAt (bodyOf Try.f110) [1, 1, 0, 1, 0, 0]), .inLoop (cAt (bodyOf Try.f110) [1, 1, 0, 1, 0, 0]), .inBlock 0, .code (cAt (bodyOf Try.f110) [1, 1, 1])] (SOs v a b k (cbN v.2.1.2 a b k)) (Post c [] (.p (.int .i64 (cbN v.2.1.2 a b v.2.1.1)))) := by
    intro d
    induction d with
    | zero =>
      intro k hk
      obtain rfl : k = v.2.1.1 := by omega
      have hd : decide ((v.2.1.1 : Int) < (v.2.1.1 : Int)) = false := by simp
      refine path_ok mixed Try.func110 hc (oSe v a b v.2.1.1 _) ?_
      simp only [All]
      repeat' (first | exact trivial | with_reducible apply And.intro)
      all_goals (first | omega | rfl | (intros; first | assumption | exact True.intro | rfl | exact absurd (show false = true by assumption) Bool.false_ne_true | ((repeat' (first | assumption | apply anda | apply notf)); done)) | (exact hd))
    | succ d ih =>
      intro k hk
      have hd : decide ((k : Int) < (v.2.1.1 : Int)) = true := decide_eq_true (by omega)
      have hrec := ih (k + 1) (by omega)
      have hl := cbN_le v.2.1.2 a b k
      cases hh : hitB (v.2.1.2 k) a b with
      | true =>
        rw [show cbN v.2.1.2 a b (k + 1) = cbN v.2.1.2 a b k + 1 by simp [cbN, hh]] at hrec
        refine piece_ok mixed hc (oSt v a b k _) ?_ hrec
        simp only [All]
        repeat' (first | exact trivial | with_reducible apply And.intro)
        all_goals (first | omega | rfl | (intros; first | assumption | exact True.intro | rfl | exact absurd (show false = true by assumption) Bool.false_ne_true | ((repeat' (first | assumption | apply anda | apply notf)); done)) | (exact hd) | (exact hh) | (simp; omega))
      | false =>
        rw [show cbN v.2.1.2 a b (k + 1) = cbN v.2.1.2 a b k by simp [cbN, hh]] at hrec
        refine piece_ok mixed hc (oSf v a b k _) ?_ hrec
        simp only [All]
        repeat' (first | exact trivial | with_reducible apply And.intro)
        all_goals (first | omega | rfl | (intros; first | assumption | exact True.intro | rfl | exact absurd (show false = true by assumption) Bool.false_ne_true | ((repeat' (first | assumption | apply anda | apply notf)); done)) | (exact hd) | (exact hh) | (simp; omega))
  refine piece_ok mixed hc (oSz v a b) ?_ (lo v.2.1.1 0 (by omega))
  simp only [All]
  repeat' (first | exact trivial | with_reducible apply And.intro)
  all_goals (first | omega | rfl | (intros; first | assumption | exact True.intro | rfl | exact absurd (show false = true by assumption) Bool.false_ne_true | ((repeat' (first | assumption | apply anda | apply notf)); done)) | (simp; omega))
theorem con_CountBar_i (v : T_Graph) (hs : smS s_Graph v) (a b : Int) : Con Try.prog 111 0 [] [graphA v, .p (.int .i64 a), .p (.int .i64 b)] [] (.p (.int .i64 (cbN v.2.1.2 a b v.2.1.1))) := by
  have hn : v.2.1.1 ≤ 1048576 := hs.2.1.1
  refine con_start Try.func111 rfl (by kernel_rfl) rfl (fun c hc => ?_)
  have lo : ∀ d k, k + d = v.2.1.1 → Run Try.prog c 111 [.code (cAt (bodyOf Try.f111) [1, 1, 0, 1, 0, 0]), .inLoop (cAt (bodyOf Try.f111) [1, 1, 0, 1, 0, 0]), .inBlock 0, .code (cAt (bodyOf Try.f111) [1, 1, 1])] (SOi v a b k (cbN v.2.1.2 a b k)) (Post c [] (.p (.int .i64 (cbN v.2.1.2 a b v.2.1.1)))) := by
    intro d
    induction d with
    | zero =>
      intro k hk
      obtain rfl : k = v.2.1.1 := by omega
      have hd : decide ((v.2.1.1 : Int) < (v.2.1.1 : Int)) = false := by simp
      refine path_ok mixed Try.func111 hc (oIe v a b v.2.1.1 _) ?_
      simp only [All]
      repeat' (first | exact trivial | with_reducible apply And.intro)
      all_goals (first | omega | rfl | (intros; first | assumption | exact True.intro | rfl | exact absurd (show false = true by assumption) Bool.false_ne_true | ((repeat' (first | assumption | apply anda | apply notf)); done)) | (exact hd))
    | succ d ih =>
      intro k hk
      have hd : decide ((k : Int) < (v.2.1.1 : Int)) = true := decide_eq_true (by omega)
      have hrec := ih (k + 1) (by omega)
      have hl := cbN_le v.2.1.2 a b k
      cases hh : hitB (v.2.1.2 k) a b with
      | true =>
        rw [show cbN v.2.1.2 a b (k + 1) = cbN v.2.1.2 a b k + 1 by simp [cbN, hh]] at hrec
        refine piece_ok mixed hc (oIt v a b k _) ?_ hrec
        simp only [All]
        repeat' (first | exact trivial | with_reducible apply And.intro)
        all_goals (first | omega | rfl | (intros; first | assumption | exact True.intro | rfl | exact absurd (show false = true by assumption) Bool.false_ne_true | ((repeat' (first | assumption | apply anda | apply notf)); done)) | (exact hd) | (exact hh) | (simp; omega))
      | false =>
        rw [show cbN v.2.1.2 a b (k + 1) = cbN v.2.1.2 a b k by simp [cbN, hh]] at hrec
        refine piece_ok mixed hc (oIf v a b k _) ?_ hrec
        simp only [All]
        repeat' (first | exact trivial | with_reducible apply And.intro)
        all_goals (first | omega | rfl | (intros; first | assumption | exact True.intro | rfl | exact absurd (show false = true by assumption) Bool.false_ne_true | ((repeat' (first | assumption | apply anda | apply notf)); done)) | (exact hd) | (exact hh) | (simp; omega))
  refine piece_ok mixed hc (oIz v a b) ?_ (lo v.2.1.1 0 (by omega))
  simp only [All]
  repeat' (first | exact trivial | with_reducible apply And.intro)
  all_goals (first | omega | rfl | (intros; first | assumption | exact True.intro | rfl | exact absurd (show false = true by assumption) Bool.false_ne_true | ((repeat' (first | assumption | apply anda | apply notf)); done)) | (simp; omega))
def msI (v : T_Graph) (a : Nat) (r : NB) : Nat → NB
  | 0 => r
  | j + 1 => if cbN v.2.1.2 a ((a + 1 + j : Nat) : Int) v.2.1.1 = 0 then sn (msI v a r j) (a, ((a + 1 + j : Nat) : Int), ()) else msI v a r j
def msO (v : T_Graph) : Nat → NB
  | 0 => zNB
  | a + 1 => msI v a (msO v a) (v.1.toNat - (a + 1))
def msP (v : T_Graph) : NB := if isGraphF v = true then msO v v.1.toNat else zNB
theorem msI_n (v : T_Graph) (a : Nat) (r : NB) : ∀ j, (msI v a r j).1 ≤ r.1 + j
  | 0 => Nat.le_refl _
  | j + 1 => by
    have := msI_n v a r j
    simp only [msI]
    split
    · simp only [sn]; omega
    · omega
theorem msO_n (v : T_Graph) (h : v.1.toNat ≤ 8) : ∀ a, (msO v a).1 ≤ 8 * a
  | 0 => Nat.le_refl _
  | a + 1 => by
    have := msO_n v h a
    have := msI_n v a (msO v a) (v.1.toNat - (a + 1))
    simp only [msO]
    omega
theorem msP_n (v : T_Graph) : (msP v).1 ≤ 64 := by
  unfold msP
  split
  · rename_i h
    have hg := graph_inR h
    have := msO_n v (by omega) v.1.toNat
    omega
  · exact Nat.zero_le _
theorem con_Missing_s (v : T_Graph) (hs : smS s_Graph v) : Con Try.prog 71 0 [] [graphA v] [(0, brOb (msP v).1 (msP v).2)] (.ar 2 0 0 (msP v).1) := by
  have c1 := con_IsGraph_s v hs
  refine con_start Try.func71 rfl (by kernel_rfl) rfl (fun c hc => ?_)
  cases hp : isGraphF v with
  | false =>
    rw [hp] at c1
    rw [show msP v = zNB by simp [msP, hp]]
    have hd : (bif decide (((0 : Nat) : Int) < v.1) then false else false) = false := by cases decide (((0 : Nat) : Int) < v.1) <;> rfl
    have he : Run Try.prog c 71 [.code (cAt (bodyOf Try.f71) [1, 1, 0, 1, 0, 0]), .inLoop (cAt (bodyOf Try.f71) [1, 1, 0, 1, 0, 0]), .inBlock 0, .code (cAt (bodyOf Try.f71) [1, 1, 1])] (SMso v 0 0 (fun _ => (0, 0, ()))) (Post c [(0, brOb zNB.1 zNB.2)] (.ar 2 0 0 zNB.1)) := by
      refine path_ok mixed Try.func71 hc (mSe v 0 0 (fun _ => (0, 0, ())) false) ?_
      simp only [All]
      repeat' (first | exact trivial | with_reducible apply And.intro)
      all_goals (first | omega | rfl | (intros; first | assumption | exact True.intro | rfl | exact absurd (show false = true by assumption) Bool.false_ne_true | ((repeat' (first | assumption | apply anda | apply notf)); done)) | (intros; exact c1) | (exact hd) | (intro t ht; exact absurd ht (Nat.not_lt_zero _)) | (intro t ht; simp [All]))
    refine piece_ok mixed hc (mSz v) ?_ he
    simp only [All]
    repeat' (first | exact trivial | with_reducible apply And.intro)
    all_goals (first | omega | rfl | (intros; first | assumption | exact True.intro | rfl | exact absurd (show false = true by assumption) Bool.false_ne_true | ((repeat' (first | assumption | apply anda | apply notf)); done)) | (intro t ht; exact absurd ht (Nat.not_lt_zero _)) | (intro t ht; simp [All]))
  | true =>
    have hg := graph_inR hp
    rw [hp] at c1
    rw [show msP v = msO v v.1.toNat by simp [msP, hp]]
    generalize hR : msO v v.1.toNat = R
    have li : ∀ a, a < v.1.toNat → (Run Try.prog c 71 [.code (cAt (bodyOf Try.f71) [1, 1, 0, 1, 0, 0]), .inLoop (cAt (bodyOf Try.f71) [1, 1, 0, 1, 0, 0]), .inBlock 0, .code (cAt (bodyOf Try.f71) [1, 1, 1])] (SMso v (a + 1) (msO v (a + 1)).1 (msO v (a + 1)).2) (Post c [(0, brOb R.1 R.2)] (.ar 2 0 0 R.1))) →
        ∀ d j, j + d = v.1.toNat - (a + 1) → Run Try.prog c 71 [.code (cAt (bodyOf Try.f71) [1, 1, 0, 1, 0, 0, 1, 0, 0, 1, 0, 0]), .inLoop (cAt (bodyOf Try.f71) [1, 1, 0, 1, 0, 0, 1, 0, 0, 1, 0, 0]), .inBlock 2, .inBlock 1, .code (cAt (bodyOf Try.f71) [1, 1, 0, 1, 0, 0, 1, 1]), .inLoop (cAt (bodyOf Try.f71) [1, 1, 0, 1, 0, 0]), .inBlock 0, .code (cAt (bodyOf Try.f71) [1, 1, 1])] (SMsi v a (a + 1 + j) (msI v a (msO v a) j).1 (msI v a (msO v a) j).2) (Post c [(0, brOb R.1 R.2)] (.ar 2 0 0 R.1)) := by
      intro a ha hk d
      induction d with
      | zero =>
        intro j hj
        obtain rfl : j = v.1.toNat - (a + 1) := by omega
        have hd : decide (((a + 1 + (v.1.toNat - (a + 1)) : Nat) : Int) < v.1) = false := decide_eq_false (by omega)
        refine piece_ok mixed hc (mSx v a (a + 1 + (v.1.toNat - (a + 1))) _ _) ?_ hk
        simp only [All]
        repeat' (first | exact trivial | with_reducible apply And.intro)
        all_goals (first | omega | rfl | (intros; first | assumption | exact True.intro | rfl | exact absurd (show false = true by assumption) Bool.false_ne_true | ((repeat' (first | assumption | apply anda | apply notf)); done)) | (exact hd) | (intro t ht; simp [All]))
      | succ d ih =>
        intro j hj
        have hd : decide (((a + 1 + j : Nat) : Int) < v.1) = true := decide_eq_true (by omega)
        have hrec := ih (j + 1) (by omega)
        have hn := msI_n v a (msO v a) j
        have hn2 := msO_n v (by omega) a
        have cc := con_CountBar_s v hs a ((a + 1 + j : Nat) : Int)
        by_cases hh : cbN v.2.1.2 a ((a + 1 + j : Nat) : Int) v.2.1.1 = 0
        · have hq : ((cbN v.2.1.2 a ((a + 1 + j : Nat) : Int) v.2.1.1 : Int) == 0) = true := by rw [hh]; rfl
          rw [show msI v a (msO v a) (j + 1) = sn (msI v a (msO v a) j) (a, ((a + 1 + j : Nat) : Int), ()) by simp only [msI, hh, if_true]] at hrec
          generalize msI v a (msO v a) j = q at hn hrec ⊢
          refine piece_ok mixed hc (mSt v a (a + 1 + j) q.1 (cbN v.2.1.2 a ((a + 1 + j : Nat) : Int) v.2.1.1) q.2) ?_ hrec
          simp only [All]
          repeat' (first | exact trivial | with_reducible apply And.intro)
          all_goals (first | omega | rfl | (intros; first | assumption | exact True.intro | rfl | exact absurd (show false = true by assumption) Bool.false_ne_true | ((repeat' (first | assumption | apply anda | apply notf)); done)) | (exact hd) | (exact cc) | (exact hq) | (intro t ht; by_cases h' : t < q.1 <;> simp [h', snoc, cvtL, cvt, tg, tru, All]) | (simp; omega))
        · have hq : ((cbN v.2.1.2 a ((a + 1 + j : Nat) : Int) v.2.1.1 : Int) == 0) = false := beq_eq_false_iff_ne.2 (fun h => hh (Int.ofNat_eq_zero.1 h))
          rw [show msI v a (msO v a) (j + 1) = msI v a (msO v a) j by simp only [msI, hh, if_false]] at hrec
          generalize msI v a (msO v a) j = q at hn hrec ⊢
          refine piece_ok mixed hc (mSf v a (a + 1 + j) q.1 (cbN v.2.1.2 a ((a + 1 + j : Nat) : Int) v.2.1.1) q.2) ?_ hrec
          simp only [All]
          repeat' (first | exact trivial | with_reducible apply And.intro)
          all_goals (first | omega | rfl | (intros; first | assumption | exact True.intro | rfl | exact absurd (show false = true by assumption) Bool.false_ne_true | ((repeat' (first | assumption | apply anda | apply notf)); done)) | (exact hd) | (exact cc) | (exact hq) | (intro t ht; simp [All]) | (simp; omega))
    have lo : ∀ d a, a + d = v.1.toNat → Run Try.prog c 71 [.code (cAt (bodyOf Try.f71) [1, 1, 0, 1, 0, 0]), .inLoop (cAt (bodyOf Try.f71) [1, 1, 0, 1, 0, 0]), .inBlock 0, .code (cAt (bodyOf Try.f71) [1, 1, 1])] (SMso v a (msO v a).1 (msO v a).2) (Post c [(0, brOb R.1 R.2)] (.ar 2 0 0 R.1)) := by
      intro d
      induction d with
      | zero =>
        intro a ha
        obtain rfl : a = v.1.toNat := by omega
        have hd : (bif decide (((v.1.toNat : Nat) : Int) < v.1) then true else false) = false := by
          rw [show decide (((v.1.toNat : Nat) : Int) < v.1) = false from decide_eq_false (by omega)]; rfl
        rw [hR]
        refine path_ok mixed Try.func71 hc (mSe v v.1.toNat R.1 R.2 true) ?_
        simp only [All]
        repeat' (first | exact trivial | with_reducible apply And.intro)
        all_goals (first | omega | rfl | (intros; first | assumption | exact True.intro | rfl | exact absurd (show false = true by assumption) Bool.false_ne_true | ((repeat' (first | assumption | apply anda | apply notf)); done)) | (exact hd) | (intros; exact c1) | (intro t ht; simp [All]))
      | succ d ih =>
        intro a ha
        have hd : (bif decide ((a : Int) < v.1) then true else false) = true := by
          rw [show decide ((a : Int) < v.1) = true from decide_eq_true (by omega)]; rfl
        refine piece_ok mixed hc (mSo v a _ _ true) ?_ (li a (by omega) (ih (a + 1) (by omega)) (v.1.toNat - (a + 1)) 0 (by omega))
        simp only [All]
        repeat' (first | exact trivial | with_reducible apply And.intro)
        all_goals (first | omega | rfl | (intros; first | assumption | exact True.intro | rfl | exact absurd (show false = true by assumption) Bool.false_ne_true | ((repeat' (first | assumption | apply anda | apply notf)); done)) | (exact hd) | (intros; exact c1) | (intro t ht; simp [All]))
    refine piece_ok mixed hc (mSz v) ?_ (lo v.1.toNat 0 (by omega))
    simp only [All]
    repeat' (first | exact trivial | with_reducible apply And.intro)
    all_goals (first | omega | rfl | (intros; first | assumption | exact True.intro | rfl | exact absurd (show false = true by assumption) Bool.false_ne_true | ((repeat' (first | assumption | apply anda | apply notf)); done)) | (intro t ht; exact absurd ht (Nat.not_lt_zero _)) | (intro t ht; simp [All]))
theorem con_Missing_i (v : T_Graph) (hs : smS s_Graph v) : Con Try.prog 72 0 [] [graphA v] [(0, brOb (msP v).1 (msP v).2)] (.ar 2 0 0 (msP v).1) := by
  have c1 := con_IsGraph_i v hs
  refine con_start Try.func72 rfl (by kernel_rfl) rfl (fun c hc => ?_)
  cases hp : isGraphF v with
  | false =>
    rw [hp] at c1
    rw [show msP v = zNB by simp [msP, hp]]
    refine path_ok mixed Try.func72 hc (mIn v) ?_
    simp only [All]
    repeat' (first | exact trivial | with_reducible apply And.intro)
    all_goals (first | omega | rfl | (intros; first | assumption | exact True.intro | rfl | exact absurd (show false = true by assumption) Bool.false_ne_true | ((repeat' (first | assumption | apply anda | apply notf)); done)) | (intros; exact c1) | (intro t ht; exact absurd ht (Nat.not_lt_zero _)) | (intro t ht; simp [All]))
  | true =>
    have hg := graph_inR hp
    rw [hp] at c1
    rw [show msP v = msO v v.1.toNat by simp [msP, hp]]
    generalize hR : msO v v.1.toNat = R
    have li : ∀ a, a < v.1.toNat → (Run Try.prog c 72 [.code (cAt (bodyOf Try.f72) [1, 1, 1, 0, 1, 0, 0]), .inLoop (cAt (bodyOf Try.f72) [1, 1, 1, 0, 1, 0, 0]), .inBlock 0, .code (cAt (bodyOf Try.f72) [1, 1, 1, 1])] (SMio v (a + 1) (msO v (a + 1)).1 (msO v (a + 1)).2) (Post c [(0, brOb R.1 R.2)] (.ar 2 0 0 R.1))) →
        ∀ d j, j + d = v.1.toNat - (a + 1) → Run Try.prog c 72 [.code (cAt (bodyOf Try.f72) [1, 1, 1, 0, 1, 0, 0, 1, 1, 0, 0, 1, 1, 0, 0]), .inLoop (cAt (bodyOf Try.f72) [1, 1, 1, 0, 1, 0, 0, 1, 1, 0, 0, 1, 1, 0, 0]), .inBlock 2, .inBlock 1, .code (cAt (bodyOf Try.f72) [1, 1, 1, 0, 1, 0, 0, 1, 1, 1]), .inLoop (cAt (bodyOf Try.f72) [1, 1, 1, 0, 1, 0, 0]), .inBlock 0, .code (cAt (bodyOf Try.f72) [1, 1, 1, 1])] (SMii v a (a + 1 + j) (msI v a (msO v a) j).1 (msI v a (msO v a) j).2) (Post c [(0, brOb R.1 R.2)] (.ar 2 0 0 R.1)) := by
      intro a ha hk d
      induction d with
      | zero =>
        intro j hj
        obtain rfl : j = v.1.toNat - (a + 1) := by omega
        have hd : decide (((a + 1 + (v.1.toNat - (a + 1)) : Nat) : Int) < v.1) = false := decide_eq_false (by omega)
        refine piece_ok mixed hc (mIx v a (a + 1 + (v.1.toNat - (a + 1))) _ _) ?_ hk
        simp only [All]
        repeat' (first | exact trivial | with_reducible apply And.intro)
        all_goals (first | omega | rfl | (intros; first | assumption | exact True.intro | rfl | exact absurd (show false = true by assumption) Bool.false_ne_true | ((repeat' (first | assumption | apply anda | apply notf)); done)) | (exact hd) | (intro t ht; simp [All]) | (simp; omega))
      | succ d ih =>
        intro j hj
        have hd : decide (((a + 1 + j : Nat) : Int) < v.1) = true := decide_eq_true (by omega)
        have hrec := ih (j + 1) (by omega)
        have hn := msI_n v a (msO v a) j
        have hn2 := msO_n v (by omega) a
        have cc := con_CountBar_i v hs a ((a + 1 + j : Nat) : Int)
        by_cases hh : cbN v.2.1.2 a ((a + 1 + j : Nat) : Int) v.2.1.1 = 0
        · have hq : ((cbN v.2.1.2 a ((a + 1 + j : Nat) : Int) v.2.1.1 : Int) == 0) = true := by rw [hh]; rfl
          rw [show msI v a (msO v a) (j + 1) = sn (msI v a (msO v a) j) (a, ((a + 1 + j : Nat) : Int), ()) by simp only [msI, hh, if_true]] at hrec
          generalize msI v a (msO v a) j = q at hn hrec ⊢
          refine piece_ok mixed hc (mIt v a (a + 1 + j) q.1 (cbN v.2.1.2 a ((a + 1 + j : Nat) : Int) v.2.1.1) q.2) ?_ hrec
          simp only [All]
          repeat' (first | exact trivial | with_reducible apply And.intro)
          all_goals (first | omega | rfl | (intros; first | assumption | exact True.intro | rfl | exact absurd (show false = true by assumption) Bool.false_ne_true | ((repeat' (first | assumption | apply anda | apply notf)); done)) | (exact hd) | (exact cc) | (exact hq) | (intro t ht; by_cases h' : t < q.1 <;> simp [h', snoc, cvtL, cvt, tg, tru, All]) | (simp; omega))
        · have hq : ((cbN v.2.1.2 a ((a + 1 + j : Nat) : Int) v.2.1.1 : Int) == 0) = false := beq_eq_false_iff_ne.2 (fun h => hh (Int.ofNat_eq_zero.1 h))
          rw [show msI v a (msO v a) (j + 1) = msI v a (msO v a) j by simp only [msI, hh, if_false]] at hrec
          generalize msI v a (msO v a) j = q at hn hrec ⊢
          refine piece_ok mixed hc (mIf v a (a + 1 + j) q.1 (cbN v.2.1.2 a ((a + 1 + j : Nat) : Int) v.2.1.1) q.2) ?_ hrec
          simp only [All]
          repeat' (first | exact trivial | with_reducible apply And.intro)
          all_goals (first | omega | rfl | (intros; first | assumption | exact True.intro | rfl | exact absurd (show false = true by assumption) Bool.false_ne_true | ((repeat' (first | assumption | apply anda | apply notf)); done)) | (exact hd) | (exact cc) | (exact hq) | (intro t ht; simp [All]) | (simp; omega))
    have lo : ∀ d a, a + d = v.1.toNat → Run Try.prog c 72 [.code (cAt (bodyOf Try.f72) [1, 1, 1, 0, 1, 0, 0]), .inLoop (cAt (bodyOf Try.f72) [1, 1, 1, 0, 1, 0, 0]), .inBlock 0, .code (cAt (bodyOf Try.f72) [1, 1, 1, 1])] (SMio v a (msO v a).1 (msO v a).2) (Post c [(0, brOb R.1 R.2)] (.ar 2 0 0 R.1)) := by
      intro d
      induction d with
      | zero =>
        intro a ha
        obtain rfl : a = v.1.toNat := by omega
        have hd : decide (((v.1.toNat : Nat) : Int) < v.1) = false := decide_eq_false (by omega)
        rw [hR]
        refine path_ok mixed Try.func72 hc (mIe v v.1.toNat R.1 R.2) ?_
        simp only [All]
        repeat' (first | exact trivial | with_reducible apply And.intro)
        all_goals (first | omega | rfl | (intros; first | assumption | exact True.intro | rfl | exact absurd (show false = true by assumption) Bool.false_ne_true | ((repeat' (first | assumption | apply anda | apply notf)); done)) | (exact hd) | (intros; exact c1) | (intro t ht; simp [All]))
      | succ d ih =>
        intro a ha
        have hd : decide ((a : Int) < v.1) = true := decide_eq_true (by omega)
        refine piece_ok mixed hc (mIo v a _ _) ?_ (li a (by omega) (ih (a + 1) (by omega)) (v.1.toNat - (a + 1)) 0 (by omega))
        simp only [All]
        repeat' (first | exact trivial | with_reducible apply And.intro)
        all_goals (first | omega | rfl | (intros; first | assumption | exact True.intro | rfl | exact absurd (show false = true by assumption) Bool.false_ne_true | ((repeat' (first | assumption | apply anda | apply notf)); done)) | (exact hd) | (intros; exact c1) | (intro t ht; simp [All]))
    refine piece_ok mixed hc (mIz v) ?_ (lo v.1.toNat 0 (by omega))
    simp only [All]
    repeat' (first | exact trivial | with_reducible apply And.intro)
    all_goals (first | omega | rfl | (intros; first | assumption | exact True.intro | rfl | exact absurd (show false = true by assumption) Bool.false_ne_true | ((repeat' (first | assumption | apply anda | apply notf)); done)) | (intros; exact c1) | (intro t ht; exact absurd ht (Nat.not_lt_zero _)) | (intro t ht; simp [All]))
def nxP (q : T_Pinned) (x : T_Bar) : T_Pinned := (abG q.1 x.1 x.2.1, q.2)
noncomputable def adT (q : T_Pinned) (x : T_Bar) : Bool := bif bif abB q.1 x.1 x.2.1 then pinnedF (nxP q x) else false then prG (nxP q x) == prG q + 1 else false
noncomputable def adD (p : T_Pinned) (s : Nat → T_Bar) : Nat → T_Pinned × NB
  | 0 => (p, zNB)
  | k + 1 => if adT (adD p s k).1 (s k) = true then (nxP (adD p s k).1 (s k), sn (adD p s k).2 (s k)) else adD p s k
theorem adT_in {q : T_Pinned} {x : T_Bar} (h : adT q x = true) : abB q.1 x.1 x.2.1 = true ∧ pinnedF (nxP q x) = true ∧ prG (nxP q x) = prG q + 1 := by
  unfold adT at h
  cases h1 : abB q.1 x.1 x.2.1 <;> cases h2 : pinnedF (nxP q x) <;> rw [h1, h2] at h <;> simp at h
  exact ⟨rfl, rfl, h⟩
theorem adD_n (p : T_Pinned) (s : Nat → T_Bar) : ∀ k, (adD p s k).2.1 ≤ k
  | 0 => Nat.le_refl _
  | k + 1 => by
    have := adD_n p s k
    simp only [adD]
    split
    · simp only [sn]; omega
    · omega
theorem arI_congr (v : T_Graph) {l m : T_BarS} : ∀ n, (∀ i, i < n → l.2 i = m.2 i) → arI v l n = arI v m n
  | 0, _ => rfl
  | n + 1, h => by simp only [arI]; rw [arI_congr v n (fun i hi => h i (by omega)), h n (by omega)]
theorem arI_snoc (v : T_Graph) (r : NB) (x : T_Bar) : arI v (sn r x) (r.1 + 1) = ((arI v r r.1).1 && abB (arI v r r.1).2 x.1 x.2.1, abG (arI v r r.1).2 x.1 x.2.1) := by
  have e : (sn r x).2 r.1 = x := snoc_ge (Nat.lt_irrefl _)
  simp only [arI]
  rw [arI_congr v (l := sn r x) (m := r) r.1 (fun i hi => snoc_lt hi), e]
structure AdOk (p : T_Pinned) (d : T_Pinned × NB) : Prop where
  pin : pinnedF d.1 = true
  eq : d.1 = ((arI p.1 d.2 d.2.1).2, p.2)
  ok : (arI p.1 d.2 d.2.1).1 = true
  rk : prG d.1 = prG p + d.2.1
theorem adD_ok (p : T_Pinned) (hp : pinnedF p = true) (s : Nat → T_Bar) : ∀ k, AdOk p (adD p s k)
  | 0 => ⟨hp, rfl, rfl, by show prG p = prG p + ((0 : Nat) : Int); omega⟩
  | k + 1 => by
    have ih := adD_ok p hp s k
    simp only [adD]
    split
    · rename_i h
      obtain ⟨h1, h2, h3⟩ := adT_in h
      have e := arI_snoc p.1 (adD p s k).2 (s k)
      have e1 : (adD p s k).1.1 = (arI p.1 (adD p s k).2 (adD p s k).2.1).2 := by rw [ih.eq]
      have e2 : (adD p s k).1.2 = p.2 := by rw [ih.eq]
      refine ⟨h2, ?_, ?_, ?_⟩
      · show nxP _ _ = ((arI p.1 (sn (adD p s k).2 (s k)) ((adD p s k).2.1 + 1)).2, p.2)
        rw [e, nxP, e1, e2]
      · show (arI p.1 (sn (adD p s k).2 (s k)) ((adD p s k).2.1 + 1)).1 = true
        rw [e, ← e1]
        simp [ih.ok, h1]
      · show prG (nxP _ _) = prG p + (((adD p s k).2.1 + 1 : Nat) : Int)
        rw [h3, ih.rk]; omega
    · exact ih
theorem ad_arB {p : T_Pinned} (hp : pinnedF p = true) {d : T_Pinned × NB} (ih : AdOk p d) (x : T_Bar) :
    arB p (sn d.2 x) = (bif abB d.1.1 x.1 x.2.1 then pinnedF (nxP d.1 x) else false) ∧ (arB p (sn d.2 x) = true → arP p (sn d.2 x) = nxP d.1 x) := by
  have e := arI_snoc p.1 d.2 x
  have e1 : d.1.1 = (arI p.1 d.2 d.2.1).2 := by rw [ih.eq]
  have e2 : d.1.2 = p.2 := by rw [ih.eq]
  have hb : arB p (sn d.2 x) = (bif abB d.1.1 x.1 x.2.1 then pinnedF (nxP d.1 x) else false) := by
    unfold arB
    show (pinnedF p && ((arI p.1 (sn d.2 x) (d.2.1 + 1)).1 && pinnedF ((arI p.1 (sn d.2 x) (d.2.1 + 1)).2, p.2))) = _
    rw [e, ← e1, nxP, e2, hp, ih.ok]
    cases abB d.1.1 x.1 x.2.1 <;> simp
  refine ⟨hb, fun h => ?_⟩
  unfold arP
  rw [if_pos h]
  show ((arI p.1 (sn d.2 x) (d.2.1 + 1)).2, p.2) = _
  rw [e, ← e1, nxP, e2]
theorem ad_arD {p : T_Pinned} (hp : pinnedF p = true) {d : T_Pinned × NB} (ih : AdOk p d) : arB p d.2 = true ∧ arP p d.2 = d.1 := by
  have h : arB p d.2 = true := by
    unfold arB
    rw [hp, ih.ok, ← ih.eq, ih.pin]; rfl
  refine ⟨h, ?_⟩
  unfold arP
  rw [if_pos h, ← ih.eq]
theorem sm_pinned {p : T_Pinned} (h : pinnedF p = true) : smS s_Pinned p := by
  have := pinned_in h
  have := (graph_inR this.1).2.2.1
  exact sm_pin (by omega) (by omega)
theorem sm_nx {q : T_Pinned} (h : pinnedF q = true) (x : T_Bar) : smS s_Pinned (nxP q x) := by
  have := pinned_in h
  have := (graph_inR this.1).2.2.1
  have := abG_n q.1 x.1 x.2.1
  exact sm_pin (by show (abG q.1 x.1 x.2.1).2.1.1 ≤ 1048576; omega) (by show q.2.1.1 ≤ 1048576; omega)
theorem con_added (p : T_Pinned) (hp : pinnedF p = true) (l : T_BarS) (hl : l.1 ≤ 1048576) :
    Con Try.prog 70 0 [] [pinF p, graphL l] [(0, brOb (adD p l.2 l.1).2.1 (adD p l.2 l.1).2.2)] (.tup [pinF (adD p l.2 l.1).1, .ar 2 0 0 (adD p l.2 l.1).2.1]) := by
  refine con_start Try.func70 rfl (by kernel_rfl) rfl (fun c hc => ?_)
  generalize hR : adD p l.2 l.1 = R
  have lo : ∀ d k, k + d = l.1 → Run Try.prog c 70 [.code (cAt (bodyOf Try.f70) [1, 1, 0, 1, 0, 0]), .inLoop (cAt (bodyOf Try.f70) [1, 1, 0, 1, 0, 0]), .inBlock 0, .code (cAt (bodyOf Try.f70) [1, 1, 1])] (SAd (adD p l.2 k).1 l k (adD p l.2 k).2.1 (adD p l.2 k).2.2) (Post c [(0, brOb R.2.1 R.2.2)] (.tup [pinF R.1, .ar 2 0 0 R.2.1])) := by
    intro d
    induction d with
    | zero =>
      intro k hk
      obtain rfl : k = l.1 := by omega
      have hd : decide ((l.1 : Int) < (l.1 : Int)) = false := by simp
      rw [hR]
      refine path_ok mixed Try.func70 hc (dAe R.1 l l.1 R.2.1 R.2.2) ?_
      simp only [All]
      repeat' (first | exact trivial | with_reducible apply And.intro)
      all_goals (first | omega | rfl | (intros; first | assumption | exact True.intro | rfl | exact absurd (show false = true by assumption) Bool.false_ne_true | ((repeat' (first | assumption | apply anda | apply notf)); done)) | (exact hd) | (intro t ht; simp [All, ntP, ntL]))
    | succ d ih =>
      intro k hk
      have hd : decide ((k : Int) < (l.1 : Int)) = true := decide_eq_true (by omega)
      have hrec := ih (k + 1) (by omega)
      have hn := adD_n p l.2 k
      have hok := adD_ok p hp l.2 k
      have hsd : adD p l.2 (k + 1) = if adT (adD p l.2 k).1 (l.2 k) = true then (nxP (adD p l.2 k).1 (l.2 k), sn (adD p l.2 k).2 (l.2 k)) else adD p l.2 k := rfl
      generalize adD p l.2 k = q at hn hok hsd ⊢
      have hgr := pinned_in hok.pin
      have hnb := (graph_inR hgr.1).2.2.1
      have ca := con_AddBar_i q.1.1 (sm_graph (by omega)) (l.2 k).1 (l.2 k).2.1
      have c2 := con_IsPinned_i (nxP q.1 (l.2 k)) (sm_nx hok.pin _)
      have c3 := con_PinnedRank_i (nxP q.1 (l.2 k)) (sm_nx hok.pin _)
      have c4 := con_PinnedRank_i q.1 (sm_pinned hok.pin)
      have r1 := prG_in q.1
      cases ht : adT q.1 (l.2 k) with
      | true =>
        rw [ht, if_pos rfl] at hsd
        rw [hsd] at hrec
        refine piece_ok mixed hc (dAt q.1 l k q.2.1 q.2.2 (abG q.1.1 (l.2 k).1 (l.2 k).2.1) (abB q.1.1 (l.2 k).1 (l.2 k).2.1) (pinnedF (nxP q.1 (l.2 k))) (prG q.1) (prG (nxP q.1 (l.2 k)))) ?_ hrec
        simp only [All]
        repeat' (first | exact trivial | with_reducible apply And.intro)
        all_goals (first | omega | rfl | (intros; first | assumption | exact True.intro | rfl | exact absurd (show false = true by assumption) Bool.false_ne_true | ((repeat' (first | assumption | apply anda | apply notf)); done)) | (exact hd) | (exact ca) | (intros; exact c2) | (intros; exact c3) | (intros; exact c4) | (exact ht) | (intro t ht; by_cases h' : t < q.2.1 <;> simp [h', snoc, cvtL, cvt, tg, tru, All]) | (intros; simp; omega))
      | false =>
        rw [ht, if_neg (by simp)] at hsd
        rw [hsd] at hrec
        refine piece_ok mixed hc (dAf q.1 l k q.2.1 q.2.2 (abG q.1.1 (l.2 k).1 (l.2 k).2.1) (abB q.1.1 (l.2 k).1 (l.2 k).2.1) (pinnedF (nxP q.1 (l.2 k))) (prG q.1) (prG (nxP q.1 (l.2 k)))) ?_ hrec
        simp only [All]
        repeat' (first | exact trivial | with_reducible apply And.intro)
        all_goals (first | omega | rfl | (intros; first | assumption | exact True.intro | rfl | exact absurd (show false = true by assumption) Bool.false_ne_true | ((repeat' (first | assumption | apply anda | apply notf)); done)) | (exact hd) | (exact ca) | (intros; exact c2) | (intros; exact c3) | (intros; exact c4) | (exact ht) | (intro t ht; simp [All]) | (intros; simp; omega))
  refine piece_ok mixed hc (dAz p l) ?_ (lo l.1 0 (by omega))
  simp only [All]
  repeat' (first | exact trivial | with_reducible apply And.intro)
  all_goals (first | omega | rfl | (intros; first | assumption | exact True.intro | rfl | exact absurd (show false = true by assumption) Bool.false_ne_true | ((repeat' (first | assumption | apply anda | apply notf)); done)) | (intro t ht; exact absurd ht (Nat.not_lt_zero _)) | (intro t ht; simp [All]))
end Go.Proofs.Ytgdbnnmogddkaaa.Mach
namespace Go.Proofs.Ytgdbnnmogddkaaa.Mach
open Go Go.Sort
set_option linter.unusedVariables false
set_option linter.unusedSimpArgs false
def SLf (p : T_Pinned) (l : T_BarS) (rk : Int) (k n : Nat) (h : Nat → T_Bar) : St :=
  ⟨[pinA p, graphL l, .pt 3 0 0 0, .p .any, .p .any, .ar 2 1 0 n, .p (.int .i64 rk), .p (.int .i64 k)] ++ List.replicate 44 anyA, [(0, boxP p), (1, brOb n h)], 2⟩
theorem dLz (p : T_Pinned) (l : T_BarS) (rk : Int) :
    pieceOb Try.prog 0 [.reg [oT, oT], .reg [oT, oT], .reg [oT, ⟨true, (some ⟨[], [], 1, [], .p (.int .i64 rk)⟩), none⟩, oT], .reg [oT], .head] [.code (bodyOf Try.f69)] (start Try.f69 [] 0 [pinA p, graphL l]) [0, 64] 1 (SLf p l rk 0 0 (fun _ => (0, 0, ()))) =
    some ([.code (cAt (bodyOf Try.f69) [1, 1, 1, 0, 1, 0, 0]), .inLoop (cAt (bodyOf Try.f69) [1, 1, 1, 0, 1, 0, 0]), .inBlock 0, .code (cAt (bodyOf Try.f69) [1, 1, 1, 1])], [((0 : Nat) < 1),
  Con Try.prog 96 0 [] [.agg [.p (.int .i64 p.1.1), .p (.seq true 2 p.1.2.1.1 (fun i => [.int .i64 ((p.1.2.1.2 i).1), .int .i64 ((p.1.2.1.2 i).2.1)])), .p (.seq true 1 p.2.1.1 (fun i => [.int .i64 (p.2.1.2 i)]))]] [] (.p (.int .i64 rk)),
  ((p.1.1 : Int) = p.1.1),
  ((p.1.2.1.1 : Nat) = p.1.2.1.1),
  (∀ i : Nat, (((i : Nat) < p.1.2.1.1) → (([.int .i64 ((p.1.2.1.2 i).1), .int .i64 ((p.1.2.1.2 i).2.1)] : List PV) = [.int .i64 ((p.1.2.1.2 i).1), .int .i64 ((p.1.2.1.2 i).2.1)]))),
  ((p.2.1.1 : Nat) = p.2.1.1),
  (∀ i : Nat, (((i : Nat) < p.2.1.1) → (([.int .i64 (p.2.1.2 i)] : List PV) = [.int .i64 (p.2.1.2 i)]))),
  ((l.1 : Nat) = l.1),
  (∀ i : Nat, (((i : Nat) < l.1) → (([.int .i64 ((l.2 i).1), .int .i64 ((l.2 i).2.1)] : List PV) = [.int .i64 ((l.2 i).1), .int .i64 ((l.2 i).2.1)]))),
  ((0 : Nat) = 0),
  ((0 : Nat) = 0),
  ((0 : Nat) = 0),
  ((rk : Int) = rk),
  ((0 : Int) = (↑0 : Int)),
  ((([AV.p (PV.int IntKind.i64 p.1.1), graphL p.1.2.1, inL p.2.1].length) : Nat) = 3),
  ((1 : Nat) ≤ 1),
  ((1 : Nat) ≤ 1),
  ((p.1.1 : Int) = p.1.1),
  ((p.1.2.1.1 : Nat) = p.1.2.1.1),
  (∀ i : Nat, (((i : Nat) < p.1.2.1.1) → (([.int .i64 ((p.1.2.1.2 i).1), .int .i64 ((p.1.2.1.2 i).2.1)] : List PV) = [.int .i64 ((p.1.2.1.2 i).1), .int .i64 ((p.1.2.1.2 i).2.1)]))),
  ((p.2.1.1 : Nat) = p.2.1.1),
  (∀ i : Nat, (((i : Nat) < p.2.1.1) → (([.int .i64 (p.2.1.2 i)] : List PV) = [.int .i64 (p.2.1.2 i)]))),
  ((2 : Nat) = 2),
  ((0 : Nat) ≤ 0),
  (∀ i : Nat, (((i : Nat) < 0) → (All [] ∧ (([.p .any, .p .any] : List AV) = [.p (.int .i64 0), .p (.int .i64 0)]))))]) := by kernel_rfl
theorem dLt (p q : T_Pinned) (l : T_BarS) (k n : Nat) (h : Nat → T_Bar) (b1 : Bool) (rk r2 : Int) :
    pieceOb Try.prog 0 [.reg [oT, oT, oT, oT], .dec true, .reg [oT, oT, oT, oT, oT, oT, oT, oT, oT, oT, ⟨true, (some ⟨[], [], 1, [(0, brOb q.1.2.1.1 q.1.2.1.2), (1, iOb q.2.1.1 q.2.1.2)], .tup [.agg [.p (.int .i64 q.1.1), .ar 2 0 0 q.1.2.1.1, .ar 1 1 0 q.2.1.1], .p (.bool b1)]⟩), none⟩, oT, oT, oT, oT, oT, oT], .reg [oT, oT, oT, ⟨true, (some ⟨[], [], 1, [], .p (.int .i64 r2)⟩), none⟩, oT, oT, oT, oT, oT, oT, oT], .dec true, .reg [oT, oT, oT, oT, oT, oT, oT, oT], .reg [oT, oT, oT], .head] [.code (cAt (bodyOf Try.f69) [1, 1, 1, 0, 1, 0, 0]), .inLoop (cAt (bodyOf Try.f69) [1, 1, 1, 0, 1, 0, 0]), .inBlock 0, .code (cAt (bodyOf Try.f69) [1, 1, 1, 1])] (SLf p l rk k n h) [0, 1218] 1 (SLf p l rk (k + 1) (n + 1) (snoc n h (l.2 k))) =
    some ([.code (cAt (bodyOf Try.f69) [1, 1, 1, 0, 1, 0, 0]), .inLoop (cAt (bodyOf Try.f69) [1, 1, 1, 0, 1, 0, 0]), .inBlock 0, .code (cAt (bodyOf Try.f69) [1, 1, 1, 1])], [((decide ((↑k : Int) < (↑l.1 : Int))) = true),
  ((0 : Nat) < 1),
  ((n : Nat) ≤ n),
  ((0 : Nat) ≤ 0),
  ((((0 + n) * 16) : Nat) ≤ 140737488355328),
  (((0 + n) : Nat) ≤ 9223372036854775807),
  ((0 : Int) ≤ (↑k : Int)),
  (((↑k : Int) : Int) < (↑l.1 : Int)),
  ((1 : Nat) ≤ 1),
  (((0 + n) : Nat) ≤ (0 + n)),
  ((((0 + n + 1) * 16) : Nat) ≤ 140737488355328),
  (((0 + n + 1) : Nat) ≤ 9223372036854775807),
  ((2 : Nat) = 2),
  (((0 + n + 1) : Nat) ≤ (0 + n + 1)),
  Con Try.prog 17 0 [] [.agg [.p (.int .i64 p.1.1), .p (.seq true 2 p.1.2.1.1 (fun i => [.int .i64 ((p.1.2.1.2 i).1), .int .i64 ((p.1.2.1.2 i).2.1)])), .p (.seq true 1 p.2.1.1 (fun i => [.int .i64 (p.2.1.2 i)]))], .p (.seq true 2 (0 + n + 1) (fun i => [(cellP true (if (i < 0 + n) then [.p (.int .i64 ((h i).1)), .p (.int .i64 ((h i).2.1))] else [.p (.int .i64 ((l.2 k).1)), .p (.int .i64 ((l.2 k).2.1))]) 0), (cellP true (if (i < 0 + n) then [.p (.int .i64 ((h i).1)), .p (.int .i64 ((h i).2.1))] else [.p (.int .i64 ((l.2 k).1)), .p (.int .i64 ((l.2 k).2.1))]) 1)]))] [(0, ⟨false, 2, q.1.2.1.1, (fun i => [.p (.int .i64 ((q.1.2.1.2 i).1)), .p (.int .i64 ((q.1.2.1.2 i).2.1))])⟩), (1, ⟨false, 1, q.2.1.1, (fun i => [.p (.int .i64 (q.2.1.2 i))])⟩)] (.tup [.agg [.p (.int .i64 q.1.1), .ar 2 0 0 q.1.2.1.1, .ar 1 1 0 q.2.1.1], .p (.bool b1)]),
  ((0 : Nat) < 1),
  ((true = true) → ((1 : Nat) = 1)),
  ((b1 = true) → ((0 : Nat) < 1)),
  ((b1 = true) → (b1 = true)),
  ((b1 = true) → ((2 : Nat) = 2)),
  ((b1 = true) → ((q.1.2.1.1 : Nat) ≤ q.1.2.1.1)),
  ((b1 = true) → ((1 : Nat) = 1)),
  ((b1 = true) → ((q.2.1.1 : Nat) ≤ q.2.1.1)),
  ((b1 = true) → Con Try.prog 96 0 [] [.agg [.p (.int .i64 q.1.1), .p (.seq true 2 q.1.2.1.1 (fun i => [.int .i64 ((q.1.2.1.2 i).1), .int .i64 ((q.1.2.1.2 i).2.1)])), .p (.seq true 1 q.2.1.1 (fun i => [.int .i64 (q.2.1.2 i)]))]] [] (.p (.int .i64 r2))),
  ((b1 = true) → (b1 = true)),
  ((b1 = true) → (b1 = true)),
  ((b1 = true) → (b1 = true)),
  ((b1 = true) → (((-9223372036854775808) : Int) ≤ (rk + (↑n : Int)))),
  ((b1 = true) → (((rk + (↑n : Int)) : Int) ≤ 9223372036854775807)),
  ((b1 = true) → (b1 = true)),
  ((b1 = true) → (((-9223372036854775808) : Int) ≤ (rk + (↑n : Int) + 1))),
  ((b1 = true) → (((rk + (↑n : Int) + 1) : Int) ≤ 9223372036854775807)),
  ((b1 = true) → (b1 = true)),
  ((b1 = true) → (b1 = true)),
  ((b1 = true) → (b1 = true)),
  ((bif b1 then r2 == rk + (↑n : Int) + 1 else false) = true),
  ((0 : Int) ≤ (↑k : Int)),
  (((↑k : Int) : Int) < (↑l.1 : Int)),
  ((1 : Nat) ≤ 1),
  ((n : Nat) ≤ n),
  ((((n + 1) * 16) : Nat) ≤ 140737488355328),
  (((n + 1) : Nat) ≤ 9223372036854775807),
  (((-9223372036854775808) : Int) ≤ ((↑k : Int) + 1)),
  ((((↑k : Int) + 1) : Int) ≤ 9223372036854775807),
  ((p.1.1 : Int) = p.1.1),
  ((p.1.2.1.1 : Nat) = p.1.2.1.1),
  (∀ i : Nat, (((i : Nat) < p.1.2.1.1) → (([.int .i64 ((p.1.2.1.2 i).1), .int .i64 ((p.1.2.1.2 i).2.1)] : List PV) = [.int .i64 ((p.1.2.1.2 i).1), .int .i64 ((p.1.2.1.2 i).2.1)]))),
  ((p.2.1.1 : Nat) = p.2.1.1),
  (∀ i : Nat, (((i : Nat) < p.2.1.1) → (([.int .i64 (p.2.1.2 i)] : List PV) = [.int .i64 (p.2.1.2 i)]))),
  ((l.1 : Nat) = l.1),
  (∀ i : Nat, (((i : Nat) < l.1) → (([.int .i64 ((l.2 i).1), .int .i64 ((l.2 i).2.1)] : List PV) = [.int .i64 ((l.2 i).1), .int .i64 ((l.2 i).2.1)]))),
  ((0 : Nat) = 0),
  ((0 : Nat) = 0),
  (((n + 1) : Nat) = (n + 1)),
  ((rk : Int) = rk),
  ((((↑k : Int) + 1) : Int) = (↑(k + 1) : Int)),
  ((3 : Nat) = 3),
  ((1 : Nat) ≤ 1),
  ((1 : Nat) ≤ 1),
  ((p.1.1 : Int) = p.1.1),
  ((p.1.2.1.1 : Nat) = p.1.2.1.1),
  (∀ i : Nat, (((i : Nat) < p.1.2.1.1) → (([.int .i64 ((p.1.2.1.2 i).1), .int .i64 ((p.1.2.1.2 i).2.1)] : List PV) = [.int .i64 ((p.1.2.1.2 i).1), .int .i64 ((p.1.2.1.2 i).2.1)]))),
  ((p.2.1.1 : Nat) = p.2.1.1),
  (∀ i : Nat, (((i : Nat) < p.2.1.1) → (([.int .i64 (p.2.1.2 i)] : List PV) = [.int .i64 (p.2.1.2 i)]))),
  ((2 : Nat) = 2),
  (((n + 1) : Nat) ≤ (n + 1)),
  (∀ i : Nat, (((i : Nat) < (n + 1)) → (All (cvtL false [(1218, ⟨false, 2, (n + 1), (fun i_1 => (if (i_1 < n) then [.p (.int .i64 ((h i_1).1)), .p (.int .i64 ((h i_1).2.1))] else [.p (.int .i64 ((l.2 k).1)), .p (.int .i64 ((l.2 k).2.1))]))⟩), (1186, ⟨false, 2, 1, (fun i_1 => [.p (.int .i64 ((l.2 k).1)), .p (.int .i64 ((l.2 k).2.1))])⟩), (578, ⟨true, 3, 1, (fun i_1 => [.p (.int .i64 q.1.1), .ar 2 450 0 q.1.2.1.1, .ar 1 451 0 q.2.1.1])⟩), (451, ⟨false, 1, q.2.1.1, (fun i_1 => [.p (.int .i64 (q.2.1.2 i_1))])⟩), (450, ⟨false, 2, q.1.2.1.1, (fun i_1 => [.p (.int .i64 ((q.1.2.1.2 i_1).1)), .p (.int .i64 ((q.1.2.1.2 i_1).2.1))])⟩), (418, ⟨false, 2, (0 + n + 1), (fun i_1 => (if (i_1 < 0 + n) then [.p (.int .i64 ((h i_1).1)), .p (.int .i64 ((h i_1).2.1))] else [.p (.int .i64 ((l.2 k).1)), .p (.int .i64 ((l.2 k).2.1))]))⟩), (386, ⟨false, 2, 1, (fun i_1 => [.p (.int .i64 ((l.2 k).1)), .p (.int .i64 ((l.2 k).2.1))])⟩), (0, ⟨true, 3, 1, (fun i_1 => [.p (.int .i64 p.1.1), .p (.seq true 2 p.1.2.1.1 (fun i_2 => [.int .i64 ((p.1.2.1.2 i_2).1), .int .i64 ((p.1.2.1.2 i_2).2.1)])), .p (.seq true 1 p.2.1.1 (fun i_2 => [.int .i64 (p.2.1.2 i_2)]))])⟩)] [0, 1218] 1 (if (i < n) then [.p (.int .i64 ((h i).1)), .p (.int .i64 ((h i).2.1))] else [.p (.int .i64 ((l.2 k).1)), .p (.int .i64 ((l.2 k).2.1))])).2 ∧ (((cvtL false [(1218, ⟨false, 2, (n + 1), (fun i_1 => (if (i_1 < n) then [.p (.int .i64 ((h i_1).1)), .p (.int .i64 ((h i_1).2.1))] else [.p (.int .i64 ((l.2 k).1)), .p (.int .i64 ((l.2 k).2.1))]))⟩), (1186, ⟨false, 2, 1, (fun i_1 => [.p (.int .i64 ((l.2 k).1)), .p (.int .i64 ((l.2 k).2.1))])⟩), (578, ⟨true, 3, 1, (fun i_1 => [.p (.int .i64 q.1.1), .ar 2 450 0 q.1.2.1.1, .ar 1 451 0 q.2.1.1])⟩), (451, ⟨false, 1, q.2.1.1, (fun i_1 => [.p (.int .i64 (q.2.1.2 i_1))])⟩), (450, ⟨false, 2, q.1.2.1.1, (fun i_1 => [.p (.int .i64 ((q.1.2.1.2 i_1).1)), .p (.int .i64 ((q.1.2.1.2 i_1).2.1))])⟩), (418, ⟨false, 2, (0 + n + 1), (fun i_1 => (if (i_1 < 0 + n) then [.p (.int .i64 ((h i_1).1)), .p (.int .i64 ((h i_1).2.1))] else [.p (.int .i64 ((l.2 k).1)), .p (.int .i64 ((l.2 k).2.1))]))⟩), (386, ⟨false, 2, 1, (fun i_1 => [.p (.int .i64 ((l.2 k).1)), .p (.int .i64 ((l.2 k).2.1))])⟩), (0, ⟨true, 3, 1, (fun i_1 => [.p (.int .i64 p.1.1), .p (.seq true 2 p.1.2.1.1 (fun i_2 => [.int .i64 ((p.1.2.1.2 i_2).1), .int .i64 ((p.1.2.1.2 i_2).2.1)])), .p (.seq true 1 p.2.1.1 (fun i_2 => [.int .i64 (p.2.1.2 i_2)]))])⟩)] [0, 1218] 1 (if (i < n) then [.p (.int .i64 ((h i).1)), .p (.int .i64 ((h i).2.1))] else [.p (.int .i64 ((l.2 k).1)), .p (.int .i64 ((l.2 k).2.1))])).1 : List AV) = [.p (.int .i64 (if i < n then (h i).1 else (l.2 k).1)), .p (.int .i64 (if i < n then (h i).2.1 else (l.2 k).2.1))]))))]) := by kernel_rfl
theorem dLf (p q : T_Pinned) (l : T_BarS) (k n : Nat) (h : Nat → T_Bar) (b1 : Bool) (rk r2 : Int) :
    pieceOb Try.prog 0 [.reg [oT, oT, oT, oT], .dec true, .reg [oT, oT, oT, oT, oT, oT, oT, oT, oT, oT, ⟨true, (some ⟨[], [], 1, [(0, brOb q.1.2.1.1 q.1.2.1.2), (1, iOb q.2.1.1 q.2.1.2)], .tup [.agg [.p (.int .i64 q.1.1), .ar 2 0 0 q.1.2.1.1, .ar 1 1 0 q.2.1.1], .p (.bool b1)]⟩), none⟩, oT, oT, oT, oT, oT, oT], .reg [oT, oT, oT, ⟨true, (some ⟨[], [], 1, [], .p (.int .i64 r2)⟩), none⟩, oT, oT, oT, oT, oT, oT, oT], .dec false, .reg [oT, oT, oT], .head] [.code (cAt (bodyOf Try.f69) [1, 1, 1, 0, 1, 0, 0]), .inLoop (cAt (bodyOf Try.f69) [1, 1, 1, 0, 1, 0, 0]), .inBlock 0, .code (cAt (bodyOf Try.f69) [1, 1, 1, 1])] (SLf p l rk k n h) [0, 1] 1 (SLf p l rk (k + 1) n h) =
    some ([.code (cAt (bodyOf Try.f69) [1, 1, 1, 0, 1, 0, 0]), .inLoop (cAt (bodyOf Try.f69) [1, 1, 1, 0, 1, 0, 0]), .inBlock 0, .code (cAt (bodyOf Try.f69) [1, 1, 1, 1])], [((decide ((↑k : Int) < (↑l.1 : Int))) = true),
  ((0 : Nat) < 1),
  ((n : Nat) ≤ n),
  ((0 : Nat) ≤ 0),
  ((((0 + n) * 16) : Nat) ≤ 140737488355328),
  (((0 + n) : Nat) ≤ 9223372036854775807),
  ((0 : Int) ≤ (↑k : Int)),
  (((↑k : Int) : Int) < (↑l.1 : Int)),
  ((1 : Nat) ≤ 1),
  (((0 + n) : Nat) ≤ (0 + n)),
  ((((0 + n + 1) * 16) : Nat) ≤ 140737488355328),
  (((0 + n + 1) : Nat) ≤ 9223372036854775807),
  ((2 : Nat) = 2),
  (((0 + n + 1) : Nat) ≤ (0 + n + 1)),
  Con Try.prog 17 0 [] [.agg [.p (.int .i64 p.1.1), .p (.seq true 2 p.1.2.1.1 (fun i => [.int .i64 ((p.1.2.1.2 i).1), .int .i64 ((p.1.2.1.2 i).2.1)])), .p (.seq true 1 p.2.1.1 (fun i => [.int .i64 (p.2.1.2 i)]))], .p (.seq true 2 (0 + n + 1) (fun i => [(cellP true (if (i < 0 + n) then [.p (.int .i64 ((h i).1)), .p (.int .i64 ((h i).2.1))] else [.p (.int .i64 ((l.2 k).1)), .p (.int .i64 ((l.2 k).2.1))]) 0), (cellP true (if (i < 0 + n) then [.p (.int .i64 ((h i).1)), .p (.int .i64 ((h i).2.1))] else [.p (.int .i64 ((l.2 k).1)), .p (.int .i64 ((l.2 k).2.1))]) 1)]))] [(0, ⟨false, 2, q.1.2.1.1, (fun i => [.p (.int .i64 ((q.1.2.1.2 i).1)), .p (.int .i64 ((q.1.2.1.2 i).2.1))])⟩), (1, ⟨false, 1, q.2.1.1, (fun i => [.p (.int .i64 (q.2.1.2 i))])⟩)] (.tup [.agg [.p (.int .i64 q.1.1), .ar 2 0 0 q.1.2.1.1, .ar 1 1 0 q.2.1.1], .p (.bool b1)]),
  ((0 : Nat) < 1),
  ((true = true) → ((1 : Nat) = 1)),
  ((b1 = true) → ((0 : Nat) < 1)),
  ((b1 = true) → (b1 = true)),
  ((b1 = true) → ((2 : Nat) = 2)),
  ((b1 = true) → ((q.1.2.1.1 : Nat) ≤ q.1.2.1.1)),
  ((b1 = true) → ((1 : Nat) = 1)),
  ((b1 = true) → ((q.2.1.1 : Nat) ≤ q.2.1.1)),
  ((b1 = true) → Con Try.prog 96 0 [] [.agg [.p (.int .i64 q.1.1), .p (.seq true 2 q.1.2.1.1 (fun i => [.int .i64 ((q.1.2.1.2 i).1), .int .i64 ((q.1.2.1.2 i).2.1)])), .p (.seq true 1 q.2.1.1 (fun i => [.int .i64 (q.2.1.2 i)]))]] [] (.p (.int .i64 r2))),
  ((b1 = true) → (b1 = true)),
  ((b1 = true) → (b1 = true)),
  ((b1 = true) → (b1 = true)),
  ((b1 = true) → (((-9223372036854775808) : Int) ≤ (rk + (↑n : Int)))),
  ((b1 = true) → (((rk + (↑n : Int)) : Int) ≤ 9223372036854775807)),
  ((b1 = true) → (b1 = true)),
  ((b1 = true) → (((-9223372036854775808) : Int) ≤ (rk + (↑n : Int) + 1))),
  ((b1 = true) → (((rk + (↑n : Int) + 1) : Int) ≤ 9223372036854775807)),
  ((b1 = true) → (b1 = true)),
  ((b1 = true) → (b1 = true)),
  ((b1 = true) → (b1 = true)),
  ((bif b1 then r2 == rk + (↑n : Int) + 1 else false) = false),
  (((-9223372036854775808) : Int) ≤ ((↑k : Int) + 1)),
  ((((↑k : Int) + 1) : Int) ≤ 9223372036854775807),
  ((p.1.1 : Int) = p.1.1),
  ((p.1.2.1.1 : Nat) = p.1.2.1.1),
  (∀ i : Nat, (((i : Nat) < p.1.2.1.1) → (([.int .i64 ((p.1.2.1.2 i).1), .int .i64 ((p.1.2.1.2 i).2.1)] : List PV) = [.int .i64 ((p.1.2.1.2 i).1), .int .i64 ((p.1.2.1.2 i).2.1)]))),
  ((p.2.1.1 : Nat) = p.2.1.1),
  (∀ i : Nat, (((i : Nat) < p.2.1.1) → (([.int .i64 (p.2.1.2 i)] : List PV) = [.int .i64 (p.2.1.2 i)]))),
  ((l.1 : Nat) = l.1),
  (∀ i : Nat, (((i : Nat) < l.1) → (([.int .i64 ((l.2 i).1), .int .i64 ((l.2 i).2.1)] : List PV) = [.int .i64 ((l.2 i).1), .int .i64 ((l.2 i).2.1)]))),
  ((0 : Nat) = 0),
  ((0 : Nat) = 0),
  ((n : Nat) = n),
  ((rk : Int) = rk),
  ((((↑k : Int) + 1) : Int) = (↑(k + 1) : Int)),
  ((3 : Nat) = 3),
  ((1 : Nat) ≤ 1),
  ((1 : Nat) ≤ 1),
  ((p.1.1 : Int) = p.1.1),
  ((p.1.2.1.1 : Nat) = p.1.2.1.1),
  (∀ i : Nat, (((i : Nat) < p.1.2.1.1) → (([.int .i64 ((p.1.2.1.2 i).1), .int .i64 ((p.1.2.1.2 i).2.1)] : List PV) = [.int .i64 ((p.1.2.1.2 i).1), .int .i64 ((p.1.2.1.2 i).2.1)]))),
  ((p.2.1.1 : Nat) = p.2.1.1),
  (∀ i : Nat, (((i : Nat) < p.2.1.1) → (([.int .i64 (p.2.1.2 i)] : List PV) = [.int .i64 (p.2.1.2 i)]))),
  ((2 : Nat) = 2),
  ((n : Nat) ≤ n),
  (∀ i : Nat, (((i : Nat) < n) → (All [] ∧ (([.p (.int .i64 ((h i).1)), .p (.int .i64 ((h i).2.1))] : List AV) = [.p (.int .i64 ((h i).1)), .p (.int .i64 ((h i).2.1))]))))]) := by kernel_rfl
theorem dLe (p : T_Pinned) (l : T_BarS) (rk : Int) (k n : Nat) (h : Nat → T_Bar) :
    pathOb Try.prog Try.f69 0 [.reg [oT, oT, oT, oT], .dec false, .reg [oT, oT]] [.code (cAt (bodyOf Try.f69) [1, 1, 1, 0, 1, 0, 0]), .inLoop (cAt (bodyOf Try.f69) [1, 1, 1, 0, 1, 0, 0]), .inBlock 0, .code (cAt (bodyOf Try.f69) [1, 1, 1, 1])] (SLf p l rk k n h) [1] 1 [(0, brOb n h)] (.ar 2 0 0 n) =
    some [((decide ((↑k : Int) < (↑l.1 : Int))) = false),
  ((0 : Nat) = 0),
  ((n : Nat) = n),
  ((2 : Nat) = 2),
  ((n : Nat) ≤ n),
  (∀ i : Nat, (((i : Nat) < n) → (All [] ∧ (([.p (.int .i64 ((h i).1)), .p (.int .i64 ((h i).2.1))] : List AV) = [.p (.int .i64 ((h i).1)), .p (.int .i64 ((h i).2.1))])))),
  (∀ i : Nat, (((i : Nat) < n) → All []))] := by kernel_rfl
theorem rBn (p : T_Pinned) :
    pathOb Try.prog Try.f29 0 [.reg [oT, oT, oT], .reg [oT, ⟨true, (some ⟨[], [], 1, [], .p (.bool false)⟩), none⟩, oT], .dec true, .reg [oT, oT, oT]] [.code (bodyOf Try.f29)] (start Try.f29 [] 0 [pinA p]) [192] 1 [(0, brOb 0 (fun _ => (0, 0, ())))] (.tup [.ar 2 0 0 0, .p (.bool false)]) =
    some [((0 : Nat) < 1),
  Con Try.prog 52 0 [] [.agg [.p (.int .i64 p.1.1), .p (.seq true 2 p.1.2.1.1 (fun i => [.int .i64 ((p.1.2.1.2 i).1), .int .i64 ((p.1.2.1.2 i).2.1)])), .p (.seq true 1 p.2.1.1 (fun i => [.int .i64 (p.2.1.2 i)]))]] [] (.p (.bool false)),
  ((!false) = true),
  ((0 : Nat) = 0),
  ((0 : Nat) = 0),
  (false = false),
  ((2 : Nat) = 2),
  ((0 : Nat) ≤ 0),
  (∀ i : Nat, (((i : Nat) < 0) → (All [] ∧ (([.p .any, .p .any] : List AV) = [.p (.int .i64 0), .p (.int .i64 0)])))),
  (∀ i : Nat, (((i : Nat) < 0) → All []))] := by kernel_rfl
theorem rBf (p q : T_Pinned) (n m : Nat) (h g : Nat → T_Bar) :
    pathOb Try.prog Try.f29 0 [.reg [oT, oT, oT], .reg [oT, ⟨true, (some ⟨[], [], 1, [], .p (.bool true)⟩), none⟩, oT], .dec false, .reg [oT, oT, oT, ⟨true, (some ⟨[], [], 1, [(0, brOb n h)], .ar 2 0 0 n⟩), none⟩, ⟨true, (some ⟨[], [0], 1, [(0, brOb m g)], .tup [pinF q, .ar 2 0 0 m]⟩), none⟩, oT, oT, oT, oT, oT, oT], .reg [oT, ⟨true, (some ⟨[], [], 1, [], .p (.bool false)⟩), none⟩, oT], .dec true, .reg [oT, oT, oT]] [.code (bodyOf Try.f29)] (start Try.f29 [] 0 [pinA p]) [640] 1 [(0, brOb 0 (fun _ => (0, 0, ())))] (.tup [.ar 2 0 0 0, .p (.bool false)]) =
    some [((0 : Nat) < 1),
  Con Try.prog 52 0 [] [.agg [.p (.int .i64 p.1.1), .p (.seq true 2 p.1.2.1.1 (fun i => [.int .i64 ((p.1.2.1.2 i).1), .int .i64 ((p.1.2.1.2 i).2.1)])), .p (.seq true 1 p.2.1.1 (fun i => [.int .i64 (p.2.1.2 i)]))]] [] (.p (.bool true)),
  ((!true) = false),
  ((0 : Nat) < 1),
  ((0 : Nat) < 1),
  Con Try.prog 72 0 [] [.agg [.p (.int .i64 p.1.1), .p (.seq true 2 p.1.2.1.1 (fun i => [.int .i64 ((p.1.2.1.2 i).1), .int .i64 ((p.1.2.1.2 i).2.1)]))]] [(0, ⟨false, 2, n, (fun i => [.p (.int .i64 ((h i).1)), .p (.int .i64 ((h i).2.1))])⟩)] (.ar 2 0 0 n),
  ((2 : Nat) = 2),
  ((n : Nat) ≤ n),
  Con Try.prog 70 0 [] [.agg [.p (.int .i64 p.1.1), .p (.seq false 2 p.1.2.1.1 (fun i => [.int .i64 ((p.1.2.1.2 i).1), .int .i64 ((p.1.2.1.2 i).2.1)])), .p (.seq false 1 p.2.1.1 (fun i => [.int .i64 (p.2.1.2 i)]))], .p (.seq true 2 n (fun i => [.int .i64 ((h i).1), .int .i64 ((h i).2.1)]))] [(0, ⟨false, 2, m, (fun i => [.p (.int .i64 ((g i).1)), .p (.int .i64 ((g i).2.1))])⟩)] (.tup [.agg [.p (.int .i64 q.1.1), .p (.seq false 2 q.1.2.1.1 (fun i => [.int .i64 ((q.1.2.1.2 i).1), .int .i64 ((q.1.2.1.2 i).2.1)])), .p (.seq false 1 q.2.1.1 (fun i => [.int .i64 (q.2.1.2 i)]))], .ar 2 0 0 m]),
  ((0 : Nat) < 1),
  ((true = true) → ((1 : Nat) = 1)),
  ((0 : Nat) < 1),
  Con Try.prog 68 0 [] [.agg [.p (.int .i64 q.1.1), .p (.seq true 2 q.1.2.1.1 (fun i => [.int .i64 ((q.1.2.1.2 i).1), .int .i64 ((q.1.2.1.2 i).2.1)])), .p (.seq true 1 q.2.1.1 (fun i => [.int .i64 (q.2.1.2 i)]))]] [] (.p (.bool false)),
  ((!false) = true),
  ((0 : Nat) = 0),
  ((0 : Nat) = 0),
  (false = false),
  ((2 : Nat) = 2),
  ((0 : Nat) ≤ 0),
  (∀ i : Nat, (((i : Nat) < 0) → (All [] ∧ (([.p .any, .p .any] : List AV) = [.p (.int .i64 0), .p (.int .i64 0)])))),
  (∀ i : Nat, (((i : Nat) < 0) → All []))] := by kernel_rfl
theorem rBt (p q : T_Pinned) (n m : Nat) (h g : Nat → T_Bar) :
    pathOb Try.prog Try.f29 0 [.reg [oT, oT, oT], .reg [oT, ⟨true, (some ⟨[], [], 1, [], .p (.bool true)⟩), none⟩, oT], .dec false, .reg [oT, oT, oT, ⟨true, (some ⟨[], [], 1, [(0, brOb n h)], .ar 2 0 0 n⟩), none⟩, ⟨true, (some ⟨[], [0], 1, [(0, brOb m g)], .tup [pinF q, .ar 2 0 0 m]⟩), none⟩, oT, oT, oT, oT, oT, oT], .reg [oT, ⟨true, (some ⟨[], [], 1, [], .p (.bool true)⟩), none⟩, oT], .dec false, .reg [oT, oT, oT]] [.code (bodyOf Try.f29)] (start Try.f29 [] 0 [pinA p]) [320] 1 [(0, brOb m g)] (.tup [.ar 2 0 0 m, .p (.bool true)]) =
    some [((0 : Nat) < 1),
  Con Try.prog 52 0 [] [.agg [.p (.int .i64 p.1.1), .p (.seq true 2 p.1.2.1.1 (fun i => [.int .i64 ((p.1.2.1.2 i).1), .int .i64 ((p.1.2.1.2 i).2.1)])), .p (.seq true 1 p.2.1.1 (fun i => [.int .i64 (p.2.1.2 i)]))]] [] (.p (.bool true)),
  ((!true) = false),
  ((0 : Nat) < 1),
  ((0 : Nat) < 1),
  Con Try.prog 72 0 [] [.agg [.p (.int .i64 p.1.1), .p (.seq true 2 p.1.2.1.1 (fun i => [.int .i64 ((p.1.2.1.2 i).1), .int .i64 ((p.1.2.1.2 i).2.1)]))]] [(0, ⟨false, 2, n, (fun i => [.p (.int .i64 ((h i).1)), .p (.int .i64 ((h i).2.1))])⟩)] (.ar 2 0 0 n),
  ((2 : Nat) = 2),
  ((n : Nat) ≤ n),
  Con Try.prog 70 0 [] [.agg [.p (.int .i64 p.1.1), .p (.seq false 2 p.1.2.1.1 (fun i => [.int .i64 ((p.1.2.1.2 i).1), .int .i64 ((p.1.2.1.2 i).2.1)])), .p (.seq false 1 p.2.1.1 (fun i => [.int .i64 (p.2.1.2 i)]))], .p (.seq true 2 n (fun i => [.int .i64 ((h i).1), .int .i64 ((h i).2.1)]))] [(0, ⟨false, 2, m, (fun i => [.p (.int .i64 ((g i).1)), .p (.int .i64 ((g i).2.1))])⟩)] (.tup [.agg [.p (.int .i64 q.1.1), .p (.seq false 2 q.1.2.1.1 (fun i => [.int .i64 ((q.1.2.1.2 i).1), .int .i64 ((q.1.2.1.2 i).2.1)])), .p (.seq false 1 q.2.1.1 (fun i => [.int .i64 (q.2.1.2 i)]))], .ar 2 0 0 m]),
  ((0 : Nat) < 1),
  ((true = true) → ((1 : Nat) = 1)),
  ((0 : Nat) < 1),
  Con Try.prog 68 0 [] [.agg [.p (.int .i64 q.1.1), .p (.seq true 2 q.1.2.1.1 (fun i => [.int .i64 ((q.1.2.1.2 i).1), .int .i64 ((q.1.2.1.2 i).2.1)])), .p (.seq true 1 q.2.1.1 (fun i => [.int .i64 (q.2.1.2 i)]))]] [] (.p (.bool true)),
  ((!true) = false),
  ((0 : Nat) = 0),
  ((m : Nat) = m),
  (true = true),
  ((2 : Nat) = 2),
  ((m : Nat) ≤ m),
  (∀ i : Nat, (((i : Nat) < m) → (All [] ∧ (([.p (.int .i64 ((g i).1)), .p (.int .i64 ((g i).2.1))] : List AV) = [.p (.int .i64 ((g i).1)), .p (.int .i64 ((g i).2.1))])))),
  (∀ i : Nat, (((i : Nat) < m) → All []))] := by kernel_rfl
theorem rDn (p : T_Pinned) :
    pathOb Try.prog Try.f28 0 [.reg [oT, oT, oT], .reg [oT, ⟨true, (some ⟨[], [], 1, [], .p (.bool false)⟩), none⟩, oT], .dec true, .reg [oT, oT, oT]] [.code (bodyOf Try.f28)] (start Try.f28 [] 0 [pinA p]) [192] 1 [(0, brOb 0 (fun _ => (0, 0, ())))] (.tup [.ar 2 0 0 0, .p (.bool false)]) =
    some [((0 : Nat) < 1),
  Con Try.prog 46 0 [] [.agg [.p (.int .i64 p.1.1), .p (.seq true 2 p.1.2.1.1 (fun i => [.int .i64 ((p.1.2.1.2 i).1), .int .i64 ((p.1.2.1.2 i).2.1)])), .p (.seq true 1 p.2.1.1 (fun i => [.int .i64 (p.2.1.2 i)]))]] [] (.p (.bool false)),
  ((!false) = true),
  ((0 : Nat) = 0),
  ((0 : Nat) = 0),
  (false = false),
  ((2 : Nat) = 2),
  ((0 : Nat) ≤ 0),
  (∀ i : Nat, (((i : Nat) < 0) → (All [] ∧ (([.p .any, .p .any] : List AV) = [.p (.int .i64 0), .p (.int .i64 0)])))),
  (∀ i : Nat, (((i : Nat) < 0) → All []))] := by kernel_rfl
theorem rDf (p : T_Pinned) (n m : Nat) (h g : Nat → T_Bar) :
    pathOb Try.prog Try.f28 0 [.reg [oT, oT, oT], .reg [oT, ⟨true, (some ⟨[], [], 1, [], .p (.bool true)⟩), none⟩, oT], .dec false, .reg [oT, oT, oT, ⟨true, (some ⟨[], [], 1, [(0, brOb n h)], .ar 2 0 0 n⟩), none⟩, ⟨true, (some ⟨[], [], 1, [(0, brOb m g)], .ar 2 0 0 m⟩), none⟩, oT], .reg [oT, oT, ⟨true, (some ⟨[], [], 1, [], .p (.bool false)⟩), none⟩, oT], .dec true, .reg [oT, oT, oT]] [.code (bodyOf Try.f28)] (start Try.f28 [] 0 [pinA p]) [512] 1 [(0, brOb 0 (fun _ => (0, 0, ())))] (.tup [.ar 2 0 0 0, .p (.bool false)]) =
    some [((0 : Nat) < 1),
  Con Try.prog 46 0 [] [.agg [.p (.int .i64 p.1.1), .p (.seq true 2 p.1.2.1.1 (fun i => [.int .i64 ((p.1.2.1.2 i).1), .int .i64 ((p.1.2.1.2 i).2.1)])), .p (.seq true 1 p.2.1.1 (fun i => [.int .i64 (p.2.1.2 i)]))]] [] (.p (.bool true)),
  ((!true) = false),
  ((0 : Nat) < 1),
  ((0 : Nat) < 1),
  Con Try.prog 71 0 [] [.agg [.p (.int .i64 p.1.1), .p (.seq true 2 p.1.2.1.1 (fun i => [.int .i64 ((p.1.2.1.2 i).1), .int .i64 ((p.1.2.1.2 i).2.1)]))]] [(0, ⟨false, 2, n, (fun i => [.p (.int .i64 ((h i).1)), .p (.int .i64 ((h i).2.1))])⟩)] (.ar 2 0 0 n),
  ((2 : Nat) = 2),
  ((n : Nat) ≤ n),
  Con Try.prog 69 0 [] [.agg [.p (.int .i64 p.1.1), .p (.seq true 2 p.1.2.1.1 (fun i => [.int .i64 ((p.1.2.1.2 i).1), .int .i64 ((p.1.2.1.2 i).2.1)])), .p (.seq true 1 p.2.1.1 (fun i => [.int .i64 (p.2.1.2 i)]))], .p (.seq true 2 n (fun i => [.int .i64 ((h i).1), .int .i64 ((h i).2.1)]))] [(0, ⟨false, 2, m, (fun i => [.p (.int .i64 ((g i).1)), .p (.int .i64 ((g i).2.1))])⟩)] (.ar 2 0 0 m),
  ((0 : Nat) < 1),
  ((2 : Nat) = 2),
  ((m : Nat) ≤ m),
  Con Try.prog 24 0 [] [.agg [.p (.int .i64 p.1.1), .p (.seq true 2 p.1.2.1.1 (fun i => [.int .i64 ((p.1.2.1.2 i).1), .int .i64 ((p.1.2.1.2 i).2.1)])), .p (.seq true 1 p.2.1.1 (fun i => [.int .i64 (p.2.1.2 i)]))], .p (.seq true 2 m (fun i => [.int .i64 ((g i).1), .int .i64 ((g i).2.1)]))] [] (.p (.bool false)),
  ((!false) = true),
  ((0 : Nat) = 0),
  ((0 : Nat) = 0),
  (false = false),
  ((2 : Nat) = 2),
  ((0 : Nat) ≤ 0),
  (∀ i : Nat, (((i : Nat) < 0) → (All [] ∧ (([.p .any, .p .any] : List AV) = [.p (.int .i64 0), .p (.int .i64 0)])))),
  (∀ i : Nat, (((i : Nat) < 0) → All []))] := by kernel_rfl
theorem rDt (p : T_Pinned) (n m : Nat) (h g : Nat → T_Bar) :
    pathOb Try.prog Try.f28 0 [.reg [oT, oT, oT], .reg [oT, ⟨true, (some ⟨[], [], 1, [], .p (.bool true)⟩), none⟩, oT], .dec false, .reg [oT, oT, oT, ⟨true, (some ⟨[], [], 1, [(0, brOb n h)], .ar 2 0 0 n⟩), none⟩, ⟨true, (some ⟨[], [], 1, [(0, brOb m g)], .ar 2 0 0 m⟩), none⟩, oT], .reg [oT, oT, ⟨true, (some ⟨[], [], 1, [], .p (.bool true)⟩), none⟩, oT], .dec false, .reg [oT, oT, oT]] [.code (bodyOf Try.f28)] (start Try.f28 [] 0 [pinA p]) [320] 1 [(0, brOb m g)] (.tup [.ar 2 0 0 m, .p (.bool true)]) =
    some [((0 : Nat) < 1),
  Con Try.prog 46 0 [] [.agg [.p (.int .i64 p.1.1), .p (.seq true 2 p.1.2.1.1 (fun i => [.int .i64 ((p.1.2.1.2 i).1), .int .i64 ((p.1.2.1.2 i).2.1)])), .p (.seq true 1 p.2.1.1 (fun i => [.int .i64 (p.2.1.2 i)]))]] [] (.p (.bool true)),
  ((!true) = false),
  ((0 : Nat) < 1),
  ((0 : Nat) < 1),
  Con Try.prog 71 0 [] [.agg [.p (.int .i64 p.1.1), .p (.seq true 2 p.1.2.1.1 (fun i => [.int .i64 ((p.1.2.1.2 i).1), .int .i64 ((p.1.2.1.2 i).2.1)]))]] [(0, ⟨false, 2, n, (fun i => [.p (.int .i64 ((h i).1)), .p (.int .i64 ((h i).2.1))])⟩)] (.ar 2 0 0 n),
  ((2 : Nat) = 2),
  ((n : Nat) ≤ n),
  Con Try.prog 69 0 [] [.agg [.p (.int .i64 p.1.1), .p (.seq true 2 p.1.2.1.1 (fun i => [.int .i64 ((p.1.2.1.2 i).1), .int .i64 ((p.1.2.1.2 i).2.1)])), .p (.seq true 1 p.2.1.1 (fun i => [.int .i64 (p.2.1.2 i)]))], .p (.seq true 2 n (fun i => [.int .i64 ((h i).1), .int .i64 ((h i).2.1)]))] [(0, ⟨false, 2, m, (fun i => [.p (.int .i64 ((g i).1)), .p (.int .i64 ((g i).2.1))])⟩)] (.ar 2 0 0 m),
  ((0 : Nat) < 1),
  ((2 : Nat) = 2),
  ((m : Nat) ≤ m),
  Con Try.prog 24 0 [] [.agg [.p (.int .i64 p.1.1), .p (.seq true 2 p.1.2.1.1 (fun i => [.int .i64 ((p.1.2.1.2 i).1), .int .i64 ((p.1.2.1.2 i).2.1)])), .p (.seq true 1 p.2.1.1 (fun i => [.int .i64 (p.2.1.2 i)]))], .p (.seq true 2 m (fun i => [.int .i64 ((g i).1), .int .i64 ((g i).2.1)]))] [] (.p (.bool true)),
  ((!true) = false),
  ((0 : Nat) = 0),
  ((m : Nat) = m),
  (true = true),
  ((2 : Nat) = 2),
  ((m : Nat) ≤ m),
  (∀ i : Nat, (((i : Nat) < m) → (All [] ∧ (([.p (.int .i64 ((g i).1)), .p (.int .i64 ((g i).2.1))] : List AV) = [.p (.int .i64 ((g i).1)), .p (.int .i64 ((g i).2.1))])))),
  (∀ i : Nat, (((i : Nat) < m) → All []))] := by kernel_rfl
theorem cRn (p : T_Pinned) (l : T_BarS) (b : Bool) :
    pathOb Try.prog Try.f27 0 [.reg [oT, oT], .reg [oT, ⟨true, (some ⟨[], [], 1, [], .p (.bool b)⟩), none⟩, oT, oT, oT, oT, oT, oT], .dec true, .reg [oT]] [.code (bodyOf Try.f27)] (start Try.f27 [] 0 [pinA p, graphL l]) [] 1 [] (.p (.bool false)) =
    some [((0 : Nat) < 1),
  Con Try.prog 52 0 [] [.agg [.p (.int .i64 p.1.1), .p (.seq true 2 p.1.2.1.1 (fun i => [.int .i64 ((p.1.2.1.2 i).1), .int .i64 ((p.1.2.1.2 i).2.1)])), .p (.seq true 1 p.2.1.1 (fun i => [.int .i64 (p.2.1.2 i)]))]] [] (.p (.bool b)),
  (((!!b) = true) → ((!!b) = true)),
  (((!!b) = true) → ((!!b) = true)),
  (((!b) = false) → ((!!b) = true)),
  ((bif !b then true else decide ((↑l.1 : Int) > 24)) = true),
  (false = false)] := by kernel_rfl
theorem cRy (p q : T_Pinned) (l : T_BarS) (b : Bool) (m : Nat) (g : Nat → T_Bar) (r : Int) :
    pathOb Try.prog Try.f27 0 [.reg [oT, oT], .reg [oT, ⟨true, (some ⟨[], [], 1, [], .p (.bool b)⟩), none⟩, oT, oT, oT, oT, oT, oT], .dec false, .reg [oT, oT, ⟨true, (some ⟨[], [0], 1, [(0, brOb m g)], .tup [pinF q, .ar 2 0 0 m]⟩), none⟩, oT, oT, oT, oT, oT, oT], .reg [oT, oT, oT, ⟨true, (some ⟨[], [], 1, [], .p (.int .i64 r)⟩), none⟩, oT, oT]] [.code (bodyOf Try.f27)] (start Try.f27 [] 0 [pinA p, graphL l]) [] 1 [] (.p (.bool ((m : Int) == r))) =
    some [((0 : Nat) < 1),
  Con Try.prog 52 0 [] [.agg [.p (.int .i64 p.1.1), .p (.seq true 2 p.1.2.1.1 (fun i => [.int .i64 ((p.1.2.1.2 i).1), .int .i64 ((p.1.2.1.2 i).2.1)])), .p (.seq true 1 p.2.1.1 (fun i => [.int .i64 (p.2.1.2 i)]))]] [] (.p (.bool b)),
  (((!!b) = true) → ((!!b) = true)),
  (((!!b) = true) → ((!!b) = true)),
  (((!b) = false) → ((!!b) = true)),
  ((bif !b then true else decide ((↑l.1 : Int) > 24)) = false),
  ((0 : Nat) < 1),
  Con Try.prog 70 0 [] [.agg [.p (.int .i64 p.1.1), .p (.seq false 2 p.1.2.1.1 (fun i => [.int .i64 ((p.1.2.1.2 i).1), .int .i64 ((p.1.2.1.2 i).2.1)])), .p (.seq false 1 p.2.1.1 (fun i => [.int .i64 (p.2.1.2 i)]))], .p (.seq true 2 l.1 (fun i => [.int .i64 ((l.2 i).1), .int .i64 ((l.2 i).2.1)]))] [(0, ⟨false, 2, m, (fun i => [.p (.int .i64 ((g i).1)), .p (.int .i64 ((g i).2.1))])⟩)] (.tup [.agg [.p (.int .i64 q.1.1), .p (.seq false 2 q.1.2.1.1 (fun i => [.int .i64 ((q.1.2.1.2 i).1), .int .i64 ((q.1.2.1.2 i).2.1)])), .p (.seq false 1 q.2.1.1 (fun i => [.int .i64 (q.2.1.2 i)]))], .ar 2 0 0 m]),
  ((0 : Nat) < 1),
  ((true = true) → ((1 : Nat) = 1)),
  ((0 : Nat) < 1),
  Con Try.prog 54 0 [] [.agg [.p (.int .i64 p.1.1), .p (.seq true 2 p.1.2.1.1 (fun i => [.int .i64 ((p.1.2.1.2 i).1), .int .i64 ((p.1.2.1.2 i).2.1)])), .p (.seq true 1 p.2.1.1 (fun i => [.int .i64 (p.2.1.2 i)]))]] [] (.p (.int .i64 r)),
  (((↑m : Int) == r) = ((↑m : Int) == r))] := by kernel_rfl
theorem cSy (p : T_Pinned) (l : T_BarS) (m : Nat) (g : Nat → T_Bar) (r : Int) :
    pathOb Try.prog Try.f26 0 [.reg [oT, oT], .reg [oT, ⟨true, (some ⟨[], [], 1, [], .p (.bool true)⟩), none⟩, oT, ⟨true, none, some true⟩, ⟨true, none, some true⟩, ⟨true, none, some true⟩, ⟨true, none, some true⟩, oT, ⟨true, none, some true⟩, ⟨true, none, some true⟩, ⟨true, (some ⟨[], [], 1, [(0, brOb m g)], .ar 2 0 0 m⟩), some true⟩, ⟨true, none, some true⟩, ⟨true, none, some true⟩, ⟨true, (some ⟨[], [], 1, [], .p (.int .i64 r)⟩), some true⟩, ⟨true, none, some true⟩, ⟨true, none, some true⟩, oT]] [.code (bodyOf Try.f26)] (start Try.f26 [] 0 [pinA p, graphL l]) [] 1 [] (.p (.bool ((m : Int) == r))) =
    some [((0 : Nat) < 1),
  Con Try.prog 46 0 [] [.agg [.p (.int .i64 p.1.1), .p (.seq true 2 p.1.2.1.1 (fun i => [.int .i64 ((p.1.2.1.2 i).1), .int .i64 ((p.1.2.1.2 i).2.1)])), .p (.seq true 1 p.2.1.1 (fun i => [.int .i64 (p.2.1.2 i)]))]] [] (.p (.bool true)),
  (true = true),
  (true = true),
  (true = true),
  (true = true),
  ((decide ((↑l.1 : Int) ≤ 24)) = true),
  ((0 : Nat) < 1),
  ((decide ((↑l.1 : Int) ≤ 24)) = true),
  ((decide ((↑l.1 : Int) ≤ 24)) = true),
  Con Try.prog 69 0 [] [.agg [.p (.int .i64 p.1.1), .p (.seq true 2 p.1.2.1.1 (fun i => [.int .i64 ((p.1.2.1.2 i).1), .int .i64 ((p.1.2.1.2 i).2.1)])), .p (.seq true 1 p.2.1.1 (fun i => [.int .i64 (p.2.1.2 i)]))], .p (.seq true 2 l.1 (fun i => [.int .i64 ((l.2 i).1), .int .i64 ((l.2 i).2.1)]))] [(0, ⟨false, 2, m, (fun i => [.p (.int .i64 ((g i).1)), .p (.int .i64 ((g i).2.1))])⟩)] (.ar 2 0 0 m),
  ((decide ((↑l.1 : Int) ≤ 24)) = true),
  ((decide ((↑l.1 : Int) ≤ 24)) = true),
  ((0 : Nat) < 1),
  ((decide ((↑l.1 : Int) ≤ 24)) = true),
  Con Try.prog 48 0 [] [.agg [.p (.int .i64 p.1.1), .p (.seq true 2 p.1.2.1.1 (fun i => [.int .i64 ((p.1.2.1.2 i).1), .int .i64 ((p.1.2.1.2 i).2.1)])), .p (.seq true 1 p.2.1.1 (fun i => [.int .i64 (p.2.1.2 i)]))]] [] (.p (.int .i64 r)),
  ((decide ((↑l.1 : Int) ≤ 24)) = true),
  ((decide ((↑l.1 : Int) ≤ 24)) = true),
  (((↑m : Int) == r) = ((↑m : Int) == r))] := by kernel_rfl
theorem cSn (p : T_Pinned) (l : T_BarS) :
    pathOb Try.prog Try.f26 0 [.reg [oT, oT], .reg [oT, ⟨true, (some ⟨[], [], 1, [], .p (.bool false)⟩), none⟩, oT, ⟨true, none, some false⟩, ⟨true, none, some false⟩, ⟨true, none, some false⟩, ⟨true, none, some false⟩, oT, ⟨true, none, some false⟩, ⟨true, none, some false⟩, ⟨true, none, some false⟩, ⟨true, none, some false⟩, ⟨true, none, some false⟩, ⟨true, none, some false⟩, ⟨true, none, some false⟩, ⟨true, none, some false⟩, oT]] [.code (bodyOf Try.f26)] (start Try.f26 [] 0 [pinA p, graphL l]) [] 1 [] (.p (.bool false)) =
    some [((0 : Nat) < 1),
  Con Try.prog 46 0 [] [.agg [.p (.int .i64 p.1.1), .p (.seq true 2 p.1.2.1.1 (fun i => [.int .i64 ((p.1.2.1.2 i).1), .int .i64 ((p.1.2.1.2 i).2.1)])), .p (.seq true 1 p.2.1.1 (fun i => [.int .i64 (p.2.1.2 i)]))]] [] (.p (.bool false)),
  (false = false),
  (false = false),
  (false = false),
  (false = false),
  (false = false),
  (false = false),
  (false = false),
  (false = false),
  (false = false),
  (false = false),
  (false = false),
  (false = false),
  (false = false)] := by kernel_rfl
theorem cSm (p : T_Pinned) (l : T_BarS) :
    pathOb Try.prog Try.f26 0 [.reg [oT, oT], .reg [oT, ⟨true, (some ⟨[], [], 1, [], .p (.bool true)⟩), none⟩, oT, ⟨true, none, some true⟩, ⟨true, none, some true⟩, ⟨true, none, some true⟩, ⟨true, none, some true⟩, oT, ⟨true, none, some false⟩, ⟨true, none, some false⟩, ⟨true, none, some false⟩, ⟨true, none, some false⟩, ⟨true, none, some false⟩, ⟨true, none, some false⟩, ⟨true, none, some false⟩, ⟨true, none, some false⟩, oT]] [.code (bodyOf Try.f26)] (start Try.f26 [] 0 [pinA p, graphL l]) [] 1 [] (.p (.bool false)) =
    some [((0 : Nat) < 1),
  Con Try.prog 46 0 [] [.agg [.p (.int .i64 p.1.1), .p (.seq true 2 p.1.2.1.1 (fun i => [.int .i64 ((p.1.2.1.2 i).1), .int .i64 ((p.1.2.1.2 i).2.1)])), .p (.seq true 1 p.2.1.1 (fun i => [.int .i64 (p.2.1.2 i)]))]] [] (.p (.bool true)),
  (true = true),
  (true = true),
  (true = true),
  (true = true),
  ((decide ((↑l.1 : Int) ≤ 24)) = false),
  ((decide ((↑l.1 : Int) ≤ 24)) = false),
  ((decide ((↑l.1 : Int) ≤ 24)) = false),
  ((decide ((↑l.1 : Int) ≤ 24)) = false),
  ((decide ((↑l.1 : Int) ≤ 24)) = false),
  ((decide ((↑l.1 : Int) ≤ 24)) = false),
  ((decide ((↑l.1 : Int) ≤ 24)) = false),
  ((decide ((↑l.1 : Int) ≤ 24)) = false),
  (false = false)] := by kernel_rfl
theorem put_arg {f : Nat} {H' : Hp} {res : AV} (p : T_Pinned) (r : NB) (x : T_Bar) (h : Con Try.prog f 0 [] [pinA p, graphL (sn r x)] H' res) :
    Con Try.prog f 0 [] [pinA p, .p (.seq true 2 (0 + r.1 + 1) (fun i => [cellP true (if i < 0 + r.1 then [.p (.int .i64 (r.2 i).1), .p (.int .i64 (r.2 i).2.1)] else [.p (.int .i64 x.1), .p (.int .i64 x.2.1)]) 0,
      cellP true (if i < 0 + r.1 then [.p (.int .i64 (r.2 i).1), .p (.int .i64 (r.2 i).2.1)] else [.p (.int .i64 x.1), .p (.int .i64 x.2.1)]) 1]))] H' res := by
  have e : (.p (.seq true 2 (0 + r.1 + 1) (fun i => [cellP true (if i < 0 + r.1 then [.p (.int .i64 (r.2 i).1), .p (.int .i64 (r.2 i).2.1)] else [.p (.int .i64 x.1), .p (.int .i64 x.2.1)]) 0,
      cellP true (if i < 0 + r.1 then [.p (.int .i64 (r.2 i).1), .p (.int .i64 (r.2 i).2.1)] else [.p (.int .i64 x.1), .p (.int .i64 x.2.1)]) 1])) : AV) = graphL (sn r x) := by
    simp only [graphL, sn, Nat.zero_add]
    congr 2
    funext i
    by_cases h : i < r.1 <;> simp [h, snoc, cellP, tg, tru]
  rw [e]
  exact h
theorem con_l28From (p : T_Pinned) (hp : pinnedF p = true) (l : T_BarS) (hl : l.1 ≤ 1000000) :
    Con Try.prog 69 0 [] [pinA p, graphL l] [(0, brOb (adD p l.2 l.1).2.1 (adD p l.2 l.1).2.2)] (.ar 2 0 0 (adD p l.2 l.1).2.1) := by
  have c0 := con_PinnedRank_s p (sm_pinned hp)
  refine con_start Try.func69 rfl (by kernel_rfl) rfl (fun c hc => ?_)
  generalize hR : adD p l.2 l.1 = R
  have rp := prG_in p
  have lo : ∀ d k, k + d = l.1 → Run Try.prog c 69 [.code (cAt (bodyOf Try.f69) [1, 1, 1, 0, 1, 0, 0]), .inLoop (cAt (bodyOf Try.f69) [1, 1, 1, 0, 1, 0, 0]), .inBlock 0, .code (cAt (bodyOf Try.f69) [1, 1, 1, 1])] (SLf p l (prG p) k (adD p l.2 k).2.1 (adD p l.2 k).2.2) (Post c [(0, brOb R.2.1 R.2.2)] (.ar 2 0 0 R.2.1)) := by
    intro d
    induction d with
    | zero =>
      intro k hk
      obtain rfl : k = l.1 := by omega
      have hd : decide ((l.1 : Int) < (l.1 : Int)) = false := by simp
      rw [hR]
      refine path_ok mixed Try.func69 hc (dLe p l (prG p) l.1 R.2.1 R.2.2) ?_
      simp only [All]
      repeat' (first | exact trivial | with_reducible apply And.intro)
      all_goals (first | omega | rfl | (intros; first | assumption | exact True.intro | rfl | exact absurd (show false = true by assumption) Bool.false_ne_true | ((repeat' (first | assumption | apply anda | apply notf)); done)) | (exact hd) | (intro t ht; simp [All]))
    | succ d ih =>
      intro k hk
      have hd : decide ((k : Int) < (l.1 : Int)) = true := decide_eq_true (by omega)
      have hrec := ih (k + 1) (by omega)
      have hn := adD_n p l.2 k
      have hok := adD_ok p hp l.2 k
      have hsd : adD p l.2 (k + 1) = if adT (adD p l.2 k).1 (l.2 k) = true then (nxP (adD p l.2 k).1 (l.2 k), sn (adD p l.2 k).2 (l.2 k)) else adD p l.2 k := rfl
      generalize adD p l.2 k = q at hn hok hsd ⊢
      have hA := ad_arB hp hok (l.2 k)
      have ca := con_ApplyRepair_s p (sm_pinned hp) (sn q.2 (l.2 k)) (by show q.2.1 + 1 ≤ 1048576; omega)
      have hgd : (bif arB p (sn q.2 (l.2 k)) then prG (arP p (sn q.2 (l.2 k))) == prG p + (q.2.1 : Int) + 1 else false) = adT q.1 (l.2 k) := by
        unfold adT
        rw [← hA.1]
        cases hb : arB p (sn q.2 (l.2 k)) with
        | false => simp only [cond_false]
        | true => rw [hA.2 hb, hok.rk]
      have c3 := con_PinnedRank_s (arP p (sn q.2 (l.2 k))) (sm_arP p _)
      generalize arP p (sn q.2 (l.2 k)) = u at ca hgd c3
      generalize arB p (sn q.2 (l.2 k)) = b at ca hgd
      cases ht : adT q.1 (l.2 k) with
      | true =>
        rw [ht, if_pos rfl] at hsd
        rw [hsd] at hrec
        rw [ht] at hgd
        refine piece_ok mixed hc (dLt p u l k q.2.1 q.2.2 b (prG p) (prG u)) ?_ hrec
        simp only [All]
        repeat' (first | exact trivial | with_reducible apply And.intro)
        all_goals (first | omega | rfl | (intros; first | assumption | exact True.intro | rfl | exact absurd (show false = true by assumption) Bool.false_ne_true | ((repeat' (first | assumption | apply anda | apply notf)); done)) | (exact hd) | (intros; exact c3) | (exact hgd) | (exact put_arg p q.2 (l.2 k) ca) | (intro t ht; by_cases h' : t < q.2.1 <;> simp [h', snoc, cvtL, cvt, tg, tru, All]) | (intros; simp; omega))
      | false =>
        rw [ht, if_neg (by simp)] at hsd
        rw [hsd] at hrec
        rw [ht] at hgd
        refine piece_ok mixed hc (dLf p u l k q.2.1 q.2.2 b (prG p) (prG u)) ?_ hrec
        simp only [All]
        repeat' (first | exact trivial | with_reducible apply And.intro)
        all_goals (first | omega | rfl | (intros; first | assumption | exact True.intro | rfl | exact absurd (show false = true by assumption) Bool.false_ne_true | ((repeat' (first | assumption | apply anda | apply notf)); done)) | (exact hd) | (intros; exact c3) | (exact hgd) | (exact put_arg p q.2 (l.2 k) ca) | (intro t ht; simp [All]) | (intros; simp; omega))
  refine piece_ok mixed hc (dLz p l (prG p)) ?_ (lo l.1 0 (by omega))
  simp only [All]
  repeat' (first | exact trivial | with_reducible apply And.intro)
  all_goals (first | omega | rfl | (intros; first | assumption | exact True.intro | rfl | exact absurd (show false = true by assumption) Bool.false_ne_true | ((repeat' (first | assumption | apply anda | apply notf)); done)) | (exact c0) | (intro t ht; exact absurd ht (Nat.not_lt_zero _)) | (intro t ht; simp [All]))
noncomputable def rpD (p : T_Pinned) : T_Pinned × NB := adD p (msP p.1).2 (msP p.1).1
noncomputable def rbB (p : T_Pinned) : Bool := bif pinnedF p then rgB (rpD p).1 else false
noncomputable def rbL (p : T_Pinned) : NB := if rbB p = true then (rpD p).2 else zNB
theorem rbL_n (p : T_Pinned) : (rbL p).1 ≤ 64 := by
  unfold rbL
  split
  · have := adD_n p (msP p.1).2 (msP p.1).1
    have := msP_n p.1
    unfold rpD; omega
  · exact Nat.zero_le _
theorem con_RepairBars_i (p : T_Pinned) (hs : smS s_Pinned p) : Con Try.prog 29 0 [] [pinA p] [(0, brOb (rbL p).1 (rbL p).2)] (.tup [.ar 2 0 0 (rbL p).1, .p (.bool (rbB p))]) := by
  have c1 := con_IsPinned_i p hs
  refine con_start Try.func29 rfl (by kernel_rfl) rfl (fun c hc => ?_)
  cases hp : pinnedF p with
  | false =>
    rw [hp] at c1
    have hb : rbB p = false := by simp [rbB, hp]
    rw [hb, show rbL p = zNB by simp [rbL, hb]]
    refine path_ok mixed Try.func29 hc (rBn p) ?_
    simp only [All]
    repeat' (first | exact trivial | with_reducible apply And.intro)
    all_goals (first | omega | rfl | (intros; first | assumption | exact True.intro | rfl | exact absurd (show false = true by assumption) Bool.false_ne_true | ((repeat' (first | assumption | apply anda | apply notf)); done)) | (exact c1) | (intro t ht; exact absurd ht (Nat.not_lt_zero _)) | (intro t ht; simp [All]))
  | true =>
    rw [hp] at c1
    have cm := con_Missing_i p.1 (sm_graph hs.1.2.1.1)
    have hmn := msP_n p.1
    have ca := con_added p hp (msP p.1) (by omega)
    have hok := adD_ok p hp (msP p.1).2 (msP p.1).1
    have cg := con_IsPinnedRigid_i (adD p (msP p.1).2 (msP p.1).1).1 (sm_pinned hok.pin)
    have hb : rbB p = rgB (adD p (msP p.1).2 (msP p.1).1).1 := by simp [rbB, hp, rpD]
    have hL : rbL p = if rbB p = true then (adD p (msP p.1).2 (msP p.1).1).2 else zNB := rfl
    rw [hL, hb]
    have hn := adD_n p (msP p.1).2 (msP p.1).1
    generalize adD p (msP p.1).2 (msP p.1).1 = q at ca cg hn ⊢
    generalize msP p.1 = m at cm ca hmn hn
    cases hr : rgB q.1 with
    | false =>
      rw [hr] at cg
      simp only [Bool.false_eq_true, if_false]
      refine path_ok mixed Try.func29 hc (rBf p q.1 m.1 q.2.1 m.2 q.2.2) ?_
      simp only [All]
      repeat' (first | exact trivial | with_reducible apply And.intro)
      all_goals (first | omega | rfl | (intros; first | assumption | exact True.intro | rfl | exact absurd (show false = true by assumption) Bool.false_ne_true | ((repeat' (first | assumption | apply anda | apply notf)); done)) | (exact c1) | (exact cm) | (exact ca) | (exact cg) | (intro t ht; exact absurd ht (Nat.not_lt_zero _)) | (intro t ht; simp [All]))
    | true =>
      rw [hr] at cg
      simp only [if_true]
      refine path_ok mixed Try.func29 hc (rBt p q.1 m.1 q.2.1 m.2 q.2.2) ?_
      simp only [All]
      repeat' (first | exact trivial | with_reducible apply And.intro)
      all_goals (first | omega | rfl | (intros; first | assumption | exact True.intro | rfl | exact absurd (show false = true by assumption) Bool.false_ne_true | ((repeat' (first | assumption | apply anda | apply notf)); done)) | (exact c1) | (exact cm) | (exact ca) | (exact cg) | (intro t ht; simp [All]))
theorem con_RepairBars_s (p : T_Pinned) (hs : smS s_Pinned p) : Con Try.prog 28 0 [] [pinA p] [(0, brOb (rbL p).1 (rbL p).2)] (.tup [.ar 2 0 0 (rbL p).1, .p (.bool (rbB p))]) := by
  have c1 := con_IsPinned_s p hs
  refine con_start Try.func28 rfl (by kernel_rfl) rfl (fun c hc => ?_)
  cases hp : pinnedF p with
  | false =>
    rw [hp] at c1
    have hb : rbB p = false := by simp [rbB, hp]
    rw [hb, show rbL p = zNB by simp [rbL, hb]]
    refine path_ok mixed Try.func28 hc (rDn p) ?_
    simp only [All]
    repeat' (first | exact trivial | with_reducible apply And.intro)
    all_goals (first | omega | rfl | (intros; first | assumption | exact True.intro | rfl | exact absurd (show false = true by assumption) Bool.false_ne_true | ((repeat' (first | assumption | apply anda | apply notf)); done)) | (exact c1) | (intro t ht; exact absurd ht (Nat.not_lt_zero _)) | (intro t ht; simp [All]))
  | true =>
    rw [hp] at c1
    have cm := con_Missing_s p.1 (sm_graph hs.1.2.1.1)
    have hmn := msP_n p.1
    have ca := con_l28From p hp (msP p.1) (by omega)
    have hok := adD_ok p hp (msP p.1).2 (msP p.1).1
    have hd := ad_arD hp hok
    have hn := adD_n p (msP p.1).2 (msP p.1).1
    have cg := con_IsRepair_s p hs (adD p (msP p.1).2 (msP p.1).1).2 (by omega)
    have hi : irB p (adD p (msP p.1).2 (msP p.1).1).2 = rgB (adD p (msP p.1).2 (msP p.1).1).1 := by simp only [irB, hd.1, hd.2, cond_true]
    rw [hi] at cg
    have hb : rbB p = rgB (adD p (msP p.1).2 (msP p.1).1).1 := by simp [rbB, hp, rpD]
    have hL : rbL p = if rbB p = true then (adD p (msP p.1).2 (msP p.1).1).2 else zNB := rfl
    rw [hL, hb]
    generalize adD p (msP p.1).2 (msP p.1).1 = q at ca cg hn ⊢
    generalize msP p.1 = m at cm ca hmn hn
    cases hr : rgB q.1 with
    | false =>
      rw [hr] at cg
      simp only [Bool.false_eq_true, if_false]
      refine path_ok mixed Try.func28 hc (rDf p m.1 q.2.1 m.2 q.2.2) ?_
      simp only [All]
      repeat' (first | exact trivial | with_reducible apply And.intro)
      all_goals (first | omega | rfl | (intros; first | assumption | exact True.intro | rfl | exact absurd (show false = true by assumption) Bool.false_ne_true | ((repeat' (first | assumption | apply anda | apply notf)); done)) | (exact c1) | (exact cm) | (exact ca) | (exact cg) | (intro t ht; exact absurd ht (Nat.not_lt_zero _)) | (intro t ht; simp [All]))
    | true =>
      rw [hr] at cg
      simp only [if_true]
      refine path_ok mixed Try.func28 hc (rDt p m.1 q.2.1 m.2 q.2.2) ?_
      simp only [All]
      repeat' (first | exact trivial | with_reducible apply And.intro)
      all_goals (first | omega | rfl | (intros; first | assumption | exact True.intro | rfl | exact absurd (show false = true by assumption) Bool.false_ne_true | ((repeat' (first | assumption | apply anda | apply notf)); done)) | (exact c1) | (exact cm) | (exact ca) | (exact cg) | (intro t ht; simp [All]))
noncomputable def crB (p : T_Pinned) (l : T_BarS) : Bool := bif bif pinnedF p then decide ((l.1 : Int) ≤ 24) else false then ((adD p l.2 l.1).2.1 : Int) == frG p else false
theorem con_CanRepair_i (p : T_Pinned) (hs : smS s_Pinned p) (l : T_BarS) (hl : l.1 ≤ 1048576) : Con Try.prog 27 0 [] [pinA p, graphL l] [] (.p (.bool (crB p l))) := by
  have c1 := con_IsPinned_i p hs
  have cf := con_PinnedFreedom_i p hs
  refine con_start Try.func27 rfl (by kernel_rfl) rfl (fun c hc => ?_)
  by_cases h : pinnedF p = true ∧ (l.1 : Int) ≤ 24
  · have hd : (bif !pinnedF p then true else decide ((l.1 : Int) > 24)) = false := by
      rw [h.1]; exact decide_eq_false (by omega)
    have ca := con_added p h.1 l hl
    have hb : crB p l = (((adD p l.2 l.1).2.1 : Int) == frG p) := by
      unfold crB
      rw [h.1, decide_eq_true h.2]; rfl
    rw [hb]
    refine path_ok mixed Try.func27 hc (cRy p (adD p l.2 l.1).1 l (pinnedF p) (adD p l.2 l.1).2.1 (adD p l.2 l.1).2.2 (frG p)) ?_
    simp only [All]
    repeat' (first | exact trivial | with_reducible apply And.intro)
    all_goals (first | omega | rfl | (intros; first | assumption | exact True.intro | rfl | exact absurd (show false = true by assumption) Bool.false_ne_true | ((repeat' (first | assumption | apply anda | apply notf)); done)) | (exact c1) | (exact hd) | (exact ca) | (exact cf))
  · have hd : (bif !pinnedF p then true else decide ((l.1 : Int) > 24)) = true := by
      cases hp : pinnedF p with
      | false => rfl
      | true => exact decide_eq_true (by have : ¬ (l.1 : Int) ≤ 24 := fun h' => h ⟨hp, h'⟩; omega)
    have hb : crB p l = false := by
      unfold crB
      cases hp : pinnedF p with
      | false => rfl
      | true =>
        have : ¬ (l.1 : Int) ≤ 24 := fun h' => h ⟨hp, h'⟩
        rw [decide_eq_false this]; rfl
    rw [hb]
    refine path_ok mixed Try.func27 hc (cRn p l (pinnedF p)) ?_
    simp only [All]
    repeat' (first | exact trivial | with_reducible apply And.intro)
    all_goals (first | omega | rfl | (intros; first | assumption | exact True.intro | rfl | exact absurd (show false = true by assumption) Bool.false_ne_true | ((repeat' (first | assumption | apply anda | apply notf)); done)) | (exact c1) | (exact hd))
theorem con_CanRepair_s (p : T_Pinned) (hs : smS s_Pinned p) (l : T_BarS) (hl : l.1 ≤ 1048576) : Con Try.prog 26 0 [] [pinA p, graphL l] [] (.p (.bool (crB p l))) := by
  have c1 := con_IsPinned_s p hs
  have cf := con_PinnedFreedom_s p hs
  refine con_start Try.func26 rfl (by kernel_rfl) rfl (fun c hc => ?_)
  cases hp : pinnedF p with
  | false =>
    rw [hp] at c1
    rw [show crB p l = false by simp [crB, hp]]
    refine path_ok mixed Try.func26 hc (cSn p l) ?_
    simp only [All]
    repeat' (first | exact trivial | with_reducible apply And.intro)
    all_goals (first | omega | rfl | (intros; first | assumption | exact True.intro | rfl | exact absurd (show false = true by assumption) Bool.false_ne_true | ((repeat' (first | assumption | apply anda | apply notf)); done)) | (exact c1))
  | true =>
    rw [hp] at c1
    by_cases h : (l.1 : Int) ≤ 24
    · have hd := decide_eq_true h
      have ca := con_l28From p hp l (by omega)
      rw [show crB p l = (((adD p l.2 l.1).2.1 : Int) == frG p) by simp only [crB, hp, hd, cond_true]]
      refine path_ok mixed Try.func26 hc (cSy p l (adD p l.2 l.1).2.1 (adD p l.2 l.1).2.2 (frG p)) ?_
      simp only [All]
      repeat' (first | exact trivial | with_reducible apply And.intro)
      all_goals (first | omega | rfl | (intros; first | assumption | exact True.intro | rfl | exact absurd (show false = true by assumption) Bool.false_ne_true | ((repeat' (first | assumption | apply anda | apply notf)); done)) | (exact c1) | (exact hd) | (exact ca) | (exact cf))
    · have hd := decide_eq_false h
      rw [show crB p l = false by simp only [crB, hp, hd, cond_true, cond_false]]
      refine path_ok mixed Try.func26 hc (cSm p l) ?_
      simp only [All]
      repeat' (first | exact trivial | with_reducible apply And.intro)
      all_goals (first | omega | rfl | (intros; first | assumption | exact True.intro | rfl | exact absurd (show false = true by assumption) Bool.false_ne_true | ((repeat' (first | assumption | apply anda | apply notf)); done)) | (exact c1) | (exact hd))
end Go.Proofs.Ytgdbnnmogddkaaa.Mach
namespace Go.Proofs.Ytgdbnnmogddkaaa.Mach
open Go
set_option linter.unusedVariables false
set_option linter.unusedSimpArgs false
theorem p_FnExactCanRepair_0 (v0 : T_Pinned) (v1 : T_BarS) :
    pathOb Try.prog Try.f6 0 [.reg [oT, oT], .reg [oT], .reg [oT, oT, ⟨true, (some ⟨[], [], 1, [], .p (.int .i64 (f_szPinned v0 1048576))⟩), none⟩, oT], .reg [oT, oT], .dec true, .reg [oT]] [.code (bodyOf Try.f6)] (start Try.f6 [] 0 [.agg [.p (.int .i64 v0.1.1), .p (.seq true 2 v0.1.2.1.1 (fun i => [.int .i64 ((v0.1.2.1.2 i).1), .int .i64 ((v0.1.2.1.2 i).2.1)])), .p (.seq true 1 v0.2.1.1 (fun i => [.int .i64 (v0.2.1.2 i)]))], .p (.seq true 2 v1.1 (fun i => [.int .i64 ((v1.2 i).1), .int .i64 ((v1.2 i).2.1)]))]) [] 1 [] (.p (.bool true)) =
    some [((0 : Nat) < 1),
  Con Try.prog 11 0 [] [.agg [.p (.int .i64 v0.1.1), .p (.seq true 2 v0.1.2.1.1 (fun i => [.int .i64 ((v0.1.2.1.2 i).1), .int .i64 ((v0.1.2.1.2 i).2.1)])), .p (.seq true 1 v0.2.1.1 (fun i => [.int .i64 (v0.2.1.2 i)]))], .p (.int .i64 1048576)] [] (.p (.int .i64 (f_szPinned v0 1048576))),
  ((decide (f_szPinned v0 1048576 < 0)) = true),
  (true = true)] := by kernel_rfl
theorem p_FnExactCanRepair_1 (v0 : T_Pinned) (v1 : T_BarS) :
    pathOb Try.prog Try.f6 0 [.reg [oT, oT], .reg [oT], .reg [oT, oT, ⟨true, (some ⟨[], [], 1, [], .p (.int .i64 (f_szPinned v0 1048576))⟩), none⟩, oT], .reg [oT, oT], .dec false, .reg [oT, oT, ⟨true, (some ⟨[], [], 1, [], .p (.int .i64 (f_szBarS v1 (f_szPinned v0 1048576)))⟩), none⟩, oT], .reg [oT, oT], .dec true, .reg [oT]] [.code (bodyOf Try.f6)] (start Try.f6 [] 0 [.agg [.p (.int .i64 v0.1.1), .p (.seq true 2 v0.1.2.1.1 (fun i => [.int .i64 ((v0.1.2.1.2 i).1), .int .i64 ((v0.1.2.1.2 i).2.1)])), .p (.seq true 1 v0.2.1.1 (fun i => [.int .i64 (v0.2.1.2 i)]))], .p (.seq true 2 v1.1 (fun i => [.int .i64 ((v1.2 i).1), .int .i64 ((v1.2 i).2.1)]))]) [] 1 [] (.p (.bool true)) =
    some [((0 : Nat) < 1),
  Con Try.prog 11 0 [] [.agg [.p (.int .i64 v0.1.1), .p (.seq true 2 v0.1.2.1.1 (fun i => [.int .i64 ((v0.1.2.1.2 i).1), .int .i64 ((v0.1.2.1.2 i).2.1)])), .p (.seq true 1 v0.2.1.1 (fun i => [.int .i64 (v0.2.1.2 i)]))], .p (.int .i64 1048576)] [] (.p (.int .i64 (f_szPinned v0 1048576))),
  ((decide (f_szPinned v0 1048576 < 0)) = false),
  Con Try.prog 16 0 [] [.p (.seq true 2 v1.1 (fun i => [.int .i64 ((v1.2 i).1), .int .i64 ((v1.2 i).2.1)])), .p (.int .i64 (f_szPinned v0 1048576))] [] (.p (.int .i64 (f_szBarS v1 (f_szPinned v0 1048576)))),
  ((decide (f_szBarS v1 (f_szPinned v0 1048576) < 0)) = true),
  (true = true)] := by kernel_rfl
theorem p_FnExactCanRepair_e (v0 : T_Pinned) (v1 : T_BarS) :
    pathOb Try.prog Try.f6 0 [.reg [oT, oT], .reg [oT], .reg [oT, oT, ⟨true, (some ⟨[], [], 1, [], .p (.int .i64 (f_szPinned v0 1048576))⟩), none⟩, oT], .reg [oT, oT], .dec false, .reg [oT, oT, ⟨true, (some ⟨[], [], 1, [], .p (.int .i64 (f_szBarS v1 (f_szPinned v0 1048576)))⟩), none⟩, oT], .reg [oT, oT], .dec false, .reg [oT, ⟨true, (some ⟨[], [], 1, [(0, ⟨false, 2, v0.1.2.1.1, fun i => [.p (.int .i64 ((v0.1.2.1.2 i).1)), .p (.int .i64 ((v0.1.2.1.2 i).2.1))]⟩), (1, ⟨false, 1, v0.2.1.1, fun i => [.p (.int .i64 (v0.2.1.2 i))]⟩)], .agg [.p (.int .i64 v0.1.1), .ar 2 0 0 v0.1.2.1.1, .ar 1 1 0 v0.2.1.1]⟩), none⟩, oT, ⟨true, (some ⟨[], [], 1, [(0, ⟨false, 2, v1.1, fun i => [.p (.int .i64 ((v1.2 i).1)), .p (.int .i64 ((v1.2 i).2.1))]⟩)], .ar 2 0 0 v1.1⟩), none⟩, ⟨true, (some ⟨[], [], 1, [], .p (.bool (crB v0 v1))⟩), none⟩, oT], .reg [oT, ⟨true, (some ⟨[], [], 1, [(0, ⟨false, 2, v0.1.2.1.1, fun i => [.p (.int .i64 ((v0.1.2.1.2 i).1)), .p (.int .i64 ((v0.1.2.1.2 i).2.1))]⟩), (1, ⟨false, 1, v0.2.1.1, fun i => [.p (.int .i64 (v0.2.1.2 i))]⟩)], .agg [.p (.int .i64 v0.1.1), .ar 2 0 0 v0.1.2.1.1, .ar 1 1 0 v0.2.1.1]⟩), none⟩, oT, oT], .reg [oT, ⟨true, (some ⟨[], [], 1, [(0, ⟨false, 2, v1.1, fun i => [.p (.int .i64 ((v1.2 i).1)), .p (.int .i64 ((v1.2 i).2.1))]⟩)], .ar 2 0 0 v1.1⟩), none⟩, oT], .reg [oT, oT, ⟨true, (some ⟨[], [], 1, [], .p (.bool (crB v0 v1))⟩), none⟩, oT], .reg [oT, oT, oT], .dec false, .reg [oT, oT, ⟨true, (some ⟨[], [], 1, [(0, ⟨false, 2, v0.1.2.1.1, fun i => [.p (.int .i64 ((v0.1.2.1.2 i).1)), .p (.int .i64 ((v0.1.2.1.2 i).2.1))]⟩), (1, ⟨false, 1, v0.2.1.1, fun i => [.p (.int .i64 (v0.2.1.2 i))]⟩)], .agg [.p (.int .i64 v0.1.1), .ar 2 0 0 v0.1.2.1.1, .ar 1 1 0 v0.2.1.1]⟩), none⟩, ⟨true, (some ⟨[], [], 1, [], .p (.bool true)⟩), none⟩, oT], .dec false, .reg [oT, oT, ⟨true, (some ⟨[], [], 1, [(0, ⟨false, 2, v1.1, fun i => [.p (.int .i64 ((v1.2 i).1)), .p (.int .i64 ((v1.2 i).2.1))]⟩)], .ar 2 0 0 v1.1⟩), none⟩, ⟨true, (some ⟨[], [], 1, [], .p (.bool true)⟩), none⟩, oT], .dec false, .reg [oT]] [.code (bodyOf Try.f6)] (start Try.f6 [] 0 [.agg [.p (.int .i64 v0.1.1), .p (.seq true 2 v0.1.2.1.1 (fun i => [.int .i64 ((v0.1.2.1.2 i).1), .int .i64 ((v0.1.2.1.2 i).2.1)])), .p (.seq true 1 v0.2.1.1 (fun i => [.int .i64 (v0.2.1.2 i)]))], .p (.seq true 2 v1.1 (fun i => [.int .i64 ((v1.2 i).1), .int .i64 ((v1.2 i).2.1)]))]) [] 1 [] (.p (.bool true)) =
    some [((0 : Nat) < 1),
  Con Try.prog 11 0 [] [.agg [.p (.int .i64 v0.1.1), .p (.seq true 2 v0.1.2.1.1 (fun i => [.int .i64 ((v0.1.2.1.2 i).1), .int .i64 ((v0.1.2.1.2 i).2.1)])), .p (.seq true 1 v0.2.1.1 (fun i => [.int .i64 (v0.2.1.2 i)]))], .p (.int .i64 1048576)] [] (.p (.int .i64 (f_szPinned v0 1048576))),
  ((decide (f_szPinned v0 1048576 < 0)) = false),
  Con Try.prog 16 0 [] [.p (.seq true 2 v1.1 (fun i => [.int .i64 ((v1.2 i).1), .int .i64 ((v1.2 i).2.1)])), .p (.int .i64 (f_szPinned v0 1048576))] [] (.p (.int .i64 (f_szBarS v1 (f_szPinned v0 1048576)))),
  ((decide (f_szBarS v1 (f_szPinned v0 1048576) < 0)) = false),
  ((0 : Nat) < 1),
  Con Try.prog 13 0 [] [.agg [.p (.int .i64 v0.1.1), .p (.seq true 2 v0.1.2.1.1 (fun i => [.int .i64 ((v0.1.2.1.2 i).1), .int .i64 ((v0.1.2.1.2 i).2.1)])), .p (.seq true 1 v0.2.1.1 (fun i => [.int .i64 (v0.2.1.2 i)]))]] [(0, ⟨false, 2, v0.1.2.1.1, (fun i => [.p (.int .i64 ((v0.1.2.1.2 i).1)), .p (.int .i64 ((v0.1.2.1.2 i).2.1))])⟩), (1, ⟨false, 1, v0.2.1.1, (fun i => [.p (.int .i64 (v0.2.1.2 i))])⟩)] (.agg [.p (.int .i64 v0.1.1), .ar 2 0 0 v0.1.2.1.1, .ar 1 1 0 v0.2.1.1]),
  Con Try.prog 18 0 [] [.p (.seq true 2 v1.1 (fun i => [.int .i64 ((v1.2 i).1), .int .i64 ((v1.2 i).2.1)]))] [(0, ⟨false, 2, v1.1, (fun i => [.p (.int .i64 ((v1.2 i).1)), .p (.int .i64 ((v1.2 i).2.1))])⟩)] (.ar 2 0 0 v1.1),
  ((2 : Nat) = 2),
  ((v0.1.2.1.1 : Nat) ≤ v0.1.2.1.1),
  ((1 : Nat) = 1),
  ((v0.2.1.1 : Nat) ≤ v0.2.1.1),
  ((2 : Nat) = 2),
  ((v1.1 : Nat) ≤ v1.1),
  Con Try.prog 26 0 [] [.agg [.p (.int .i64 v0.1.1), .p (.seq true 2 v0.1.2.1.1 (fun i => [.int .i64 ((v0.1.2.1.2 i).1), .int .i64 ((v0.1.2.1.2 i).2.1)])), .p (.seq true 1 v0.2.1.1 (fun i => [.int .i64 (v0.2.1.2 i)]))], .p (.seq true 2 v1.1 (fun i => [.int .i64 ((v1.2 i).1), .int .i64 ((v1.2 i).2.1)]))] [] (.p (.bool (crB v0 v1))),
  ((0 : Nat) < 1),
  Con Try.prog 13 0 [] [.agg [.p (.int .i64 v0.1.1), .p (.seq true 2 v0.1.2.1.1 (fun i => [.int .i64 ((v0.1.2.1.2 i).1), .int .i64 ((v0.1.2.1.2 i).2.1)])), .p (.seq true 1 v0.2.1.1 (fun i => [.int .i64 (v0.2.1.2 i)]))]] [(0, ⟨false, 2, v0.1.2.1.1, (fun i => [.p (.int .i64 ((v0.1.2.1.2 i).1)), .p (.int .i64 ((v0.1.2.1.2 i).2.1))])⟩), (1, ⟨false, 1, v0.2.1.1, (fun i => [.p (.int .i64 (v0.2.1.2 i))])⟩)] (.agg [.p (.int .i64 v0.1.1), .ar 2 0 0 v0.1.2.1.1, .ar 1 1 0 v0.2.1.1]),
  ((0 : Nat) < 1),
  ((true = true) → ((1 : Nat) = 1)),
  Con Try.prog 18 0 [] [.p (.seq true 2 v1.1 (fun i => [.int .i64 ((v1.2 i).1), .int .i64 ((v1.2 i).2.1)]))] [(0, ⟨false, 2, v1.1, (fun i => [.p (.int .i64 ((v1.2 i).1)), .p (.int .i64 ((v1.2 i).2.1))])⟩)] (.ar 2 0 0 v1.1),
  ((0 : Nat) < 1),
  ((2 : Nat) = 2),
  ((v0.1.2.1.1 : Nat) ≤ v0.1.2.1.1),
  ((1 : Nat) = 1),
  ((v0.2.1.1 : Nat) ≤ v0.2.1.1),
  ((2 : Nat) = 2),
  ((v1.1 : Nat) ≤ v1.1),
  Con Try.prog 27 0 [] [.agg [.p (.int .i64 v0.1.1), .p (.seq true 2 v0.1.2.1.1 (fun i => [.int .i64 ((v0.1.2.1.2 i).1), .int .i64 ((v0.1.2.1.2 i).2.1)])), .p (.seq true 1 v0.2.1.1 (fun i => [.int .i64 (v0.2.1.2 i)]))], .p (.seq true 2 v1.1 (fun i => [.int .i64 ((v1.2 i).1), .int .i64 ((v1.2 i).2.1)]))] [] (.p (.bool (crB v0 v1))),
  ((!crB v0 v1 == crB v0 v1) = false),
  ((0 : Nat) < 1),
  ((0 : Nat) < 1),
  Con Try.prog 13 0 [] [.agg [.p (.int .i64 v0.1.1), .p (.seq true 2 v0.1.2.1.1 (fun i => [.int .i64 ((v0.1.2.1.2 i).1), .int .i64 ((v0.1.2.1.2 i).2.1)])), .p (.seq true 1 v0.2.1.1 (fun i => [.int .i64 (v0.2.1.2 i)]))]] [(0, ⟨false, 2, v0.1.2.1.1, (fun i => [.p (.int .i64 ((v0.1.2.1.2 i).1)), .p (.int .i64 ((v0.1.2.1.2 i).2.1))])⟩), (1, ⟨false, 1, v0.2.1.1, (fun i => [.p (.int .i64 (v0.2.1.2 i))])⟩)] (.agg [.p (.int .i64 v0.1.1), .ar 2 0 0 v0.1.2.1.1, .ar 1 1 0 v0.2.1.1]),
  ((2 : Nat) = 2),
  ((v0.1.2.1.1 : Nat) ≤ v0.1.2.1.1),
  ((1 : Nat) = 1),
  ((v0.2.1.1 : Nat) ≤ v0.2.1.1),
  ((2 : Nat) = 2),
  ((v0.1.2.1.1 : Nat) ≤ v0.1.2.1.1),
  ((1 : Nat) = 1),
  ((v0.2.1.1 : Nat) ≤ v0.2.1.1),
  Con Try.prog 15 0 [] [.agg [.p (.int .i64 v0.1.1), .p (.seq true 2 v0.1.2.1.1 (fun i => [.int .i64 ((v0.1.2.1.2 i).1), .int .i64 ((v0.1.2.1.2 i).2.1)])), .p (.seq true 1 v0.2.1.1 (fun i => [.int .i64 (v0.2.1.2 i)]))], .agg [.p (.int .i64 v0.1.1), .p (.seq true 2 v0.1.2.1.1 (fun i => [.int .i64 ((v0.1.2.1.2 i).1), .int .i64 ((v0.1.2.1.2 i).2.1)])), .p (.seq true 1 v0.2.1.1 (fun i => [.int .i64 (v0.2.1.2 i)]))]] [] (.p (.bool true)),
  ((!true) = false),
  Con Try.prog 18 0 [] [.p (.seq true 2 v1.1 (fun i => [.int .i64 ((v1.2 i).1), .int .i64 ((v1.2 i).2.1)]))] [(0, ⟨false, 2, v1.1, (fun i => [.p (.int .i64 ((v1.2 i).1)), .p (.int .i64 ((v1.2 i).2.1))])⟩)] (.ar 2 0 0 v1.1),
  ((2 : Nat) = 2),
  ((v1.1 : Nat) ≤ v1.1),
  ((2 : Nat) = 2),
  ((v1.1 : Nat) ≤ v1.1),
  Con Try.prog 20 0 [] [.p (.seq true 2 v1.1 (fun i => [.int .i64 ((v1.2 i).1), .int .i64 ((v1.2 i).2.1)])), .p (.seq true 2 v1.1 (fun i => [.int .i64 ((v1.2 i).1), .int .i64 ((v1.2 i).2.1)]))] [] (.p (.bool true)),
  ((!true) = false),
  (true = true)] := by kernel_rfl
theorem con_law_FnExactCanRepair (v0 : T_Pinned) (v1 : T_BarS) (k0 : okS s_Pinned v0) (k1 : okS s_BarS v1) : Con Try.prog 6 0 [] [.agg [.p (.int .i64 v0.1.1), .p (.seq true 2 v0.1.2.1.1 (fun i => [.int .i64 ((v0.1.2.1.2 i).1), .int .i64 ((v0.1.2.1.2 i).2.1)])), .p (.seq true 1 v0.2.1.1 (fun i => [.int .i64 (v0.2.1.2 i)]))], .p (.seq true 2 v1.1 (fun i => [.int .i64 ((v1.2 i).1), .int .i64 ((v1.2 i).2.1)]))] [] (.p (.bool true)) := by
  refine con_start Try.func6 rfl (by kernel_rfl) rfl (fun c hc => ?_)
  have l0 := le_szPinned v0 1048576 (by omega)
  by_cases g0 : (f_szPinned v0 1048576) < 0
  · refine path_ok mixed Try.func6 hc (p_FnExactCanRepair_0 v0 v1) ?_
    simp only [All]
    repeat' (first | exact trivial | with_reducible apply And.intro)
    all_goals (first | omega | rfl | (intros; first | assumption | exact True.intro | rfl | exact absurd (show false = true by assumption) Bool.false_ne_true | ((repeat' (first | assumption | apply anda | apply notf)); done)) | (exact con_szPinned v0 k0 _ (by omega) (by omega)) | (simp; omega))
  have hs0 := sm_szPinned v0 1048576 (by omega) (by omega) g0
  have l1 := le_szBarS v1 (f_szPinned v0 1048576) (by omega)
  by_cases g1 : (f_szBarS v1 (f_szPinned v0 1048576)) < 0
  · refine path_ok mixed Try.func6 hc (p_FnExactCanRepair_1 v0 v1) ?_
    simp only [All]
    repeat' (first | exact trivial | with_reducible apply And.intro)
    all_goals (first | omega | rfl | (intros; first | assumption | exact True.intro | rfl | exact absurd (show false = true by assumption) Bool.false_ne_true | ((repeat' (first | assumption | apply anda | apply notf)); done)) | (exact con_szPinned v0 k0 _ (by omega) (by omega)) | (exact con_szBarS v1 k1 _ (by omega) (by omega)) | (simp; omega))
  have hs1 := sm_szBarS v1 (f_szPinned v0 1048576) (by omega) g1
  refine path_ok mixed Try.func6 hc (p_FnExactCanRepair_e v0 v1) ?_
  simp only [All]
  repeat' (first | exact trivial | with_reducible apply And.intro)
  all_goals (first | omega | rfl | (intros; first | assumption | exact True.intro | rfl | exact absurd (show false = true by assumption) Bool.false_ne_true | ((repeat' (first | assumption | apply anda | apply notf)); done)) | (exact con_szPinned v0 k0 _ (by omega) (by omega)) | (exact con_szBarS v1 k1 _ (by omega) (by omega)) | (exact con_toPinned v0 hs0) | (exact con_toBarS v1 hs1) | (exact con_CanRepair_s v0 hs0 v1 hs1.1) | (exact con_CanRepair_i v0 hs0 v1 hs1.1) | (exact con_eqPinned v0 hs0) | (exact con_eqBarS v1 hs1) | (simp; try omega))
end Go.Proofs.Ytgdbnnmogddkaaa.Mach
namespace Go.Proofs.Ytgdbnnmogddkaaa.Mach
open Go
set_option linter.unusedVariables false
set_option linter.unusedSimpArgs false
theorem p_FnExactRepairBars_0 (v0 : T_Pinned) :
    pathOb Try.prog Try.f7 0 [.reg [oT, oT], .reg [oT], .reg [oT, oT, ⟨true, (some ⟨[], [], 1, [], .p (.int .i64 (f_szPinned v0 1048576))⟩), none⟩, oT], .reg [oT, oT], .dec true, .reg [oT]] [.code (bodyOf Try.f7)] (start Try.f7 [] 0 [.agg [.p (.int .i64 v0.1.1), .p (.seq true 2 v0.1.2.1.1 (fun i => [.int .i64 ((v0.1.2.1.2 i).1), .int .i64 ((v0.1.2.1.2 i).2.1)])), .p (.seq true 1 v0.2.1.1 (fun i => [.int .i64 (v0.2.1.2 i)]))]]) [] 1 [] (.p (.bool true)) =
    some [((0 : Nat) < 1),
  Con Try.prog 11 0 [] [.agg [.p (.int .i64 v0.1.1), .p (.seq true 2 v0.1.2.1.1 (fun i => [.int .i64 ((v0.1.2.1.2 i).1), .int .i64 ((v0.1.2.1.2 i).2.1)])), .p (.seq true 1 v0.2.1.1 (fun i => [.int .i64 (v0.2.1.2 i)]))], .p (.int .i64 1048576)] [] (.p (.int .i64 (f_szPinned v0 1048576))),
  ((decide (f_szPinned v0 1048576 < 0)) = true),
  (true = true)] := by kernel_rfl
theorem p_FnExactRepairBars_e (v0 : T_Pinned) :
    pathOb Try.prog Try.f7 0 [.reg [oT, oT], .reg [oT], .reg [oT, oT, ⟨true, (some ⟨[], [], 1, [], .p (.int .i64 (f_szPinned v0 1048576))⟩), none⟩, oT], .reg [oT, oT], .dec false, .reg [oT, ⟨true, (some ⟨[], [], 1, [(0, ⟨false, 2, v0.1.2.1.1, fun i => [.p (.int .i64 ((v0.1.2.1.2 i).1)), .p (.int .i64 ((v0.1.2.1.2 i).2.1))]⟩), (1, ⟨false, 1, v0.2.1.1, fun i => [.p (.int .i64 (v0.2.1.2 i))]⟩)], .agg [.p (.int .i64 v0.1.1), .ar 2 0 0 v0.1.2.1.1, .ar 1 1 0 v0.2.1.1]⟩), none⟩, ⟨true, (some ⟨[], [], 1, [(0, ⟨false, 2, (rbL v0).1, fun i => [.p (.int .i64 (((rbL v0).2 i).1)), .p (.int .i64 (((rbL v0).2 i).2.1))]⟩)], .tup [.ar 2 0 0 ((rbL v0).1), .p (.bool (rbB v0))]⟩), none⟩, oT, oT, oT, oT, oT], .reg [oT, ⟨true, (some ⟨[], [], 1, [(0, ⟨false, 2, v0.1.2.1.1, fun i => [.p (.int .i64 ((v0.1.2.1.2 i).1)), .p (.int .i64 ((v0.1.2.1.2 i).2.1))]⟩), (1, ⟨false, 1, v0.2.1.1, fun i => [.p (.int .i64 (v0.2.1.2 i))]⟩)], .agg [.p (.int .i64 v0.1.1), .ar 2 0 0 v0.1.2.1.1, .ar 1 1 0 v0.2.1.1]⟩), none⟩, oT, oT], .reg [oT, ⟨true, (some ⟨[], [], 1, [(0, ⟨false, 2, (rbL v0).1, fun i => [.p (.int .i64 (((rbL v0).2 i).1)), .p (.int .i64 (((rbL v0).2 i).2.1))]⟩)], .tup [.ar 2 0 0 ((rbL v0).1), .p (.bool (rbB v0))]⟩), none⟩, oT, oT, oT, oT, oT], .reg [oT, oT, ⟨true, (some ⟨[], [], 1, [], .p (.bool true)⟩), none⟩, oT, oT, oT, oT, oT, oT], .dec false, .reg [oT, oT, ⟨true, (some ⟨[], [], 1, [(0, ⟨false, 2, v0.1.2.1.1, fun i => [.p (.int .i64 ((v0.1.2.1.2 i).1)), .p (.int .i64 ((v0.1.2.1.2 i).2.1))]⟩), (1, ⟨false, 1, v0.2.1.1, fun i => [.p (.int .i64 (v0.2.1.2 i))]⟩)], .agg [.p (.int .i64 v0.1.1), .ar 2 0 0 v0.1.2.1.1, .ar 1 1 0 v0.2.1.1]⟩), none⟩, ⟨true, (some ⟨[], [], 1, [], .p (.bool true)⟩), none⟩, oT], .dec false, .reg [oT], .reg [oT, oT, ⟨true, (some ⟨[576, 577], [], 1, [(0, ⟨false, 2, v0.1.2.1.1, fun i => [.p (.int .i64 (1 + 2 * (i : Int))), .p (.int .i64 (1 + 2 * (i : Int) + 1))]⟩), (1, ⟨false, 1, v0.2.1.1, fun i => [.p (.int .i64 (1 + 2 * (v0.1.2.1.1 : Int) + (i : Int)))]⟩)], .p (.int .i64 (1 + 2 * (v0.1.2.1.1 : Int) + (v0.2.1.1 : Int)))⟩), none⟩, oT], .reg [oT, oT, oT, oT, oT, ⟨true, (some ⟨[], [], 1, [], .p (.bool true)⟩), none⟩, oT, oT, oT, oT, oT, oT, oT], .dec false, .reg [oT], .reg [oT, oT, ⟨true, (some ⟨[704], [], 1, [(0, ⟨false, 2, (rbL v0).1, fun i => [.p (.int .i64 (1 + 2 * (i : Int))), .p (.int .i64 (1 + 2 * (i : Int) + 1))]⟩)], .p (.int .i64 (1 + 2 * ((rbL v0).1 : Int)))⟩), none⟩, oT], .reg [oT], .reg [oT, oT, ⟨true, (some ⟨[], [], 1, [], .p (.int .i64 (1 + 2 * ((rbL v0).1 : Int)))⟩), none⟩, oT], .reg [oT, oT], .dec false, .reg [oT, oT, oT], .dec false, .reg [oT, ⟨true, (some ⟨[], [], 1, [(0, ⟨false, 2, v0.1.2.1.1, fun i => [.p (.int .i64 ((v0.1.2.1.2 i).1)), .p (.int .i64 ((v0.1.2.1.2 i).2.1))]⟩), (1, ⟨false, 1, v0.2.1.1, fun i => [.p (.int .i64 (v0.2.1.2 i))]⟩)], .agg [.p (.int .i64 v0.1.1), .ar 2 0 0 v0.1.2.1.1, .ar 1 1 0 v0.2.1.1]⟩), none⟩, ⟨true, (some ⟨[], [], 1, [(0, ⟨false, 2, (rbL v0).1, fun i => [.p (.int .i64 (((rbL v0).2 i).1)), .p (.int .i64 (((rbL v0).2 i).2.1))]⟩)], .tup [.ar 2 0 0 ((rbL v0).1), .p (.bool (rbB v0))]⟩), none⟩, oT, oT, oT, oT, oT], .reg [oT, oT, ⟨true, (some ⟨[], [], 1, [], .p (.bool true)⟩), none⟩, oT, oT, oT, oT, oT, oT], .dec false, .reg [oT], .reg [oT, oT, ⟨true, (some ⟨[], [], 1, [], .p (.int .i64 (1 + 2 * ((rbL v0).1 : Int)))⟩), none⟩, oT], .reg [oT, oT], .dec false, .reg [oT, oT, oT], .dec false, .reg [oT]] [.code (bodyOf Try.f7)] (start Try.f7 [] 0 [.agg [.p (.int .i64 v0.1.1), .p (.seq true 2 v0.1.2.1.1 (fun i => [.int .i64 ((v0.1.2.1.2 i).1), .int .i64 ((v0.1.2.1.2 i).2.1)])), .p (.seq true 1 v0.2.1.1 (fun i => [.int .i64 (v0.2.1.2 i)]))]]) [] 1 [] (.p (.bool true)) =
    some [((0 : Nat) < 1),
  Con Try.prog 11 0 [] [.agg [.p (.int .i64 v0.1.1), .p (.seq true 2 v0.1.2.1.1 (fun i => [.int .i64 ((v0.1.2.1.2 i).1), .int .i64 ((v0.1.2.1.2 i).2.1)])), .p (.seq true 1 v0.2.1.1 (fun i => [.int .i64 (v0.2.1.2 i)]))], .p (.int .i64 1048576)] [] (.p (.int .i64 (f_szPinned v0 1048576))),
  ((decide (f_szPinned v0 1048576 < 0)) = false),
  ((0 : Nat) < 1),
  Con Try.prog 13 0 [] [.agg [.p (.int .i64 v0.1.1), .p (.seq true 2 v0.1.2.1.1 (fun i => [.int .i64 ((v0.1.2.1.2 i).1), .int .i64 ((v0.1.2.1.2 i).2.1)])), .p (.seq true 1 v0.2.1.1 (fun i => [.int .i64 (v0.2.1.2 i)]))]] [(0, ⟨false, 2, v0.1.2.1.1, (fun i => [.p (.int .i64 ((v0.1.2.1.2 i).1)), .p (.int .i64 ((v0.1.2.1.2 i).2.1))])⟩), (1, ⟨false, 1, v0.2.1.1, (fun i => [.p (.int .i64 (v0.2.1.2 i))])⟩)] (.agg [.p (.int .i64 v0.1.1), .ar 2 0 0 v0.1.2.1.1, .ar 1 1 0 v0.2.1.1]),
  ((2 : Nat) = 2),
  ((v0.1.2.1.1 : Nat) ≤ v0.1.2.1.1),
  ((1 : Nat) = 1),
  ((v0.2.1.1 : Nat) ≤ v0.2.1.1),
  Con Try.prog 28 0 [] [.agg [.p (.int .i64 v0.1.1), .p (.seq true 2 v0.1.2.1.1 (fun i => [.int .i64 ((v0.1.2.1.2 i).1), .int .i64 ((v0.1.2.1.2 i).2.1)])), .p (.seq true 1 v0.2.1.1 (fun i => [.int .i64 (v0.2.1.2 i)]))]] [(0, ⟨false, 2, ((rbL v0).1), (fun i => [.p (.int .i64 (((rbL v0).2 i).1)), .p (.int .i64 (((rbL v0).2 i).2.1))])⟩)] (.tup [.ar 2 0 0 ((rbL v0).1), .p (.bool (rbB v0))]),
  ((0 : Nat) < 1),
  Con Try.prog 13 0 [] [.agg [.p (.int .i64 v0.1.1), .p (.seq true 2 v0.1.2.1.1 (fun i => [.int .i64 ((v0.1.2.1.2 i).1), .int .i64 ((v0.1.2.1.2 i).2.1)])), .p (.seq true 1 v0.2.1.1 (fun i => [.int .i64 (v0.2.1.2 i)]))]] [(0, ⟨false, 2, v0.1.2.1.1, (fun i => [.p (.int .i64 ((v0.1.2.1.2 i).1)), .p (.int .i64 ((v0.1.2.1.2 i).2.1))])⟩), (1, ⟨false, 1, v0.2.1.1, (fun i => [.p (.int .i64 (v0.2.1.2 i))])⟩)] (.agg [.p (.int .i64 v0.1.1), .ar 2 0 0 v0.1.2.1.1, .ar 1 1 0 v0.2.1.1]),
  ((0 : Nat) < 1),
  ((true = true) → ((1 : Nat) = 1)),
  ((0 : Nat) < 1),
  ((2 : Nat) = 2),
  ((v0.1.2.1.1 : Nat) ≤ v0.1.2.1.1),
  ((1 : Nat) = 1),
  ((v0.2.1.1 : Nat) ≤ v0.2.1.1),
  Con Try.prog 29 0 [] [.agg [.p (.int .i64 v0.1.1), .p (.seq true 2 v0.1.2.1.1 (fun i => [.int .i64 ((v0.1.2.1.2 i).1), .int .i64 ((v0.1.2.1.2 i).2.1)])), .p (.seq true 1 v0.2.1.1 (fun i => [.int .i64 (v0.2.1.2 i)]))]] [(0, ⟨false, 2, ((rbL v0).1), (fun i => [.p (.int .i64 (((rbL v0).2 i).1)), .p (.int .i64 (((rbL v0).2 i).2.1))])⟩)] (.tup [.ar 2 0 0 ((rbL v0).1), .p (.bool (rbB v0))]),
  ((2 : Nat) = 2),
  ((((rbL v0).1) : Nat) ≤ ((rbL v0).1)),
  ((2 : Nat) = 2),
  ((((rbL v0).1) : Nat) ≤ ((rbL v0).1)),
  Con Try.prog 20 0 [] [.p (.seq true 2 ((rbL v0).1) (fun i => [.int .i64 (((rbL v0).2 i).1), .int .i64 (((rbL v0).2 i).2.1)])), .p (.seq true 2 ((rbL v0).1) (fun i => [.int .i64 (((rbL v0).2 i).1), .int .i64 (((rbL v0).2 i).2.1)]))] [] (.p (.bool true)),
  (((!!true) = true) → ((!!true) = true)),
  (((!!true) = true) → ((!!true) = true)),
  (((!true) = false) → ((!!true) = true)),
  ((bif !true then true else !rbB v0 == rbB v0) = false),
  ((0 : Nat) < 1),
  ((0 : Nat) < 1),
  Con Try.prog 13 0 [] [.agg [.p (.int .i64 v0.1.1), .p (.seq true 2 v0.1.2.1.1 (fun i => [.int .i64 ((v0.1.2.1.2 i).1), .int .i64 ((v0.1.2.1.2 i).2.1)])), .p (.seq true 1 v0.2.1.1 (fun i => [.int .i64 (v0.2.1.2 i)]))]] [(0, ⟨false, 2, v0.1.2.1.1, (fun i => [.p (.int .i64 ((v0.1.2.1.2 i).1)), .p (.int .i64 ((v0.1.2.1.2 i).2.1))])⟩), (1, ⟨false, 1, v0.2.1.1, (fun i => [.p (.int .i64 (v0.2.1.2 i))])⟩)] (.agg [.p (.int .i64 v0.1.1), .ar 2 0 0 v0.1.2.1.1, .ar 1 1 0 v0.2.1.1]),
  ((2 : Nat) = 2),
  ((v0.1.2.1.1 : Nat) ≤ v0.1.2.1.1),
  ((1 : Nat) = 1),
  ((v0.2.1.1 : Nat) ≤ v0.2.1.1),
  ((2 : Nat) = 2),
  ((v0.1.2.1.1 : Nat) ≤ v0.1.2.1.1),
  ((1 : Nat) = 1),
  ((v0.2.1.1 : Nat) ≤ v0.2.1.1),
  Con Try.prog 15 0 [] [.agg [.p (.int .i64 v0.1.1), .p (.seq true 2 v0.1.2.1.1 (fun i => [.int .i64 ((v0.1.2.1.2 i).1), .int .i64 ((v0.1.2.1.2 i).2.1)])), .p (.seq true 1 v0.2.1.1 (fun i => [.int .i64 (v0.2.1.2 i)]))], .agg [.p (.int .i64 v0.1.1), .p (.seq true 2 v0.1.2.1.1 (fun i => [.int .i64 ((v0.1.2.1.2 i).1), .int .i64 ((v0.1.2.1.2 i).2.1)])), .p (.seq true 1 v0.2.1.1 (fun i => [.int .i64 (v0.2.1.2 i)]))]] [] (.p (.bool true)),
  ((!true) = false),
  ((0 : Nat) < 1),
  (∀ i : Nat, (((i : Nat) < v0.1.2.1.1) → All [])),
  (∀ i : Nat, (((i : Nat) < v0.2.1.1) → All [])),
  Con Try.prog 21 2 [(0, ⟨false, 2, v0.1.2.1.1, (fun i => [.p (.int .i64 ((v0.1.2.1.2 i).1)), .p (.int .i64 ((v0.1.2.1.2 i).2.1))])⟩), (1, ⟨false, 1, v0.2.1.1, (fun i => [.p (.int .i64 (v0.2.1.2 i))])⟩)] [.agg [.p (.int .i64 v0.1.1), .ar 2 0 0 v0.1.2.1.1, .ar 1 1 0 v0.2.1.1], .p (.int .i64 1)] [(0, ⟨false, 2, v0.1.2.1.1, (fun i => [.p (.int .i64 (1 + 2 * (↑i : Int))), .p (.int .i64 (1 + 2 * (↑i : Int) + 1))])⟩), (1, ⟨false, 1, v0.2.1.1, (fun i => [.p (.int .i64 (1 + 2 * (↑v0.1.2.1.1 : Int) + (↑i : Int)))])⟩)] (.p (.int .i64 (1 + 2 * (↑v0.1.2.1.1 : Int) + (↑v0.2.1.1 : Int)))),
  (((!decide (1 + 2 * (↑v0.1.2.1.1 : Int) + (↑v0.2.1.1 : Int) < 0)) = true) → ((!decide (1 + 2 * (↑v0.1.2.1.1 : Int) + (↑v0.2.1.1 : Int) < 0)) = true)),
  (((!decide (1 + 2 * (↑v0.1.2.1.1 : Int) + (↑v0.2.1.1 : Int) < 0)) = true) → ((!decide (1 + 2 * (↑v0.1.2.1.1 : Int) + (↑v0.2.1.1 : Int) < 0)) = true)),
  (((!decide (1 + 2 * (↑v0.1.2.1.1 : Int) + (↑v0.2.1.1 : Int) < 0)) = true) → ((2 : Nat) = 2)),
  (((!decide (1 + 2 * (↑v0.1.2.1.1 : Int) + (↑v0.2.1.1 : Int) < 0)) = true) → ((((rbL v0).1) : Nat) ≤ ((rbL v0).1))),
  (((!decide (1 + 2 * (↑v0.1.2.1.1 : Int) + (↑v0.2.1.1 : Int) < 0)) = true) → ((2 : Nat) = 2)),
  (((!decide (1 + 2 * (↑v0.1.2.1.1 : Int) + (↑v0.2.1.1 : Int) < 0)) = true) → ((((rbL v0).1) : Nat) ≤ ((rbL v0).1))),
  (((!decide (1 + 2 * (↑v0.1.2.1.1 : Int) + (↑v0.2.1.1 : Int) < 0)) = true) → Con Try.prog 20 0 [] [.p (.seq true 2 ((rbL v0).1) (fun i => [.int .i64 (((rbL v0).2 i).1), .int .i64 (((rbL v0).2 i).2.1)])), .p (.seq true 2 ((rbL v0).1) (fun i => [.int .i64 (((rbL v0).2 i).1), .int .i64 (((rbL v0).2 i).2.1)]))] [] (.p (.bool true))),
  (((!decide (1 + 2 * (↑v0.1.2.1.1 : Int) + (↑v0.2.1.1 : Int) < 0)) = true) → ((!decide (1 + 2 * (↑v0.1.2.1.1 : Int) + (↑v0.2.1.1 : Int) < 0)) = true)),
  (((decide (1 + 2 * (↑v0.1.2.1.1 : Int) + (↑v0.2.1.1 : Int) < 0)) = false) → ((!decide (1 + 2 * (↑v0.1.2.1.1 : Int) + (↑v0.2.1.1 : Int) < 0)) = true)),
  (((!bif decide (1 + 2 * (↑v0.1.2.1.1 : Int) + (↑v0.2.1.1 : Int) < 0) then true else !true) = true) → ((!bif decide (1 + 2 * (↑v0.1.2.1.1 : Int) + (↑v0.2.1.1 : Int) < 0) then true else !true) = true)),
  (((!bif decide (1 + 2 * (↑v0.1.2.1.1 : Int) + (↑v0.2.1.1 : Int) < 0) then true else !true) = true) → ((!bif decide (1 + 2 * (↑v0.1.2.1.1 : Int) + (↑v0.2.1.1 : Int) < 0) then true else !true) = true)),
  (((bif decide (1 + 2 * (↑v0.1.2.1.1 : Int) + (↑v0.2.1.1 : Int) < 0) then true else !true) = false) → ((!bif decide (1 + 2 * (↑v0.1.2.1.1 : Int) + (↑v0.2.1.1 : Int) < 0) then true else !true) = true)),
  ((bif bif decide (1 + 2 * (↑v0.1.2.1.1 : Int) + (↑v0.2.1.1 : Int) < 0) then true else !true then true else !rbB v0 == rbB v0) = false),
  (∀ i : Nat, (((i : Nat) < ((rbL v0).1)) → All [])),
  Con Try.prog 22 1 [(0, ⟨false, 2, ((rbL v0).1), (fun i => [.p (.int .i64 (((rbL v0).2 i).1)), .p (.int .i64 (((rbL v0).2 i).2.1))])⟩)] [.ar 2 0 0 ((rbL v0).1), .p (.int .i64 1)] [(0, ⟨false, 2, ((rbL v0).1), (fun i => [.p (.int .i64 (1 + 2 * (↑i : Int))), .p (.int .i64 (1 + 2 * (↑i : Int) + 1))])⟩)] (.p (.int .i64 (1 + 2 * (↑(rbL v0).1 : Int)))),
  ((2 : Nat) = 2),
  ((((rbL v0).1) : Nat) ≤ ((rbL v0).1)),
  Con Try.prog 30 0 [] [.p (.seq true 2 ((rbL v0).1) (fun i => [.int .i64 (1 + 2 * (↑i : Int)), .int .i64 (1 + 2 * (↑i : Int) + 1)])), .p (.int .i64 1)] [] (.p (.int .i64 (1 + 2 * (↑(rbL v0).1 : Int)))),
  ((decide (1 + 2 * (↑(rbL v0).1 : Int) < 0)) = false),
  ((1 + 2 * (↑(rbL v0).1 : Int) != 1 + 2 * (↑(rbL v0).1 : Int)) = false),
  ((0 : Nat) < 1),
  Con Try.prog 13 0 [] [.agg [.p (.int .i64 v0.1.1), .p (.seq true 2 v0.1.2.1.1 (fun i => [.int .i64 ((v0.1.2.1.2 i).1), .int .i64 ((v0.1.2.1.2 i).2.1)])), .p (.seq true 1 v0.2.1.1 (fun i => [.int .i64 (v0.2.1.2 i)]))]] [(0, ⟨false, 2, v0.1.2.1.1, (fun i => [.p (.int .i64 ((v0.1.2.1.2 i).1)), .p (.int .i64 ((v0.1.2.1.2 i).2.1))])⟩), (1, ⟨false, 1, v0.2.1.1, (fun i => [.p (.int .i64 (v0.2.1.2 i))])⟩)] (.agg [.p (.int .i64 v0.1.1), .ar 2 0 0 v0.1.2.1.1, .ar 1 1 0 v0.2.1.1]),
  ((2 : Nat) = 2),
  ((v0.1.2.1.1 : Nat) ≤ v0.1.2.1.1),
  ((1 : Nat) = 1),
  ((v0.2.1.1 : Nat) ≤ v0.2.1.1),
  Con Try.prog 29 0 [] [.agg [.p (.int .i64 v0.1.1), .p (.seq true 2 v0.1.2.1.1 (fun i => [.int .i64 ((v0.1.2.1.2 i).1), .int .i64 ((v0.1.2.1.2 i).2.1)])), .p (.seq true 1 v0.2.1.1 (fun i => [.int .i64 (v0.2.1.2 i)]))]] [(0, ⟨false, 2, ((rbL v0).1), (fun i => [.p (.int .i64 (((rbL v0).2 i).1)), .p (.int .i64 (((rbL v0).2 i).2.1))])⟩)] (.tup [.ar 2 0 0 ((rbL v0).1), .p (.bool (rbB v0))]),
  ((2 : Nat) = 2),
  ((((rbL v0).1) : Nat) ≤ ((rbL v0).1)),
  ((2 : Nat) = 2),
  ((((rbL v0).1) : Nat) ≤ ((rbL v0).1)),
  Con Try.prog 20 0 [] [.p (.seq true 2 ((rbL v0).1) (fun i => [.int .i64 (((rbL v0).2 i).1), .int .i64 (((rbL v0).2 i).2.1)])), .p (.seq true 2 ((rbL v0).1) (fun i => [.int .i64 (((rbL v0).2 i).1), .int .i64 (((rbL v0).2 i).2.1)]))] [] (.p (.bool true)),
  (((!!true) = true) → ((!!true) = true)),
  (((!!true) = true) → ((!!true) = true)),
  (((!true) = false) → ((!!true) = true)),
  ((bif !true then true else !rbB v0 == rbB v0) = false),
  ((2 : Nat) = 2),
  ((((rbL v0).1) : Nat) ≤ ((rbL v0).1)),
  Con Try.prog 30 0 [] [.p (.seq true 2 ((rbL v0).1) (fun i => [.int .i64 (1 + 2 * (↑i : Int)), .int .i64 (1 + 2 * (↑i : Int) + 1)])), .p (.int .i64 1)] [] (.p (.int .i64 (1 + 2 * (↑(rbL v0).1 : Int)))),
  ((decide (1 + 2 * (↑(rbL v0).1 : Int) < 0)) = false),
  ((1 + 2 * (↑(rbL v0).1 : Int) != 1 + 2 * (↑(rbL v0).1 : Int)) = false),
  (true = true)] := by kernel_rfl
theorem con_law_FnExactRepairBars (v0 : T_Pinned) (k0 : okS s_Pinned v0) : Con Try.prog 7 0 [] [.agg [.p (.int .i64 v0.1.1), .p (.seq true 2 v0.1.2.1.1 (fun i => [.int .i64 ((v0.1.2.1.2 i).1), .int .i64 ((v0.1.2.1.2 i).2.1)])), .p (.seq true 1 v0.2.1.1 (fun i => [.int .i64 (v0.2.1.2 i)]))]] [] (.p (.bool true)) := by
  refine con_start Try.func7 rfl (by kernel_rfl) rfl (fun c hc => ?_)
  have l0 := le_szPinned v0 1048576 (by omega)
  by_cases g0 : (f_szPinned v0 1048576) < 0
  · refine path_ok mixed Try.func7 hc (p_FnExactRepairBars_0 v0) ?_
    simp only [All]
    repeat' (first | exact trivial | with_reducible apply And.intro)
    all_goals (first | omega | rfl | (intros; first | assumption | exact True.intro | rfl | exact absurd (show false = true by assumption) Bool.false_ne_true | ((repeat' (first | assumption | apply anda | apply notf)); done)) | (exact con_szPinned v0 k0 _ (by omega) (by omega)) | (simp; omega))
  have hs0 := sm_szPinned v0 1048576 (by omega) (by omega) g0
  have hr0 : smS s_BarS (rbL v0) := ⟨by have := rbL_n v0; omega, fun i hi => by simp [smS, smL]⟩
  have n_0 : v0.1.2.1.1 ≤ 1048576 := hs0.1.2.1.1
  have n_1 : v0.2.1.1 ≤ 1048576 := hs0.2.1.1
  have n_2 : (rbL v0).1 ≤ 1048576 := hr0.1
  refine path_ok mixed Try.func7 hc (p_FnExactRepairBars_e v0) ?_
  simp only [All]
  repeat' (first | exact trivial | with_reducible apply And.intro)
  all_goals (first | omega | rfl | (intros; first | assumption | exact True.intro | rfl | exact absurd (show false = true by assumption) Bool.false_ne_true | ((repeat' (first | assumption | apply anda | apply notf)); done)) | (exact con_szPinned v0 k0 _ (by omega) (by omega)) | (exact con_toPinned v0 hs0) | (exact con_RepairBars_s v0 hs0) | (exact con_RepairBars_i v0 hs0) | (intros; exact con_eqBarS (rbL v0) hr0) | (intros; exact con_eqPinned v0 hs0) | (intros; exact con_markPinned v0 _ hs0.1.2.1.1 hs0.2.1.1 (by omega) (by omega)) | (intros; exact con_markBarS (rbL v0) _ hr0.1 (by omega) (by omega)) | (intros; exact con_heldBarS (rbL v0).1 _ hr0.1 (by omega) (by omega)) | (cases rbB v0 <;> rfl) | (simp; try omega))
end Go.Proofs.Ytgdbnnmogddkaaa.Mach
