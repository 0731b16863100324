/- The degree of a point and the points without bars: both programs compute the same. Conditions: as each theorem says. -/
import Derived.Test.YtgddbgmnehkblaaGraph
namespace Go.Proofs.Ytgddbgmnehkblaa.Mach
open Go
set_option linter.unusedVariables false
set_option linter.unusedSimpArgs false

def hasB (b : T_Bar) (p : Int) : Bool := bif b.1 == p then true else b.2.1 == p
def degF (g : Nat → T_Bar) (p : Int) : Nat → Int
  | 0 => 0
  | k + 1 => if hasB (g k) p = true then degF g p k + 1 else degF g p k
def looseL (v : T_Graph) : Nat → List Int
  | 0 => []
  | k + 1 => if degF v.2.1.2 k v.2.1.1 = 0 then looseL v k ++ [(k : Int)] else looseL v k
def looseF (v : T_Graph) : List Int := if isGraphF v = true then looseL v v.1.toNat else []
def intsOb (l : List Int) : Ob := ⟨false, 1, l.length, fun i => [.p (.int .i64 (l.getD i 0))]⟩
def S49 (v : T_Graph) (p : Int) (k : Nat) : St :=
  ⟨[graphA v, .p (.int .i64 p), .pt 2 0 0 0, .p .any, .p .any, .p (.int .i64 (degF v.2.1.2 p k)), .p (.int .i64 k)] ++ List.replicate 28 anyA, [(0, boxG v)], 1⟩
def S52 (v : T_Graph) (p : Int) (k : Nat) : St :=
  ⟨[graphA v, .p (.int .i64 p), .pt 2 0 0 0, .p .any, .p .any, .p (.int .i64 (degF v.2.1.2 p k)), .p .any, .p .any, .p .any, graphL v.2.1, .p (.int .i64 v.2.1.1), .p (.int .i64 k)] ++ List.replicate 10 anyA, [(0, boxG v)], 1⟩
def S28 (v : T_Graph) (k : Nat) : St :=
  ⟨[graphA v, .pt 2 0 0 0, .p .any, .ar 1 1 0 (looseL v k).length, .p (.int .i64 k)] ++ List.replicate 20 anyA, [(0, boxG v), (1, intsOb (looseL v k))], 2⟩
def S30 (v : T_Graph) (k : Nat) : St :=
  ⟨[graphA v, .pt 2 0 0 0, .p .any, .ar 1 1 0 (looseL v k).length] ++ List.replicate 7 anyA ++ [.p (.int .i64 v.1), .p (.int .i64 k)] ++ List.replicate 12 anyA, [(0, boxG v), (1, intsOb (looseL v k))], 2⟩

theorem p60 (b : T_Bar) (p : Int) :
    pathOb Try.prog Try.f60 0 [.reg [oT, oT], .reg [oT, oT, oT, oT, oT, oT, oT, oT, oT, oT, oT]] [.code (bodyOf Try.f60)] (start Try.f60 [] 0 [barA b, .p (.int .i64 p)]) [] 1 [] (.p (.bool (hasB b p))) =
    some [((0 : Nat) < 1),
  (((!b.fst == p) = true) → ((!b.fst == p) = true)),
  (((!b.fst == p) = true) → ((0 : Nat) < 1)),
  (((!b.fst == p) = true) → ((!b.fst == p) = true)),
  (((!b.fst == p) = true) → ((!b.fst == p) = true)),
  (((b.fst == p) = false) → ((!b.fst == p) = true)),
  ((bif b.fst == p then true else b.snd.fst == p) = (hasB b p))] := by kernel_rfl
theorem p49a (v : T_Graph) (p : Int) :
    pieceOb Try.prog 0 [.reg [oT, oT], .reg [oT], .reg [oT], .head] [.code (bodyOf Try.f49)] (start Try.f49 [] 0 [graphA v, .p (.int .i64 p)]) [0] 1 (S49 v p 0) =
    some ([.code (cAt (bodyOf Try.f49) [1, 1, 0, 1, 0, 0]), .inLoop (cAt (bodyOf Try.f49) [1, 1, 0, 1, 0, 0]), .inBlock 0, .code (cAt (bodyOf Try.f49) [1, 1, 1])], [(((v.fst) : Int) = (v.fst)),
  (((v.snd.fst.fst) : Nat) = (v.snd.fst.fst)),
  (∀ i : Nat, ((((i) : Nat) < (v.snd.fst.fst)) → (([.int .i64 ((v.snd.fst.snd i).fst), .int .i64 ((v.snd.fst.snd i).snd.fst)] : List PV) = [.int .i64 ((v.snd.fst.snd i).fst), .int .i64 ((v.snd.fst.snd i).snd.fst)]))),
  (((p) : Int) = (p)),
  ((0 : Nat) = 0),
  ((0 : Int) = (degF v.snd.fst.snd p 0)),
  ((0 : Int) = ((↑0 : Int))),
  ((([AV.p (PV.int IntKind.i64 v.fst), graphL v.snd.fst].length) : Nat) = 2),
  ((1 : Nat) ≤ 1),
  (∀ i : Nat, ((((i) : Nat) < 1) → (All [] ∧ (([.p (.int .i64 (v.fst)), .p (.seq true 2 (v.snd.fst.fst) (fun i_1 => [.int .i64 ((v.snd.fst.snd i_1).fst), .int .i64 ((v.snd.fst.snd i_1).snd.fst)]))] : List AV) = [.p (.int .i64 (v.fst)), .p (.seq true 2 (v.snd.fst.fst) (fun i_1 => [.int .i64 ((v.snd.fst.snd i_1).fst), .int .i64 ((v.snd.fst.snd i_1).snd.fst)]))]))))]) := by kernel_rfl
theorem p49b (v : T_Graph) (p : Int) (k : Nat) :
    pieceOb Try.prog 0 [.reg [oT, oT, oT, oT, oT], .dec true, .reg [oT, oT, oT, oT, oT, oT, oT, oT, oT, oT, oT, oT, oT, oT, oT, oT, oT, oT], .dec true, .reg [oT, oT, oT], .reg [oT, oT, oT], .head] [.code (cAt (bodyOf Try.f49) [1, 1, 0, 1, 0, 0]), .inLoop (cAt (bodyOf Try.f49) [1, 1, 0, 1, 0, 0]), .inBlock 0, .code (cAt (bodyOf Try.f49) [1, 1, 1])] (S49 v p k) [0] 1 (S49 v p (k + 1)) =
    some ([.code (cAt (bodyOf Try.f49) [1, 1, 0, 1, 0, 0]), .inLoop (cAt (bodyOf Try.f49) [1, 1, 0, 1, 0, 0]), .inBlock 0, .code (cAt (bodyOf Try.f49) [1, 1, 1])], [((0 : Nat) < 1),
  ((decide ((↑k : Int) < (↑v.snd.fst.fst : Int))) = true),
  ((0 : Nat) < 1),
  ((0 : Int) ≤ ((↑k : Int))),
  ((((↑k : Int)) : Int) < ((↑v.snd.fst.fst : Int))),
  (((!(v.snd.fst.snd k).fst == p) = true) → ((!(v.snd.fst.snd k).fst == p) = true)),
  (((!(v.snd.fst.snd k).fst == p) = true) → ((0 : Nat) < 1)),
  (((!(v.snd.fst.snd k).fst == p) = true) → ((!(v.snd.fst.snd k).fst == p) = true)),
  (((!(v.snd.fst.snd k).fst == p) = true) → ((!(v.snd.fst.snd k).fst == p) = true)),
  (((!(v.snd.fst.snd k).fst == p) = true) → ((0 : Int) ≤ ((↑k : Int)))),
  (((!(v.snd.fst.snd k).fst == p) = true) → ((((↑k : Int)) : Int) < ((↑v.snd.fst.fst : Int)))),
  (((!(v.snd.fst.snd k).fst == p) = true) → ((!(v.snd.fst.snd k).fst == p) = true)),
  (((!(v.snd.fst.snd k).fst == p) = true) → ((!(v.snd.fst.snd k).fst == p) = true)),
  (((!(v.snd.fst.snd k).fst == p) = true) → ((!(v.snd.fst.snd k).fst == p) = true)),
  (((!(v.snd.fst.snd k).fst == p) = true) → ((!(v.snd.fst.snd k).fst == p) = true)),
  ((((v.snd.fst.snd k).fst == p) = false) → ((!(v.snd.fst.snd k).fst == p) = true)),
  ((bif (v.snd.fst.snd k).fst == p then true else (v.snd.fst.snd k).snd.fst == p) = true),
  (((-9223372036854775808) : Int) ≤ (degF v.snd.fst.snd p k + 1)),
  (((degF v.snd.fst.snd p k + 1) : Int) ≤ 9223372036854775807),
  (((-9223372036854775808) : Int) ≤ ((↑k : Int) + 1)),
  ((((↑k : Int) + 1) : Int) ≤ 9223372036854775807),
  (((v.fst) : Int) = (v.fst)),
  (((v.snd.fst.fst) : Nat) = (v.snd.fst.fst)),
  (∀ i : Nat, ((((i) : Nat) < (v.snd.fst.fst)) → (([.int .i64 ((v.snd.fst.snd i).fst), .int .i64 ((v.snd.fst.snd i).snd.fst)] : List PV) = [.int .i64 ((v.snd.fst.snd i).fst), .int .i64 ((v.snd.fst.snd i).snd.fst)]))),
  (((p) : Int) = (p)),
  ((0 : Nat) = 0),
  (((degF v.snd.fst.snd p k + 1) : Int) = (degF v.snd.fst.snd p (k + 1))),
  ((((↑k : Int) + 1) : Int) = ((↑(k + 1) : Int))),
  ((2 : Nat) = 2),
  ((1 : Nat) ≤ 1),
  (∀ i : Nat, ((((i) : Nat) < 1) → (All [] ∧ (([.p (.int .i64 (v.fst)), .p (.seq true 2 (v.snd.fst.fst) (fun i_1 => [.int .i64 ((v.snd.fst.snd i_1).fst), .int .i64 ((v.snd.fst.snd i_1).snd.fst)]))] : List AV) = [.p (.int .i64 (v.fst)), .p (.seq true 2 (v.snd.fst.fst) (fun i_1 => [.int .i64 ((v.snd.fst.snd i_1).fst), .int .i64 ((v.snd.fst.snd i_1).snd.fst)]))]))))]) := by kernel_rfl
theorem p49c (v : T_Graph) (p : Int) (k : Nat) :
    pieceOb Try.prog 0 [.reg [oT, oT, oT, oT, oT], .dec true, .reg [oT, oT, oT, oT, oT, oT, oT, oT, oT, oT, oT, oT, oT, oT, oT, oT, oT, oT], .dec false, .reg [oT, oT, oT], .head] [.code (cAt (bodyOf Try.f49) [1, 1, 0, 1, 0, 0]), .inLoop (cAt (bodyOf Try.f49) [1, 1, 0, 1, 0, 0]), .inBlock 0, .code (cAt (bodyOf Try.f49) [1, 1, 1])] (S49 v p k) [0] 1 (S49 v p (k + 1)) =
    some ([.code (cAt (bodyOf Try.f49) [1, 1, 0, 1, 0, 0]), .inLoop (cAt (bodyOf Try.f49) [1, 1, 0, 1, 0, 0]), .inBlock 0, .code (cAt (bodyOf Try.f49) [1, 1, 1])], [((0 : Nat) < 1),
  ((decide ((↑k : Int) < (↑v.snd.fst.fst : Int))) = true),
  ((0 : Nat) < 1),
  ((0 : Int) ≤ ((↑k : Int))),
  ((((↑k : Int)) : Int) < ((↑v.snd.fst.fst : Int))),
  (((!(v.snd.fst.snd k).fst == p) = true) → ((!(v.snd.fst.snd k).fst == p) = true)),
  (((!(v.snd.fst.snd k).fst == p) = true) → ((0 : Nat) < 1)),
  (((!(v.snd.fst.snd k).fst == p) = true) → ((!(v.snd.fst.snd k).fst == p) = true)),
  (((!(v.snd.fst.snd k).fst == p) = true) → ((!(v.snd.fst.snd k).fst == p) = true)),
  (((!(v.snd.fst.snd k).fst == p) = true) → ((0 : Int) ≤ ((↑k : Int)))),
  (((!(v.snd.fst.snd k).fst == p) = true) → ((((↑k : Int)) : Int) < ((↑v.snd.fst.fst : Int)))),
  (((!(v.snd.fst.snd k).fst == p) = true) → ((!(v.snd.fst.snd k).fst == p) = true)),
  (((!(v.snd.fst.snd k).fst == p) = true) → ((!(v.snd.fst.snd k).fst == p) = true)),
  (((!(v.snd.fst.snd k).fst == p) = true) → ((!(v.snd.fst.snd k).fst == p) = true)),
  (((!(v.snd.fst.snd k).fst == p) = true) → ((!(v.snd.fst.snd k).fst == p) = true)),
  ((((v.snd.fst.snd k).fst == p) = false) → ((!(v.snd.fst.snd k).fst == p) = true)),
  ((bif (v.snd.fst.snd k).fst == p then true else (v.snd.fst.snd k).snd.fst == p) = false),
  (((-9223372036854775808) : Int) ≤ ((↑k : Int) + 1)),
  ((((↑k : Int) + 1) : Int) ≤ 9223372036854775807),
  (((v.fst) : Int) = (v.fst)),
  (((v.snd.fst.fst) : Nat) = (v.snd.fst.fst)),
  (∀ i : Nat, ((((i) : Nat) < (v.snd.fst.fst)) → (([.int .i64 ((v.snd.fst.snd i).fst), .int .i64 ((v.snd.fst.snd i).snd.fst)] : List PV) = [.int .i64 ((v.snd.fst.snd i).fst), .int .i64 ((v.snd.fst.snd i).snd.fst)]))),
  (((p) : Int) = (p)),
  ((0 : Nat) = 0),
  (((degF v.snd.fst.snd p k) : Int) = (degF v.snd.fst.snd p (k + 1))),
  ((((↑k : Int) + 1) : Int) = ((↑(k + 1) : Int))),
  ((2 : Nat) = 2),
  ((1 : Nat) ≤ 1),
  (∀ i : Nat, ((((i) : Nat) < 1) → (All [] ∧ (([.p (.int .i64 (v.fst)), .p (.seq true 2 (v.snd.fst.fst) (fun i_1 => [.int .i64 ((v.snd.fst.snd i_1).fst), .int .i64 ((v.snd.fst.snd i_1).snd.fst)]))] : List AV) = [.p (.int .i64 (v.fst)), .p (.seq true 2 (v.snd.fst.fst) (fun i_1 => [.int .i64 ((v.snd.fst.snd i_1).fst), .int .i64 ((v.snd.fst.snd i_1).snd.fst)]))]))))]) := by kernel_rfl
theorem p49d (v : T_Graph) (p : Int) (k : Nat) :
    pathOb Try.prog Try.f49 0 [.reg [oT, oT, oT, oT, oT], .dec false, .reg [oT, oT]] [.code (cAt (bodyOf Try.f49) [1, 1, 0, 1, 0, 0]), .inLoop (cAt (bodyOf Try.f49) [1, 1, 0, 1, 0, 0]), .inBlock 0, .code (cAt (bodyOf Try.f49) [1, 1, 1])] (S49 v p k) [] 1 [] (.p (.int .i64 (degF v.2.1.2 p k))) =
    some [((0 : Nat) < 1),
  ((decide ((↑k : Int) < (↑v.snd.fst.fst : Int))) = false),
  (((degF v.snd.fst.snd p k) : Int) = (degF v.snd.fst.snd p k))] := by kernel_rfl
theorem p52a (v : T_Graph) (p : Int) :
    pieceOb Try.prog 0 [.reg [oT, oT], .reg [oT], .reg [oT, oT, oT, oT], .head] [.code (bodyOf Try.f52)] (start Try.f52 [] 0 [graphA v, .p (.int .i64 p)]) [0] 1 (S52 v p 0) =
    some ([.code (cAt (bodyOf Try.f52) [1, 1, 0, 1, 0, 0]), .inLoop (cAt (bodyOf Try.f52) [1, 1, 0, 1, 0, 0]), .inBlock 0, .code (cAt (bodyOf Try.f52) [1, 1, 1])], [((0 : Nat) < 1),
  (((v.fst) : Int) = (v.fst)),
  (((v.snd.fst.fst) : Nat) = (v.snd.fst.fst)),
  (∀ i : Nat, ((((i) : Nat) < (v.snd.fst.fst)) → (([.int .i64 ((v.snd.fst.snd i).fst), .int .i64 ((v.snd.fst.snd i).snd.fst)] : List PV) = [.int .i64 ((v.snd.fst.snd i).fst), .int .i64 ((v.snd.fst.snd i).snd.fst)]))),
  (((p) : Int) = (p)),
  ((0 : Nat) = 0),
  ((0 : Int) = (degF v.snd.fst.snd p 0)),
  (((v.snd.fst.fst) : Nat) = (v.snd.fst.fst)),
  (∀ i : Nat, ((((i) : Nat) < (v.snd.fst.fst)) → (([.int .i64 ((v.snd.fst.snd i).fst), .int .i64 ((v.snd.fst.snd i).snd.fst)] : List PV) = [.int .i64 ((v.snd.fst.snd i).fst), .int .i64 ((v.snd.fst.snd i).snd.fst)]))),
  ((((↑v.snd.fst.fst : Int)) : Int) = ((↑v.snd.fst.fst : Int))),
  ((0 : Int) = ((↑0 : Int))),
  ((([AV.p (PV.int IntKind.i64 v.fst), graphL v.snd.fst].length) : Nat) = 2),
  ((1 : Nat) ≤ 1),
  (∀ i : Nat, ((((i) : Nat) < 1) → (All [] ∧ (([.p (.int .i64 (v.fst)), .p (.seq true 2 (v.snd.fst.fst) (fun i_1 => [.int .i64 ((v.snd.fst.snd i_1).fst), .int .i64 ((v.snd.fst.snd i_1).snd.fst)]))] : List AV) = [.p (.int .i64 (v.fst)), .p (.seq true 2 (v.snd.fst.fst) (fun i_1 => [.int .i64 ((v.snd.fst.snd i_1).fst), .int .i64 ((v.snd.fst.snd i_1).snd.fst)]))]))))]) := by kernel_rfl
theorem p52b (v : T_Graph) (p : Int) (k : Nat) :
    pieceOb Try.prog 0 [.reg [oT], .dec true, .reg [oT, oT, oT, oT], .reg [oT, oT, ⟨true, (some ⟨[], [], 1, [], .p (.bool (hasB (v.2.1.2 k) p))⟩)⟩], .dec true, .reg [oT, oT, oT], .reg [oT, oT], .head] [.code (cAt (bodyOf Try.f52) [1, 1, 0, 1, 0, 0]), .inLoop (cAt (bodyOf Try.f52) [1, 1, 0, 1, 0, 0]), .inBlock 0, .code (cAt (bodyOf Try.f52) [1, 1, 1])] (S52 v p k) [0] 1 (S52 v p (k + 1)) =
    some ([.code (cAt (bodyOf Try.f52) [1, 1, 0, 1, 0, 0]), .inLoop (cAt (bodyOf Try.f52) [1, 1, 0, 1, 0, 0]), .inBlock 0, .code (cAt (bodyOf Try.f52) [1, 1, 1])], [((decide ((↑k : Int) < (↑v.snd.fst.fst : Int))) = true),
  ((0 : Int) ≤ ((↑k : Int))),
  ((((↑k : Int)) : Int) < ((↑v.snd.fst.fst : Int))),
  ((0 : Nat) < 1),
  (((true) = true) → ((1 : Nat) = 1)),
  ((0 : Nat) < 1),
  Con (Try.prog) 60 0 [] [.agg [.p (.int .i64 ((v.snd.fst.snd k).fst)), .p (.int .i64 ((v.snd.fst.snd k).snd.fst))], .p (.int .i64 (p))] [] (.p (.bool (hasB (v.snd.fst.snd k) p))),
  ((hasB (v.snd.fst.snd k) p) = true),
  (((-9223372036854775808) : Int) ≤ (degF v.snd.fst.snd p k + 1)),
  (((degF v.snd.fst.snd p k + 1) : Int) ≤ 9223372036854775807),
  (((-9223372036854775808) : Int) ≤ ((↑k : Int) + 1)),
  ((((↑k : Int) + 1) : Int) ≤ 9223372036854775807),
  (((v.fst) : Int) = (v.fst)),
  (((v.snd.fst.fst) : Nat) = (v.snd.fst.fst)),
  (∀ i : Nat, ((((i) : Nat) < (v.snd.fst.fst)) → (([.int .i64 ((v.snd.fst.snd i).fst), .int .i64 ((v.snd.fst.snd i).snd.fst)] : List PV) = [.int .i64 ((v.snd.fst.snd i).fst), .int .i64 ((v.snd.fst.snd i).snd.fst)]))),
  (((p) : Int) = (p)),
  ((0 : Nat) = 0),
  (((degF v.snd.fst.snd p k + 1) : Int) = (degF v.snd.fst.snd p (k + 1))),
  (((v.snd.fst.fst) : Nat) = (v.snd.fst.fst)),
  (∀ i : Nat, ((((i) : Nat) < (v.snd.fst.fst)) → (([.int .i64 ((v.snd.fst.snd i).fst), .int .i64 ((v.snd.fst.snd i).snd.fst)] : List PV) = [.int .i64 ((v.snd.fst.snd i).fst), .int .i64 ((v.snd.fst.snd i).snd.fst)]))),
  ((((↑v.snd.fst.fst : Int)) : Int) = ((↑v.snd.fst.fst : Int))),
  ((((↑k : Int) + 1) : Int) = ((↑(k + 1) : Int))),
  ((2 : Nat) = 2),
  ((1 : Nat) ≤ 1),
  (∀ i : Nat, ((((i) : Nat) < 1) → (All [] ∧ (([.p (.int .i64 (v.fst)), .p (.seq true 2 (v.snd.fst.fst) (fun i_1 => [.int .i64 ((v.snd.fst.snd i_1).fst), .int .i64 ((v.snd.fst.snd i_1).snd.fst)]))] : List AV) = [.p (.int .i64 (v.fst)), .p (.seq true 2 (v.snd.fst.fst) (fun i_1 => [.int .i64 ((v.snd.fst.snd i_1).fst), .int .i64 ((v.snd.fst.snd i_1).snd.fst)]))]))))]) := by kernel_rfl
theorem p52c (v : T_Graph) (p : Int) (k : Nat) :
    pieceOb Try.prog 0 [.reg [oT], .dec true, .reg [oT, oT, oT, oT], .reg [oT, oT, ⟨true, (some ⟨[], [], 1, [], .p (.bool (hasB (v.2.1.2 k) p))⟩)⟩], .dec false, .reg [oT, oT], .head] [.code (cAt (bodyOf Try.f52) [1, 1, 0, 1, 0, 0]), .inLoop (cAt (bodyOf Try.f52) [1, 1, 0, 1, 0, 0]), .inBlock 0, .code (cAt (bodyOf Try.f52) [1, 1, 1])] (S52 v p k) [0] 1 (S52 v p (k + 1)) =
    some ([.code (cAt (bodyOf Try.f52) [1, 1, 0, 1, 0, 0]), .inLoop (cAt (bodyOf Try.f52) [1, 1, 0, 1, 0, 0]), .inBlock 0, .code (cAt (bodyOf Try.f52) [1, 1, 1])], [((decide ((↑k : Int) < (↑v.snd.fst.fst : Int))) = true),
  ((0 : Int) ≤ ((↑k : Int))),
  ((((↑k : Int)) : Int) < ((↑v.snd.fst.fst : Int))),
  ((0 : Nat) < 1),
  (((true) = true) → ((1 : Nat) = 1)),
  ((0 : Nat) < 1),
  Con (Try.prog) 60 0 [] [.agg [.p (.int .i64 ((v.snd.fst.snd k).fst)), .p (.int .i64 ((v.snd.fst.snd k).snd.fst))], .p (.int .i64 (p))] [] (.p (.bool (hasB (v.snd.fst.snd k) p))),
  ((hasB (v.snd.fst.snd k) p) = false),
  (((-9223372036854775808) : Int) ≤ ((↑k : Int) + 1)),
  ((((↑k : Int) + 1) : Int) ≤ 9223372036854775807),
  (((v.fst) : Int) = (v.fst)),
  (((v.snd.fst.fst) : Nat) = (v.snd.fst.fst)),
  (∀ i : Nat, ((((i) : Nat) < (v.snd.fst.fst)) → (([.int .i64 ((v.snd.fst.snd i).fst), .int .i64 ((v.snd.fst.snd i).snd.fst)] : List PV) = [.int .i64 ((v.snd.fst.snd i).fst), .int .i64 ((v.snd.fst.snd i).snd.fst)]))),
  (((p) : Int) = (p)),
  ((0 : Nat) = 0),
  (((degF v.snd.fst.snd p k) : Int) = (degF v.snd.fst.snd p (k + 1))),
  (((v.snd.fst.fst) : Nat) = (v.snd.fst.fst)),
  (∀ i : Nat, ((((i) : Nat) < (v.snd.fst.fst)) → (([.int .i64 ((v.snd.fst.snd i).fst), .int .i64 ((v.snd.fst.snd i).snd.fst)] : List PV) = [.int .i64 ((v.snd.fst.snd i).fst), .int .i64 ((v.snd.fst.snd i).snd.fst)]))),
  ((((↑v.snd.fst.fst : Int)) : Int) = ((↑v.snd.fst.fst : Int))),
  ((((↑k : Int) + 1) : Int) = ((↑(k + 1) : Int))),
  ((2 : Nat) = 2),
  ((1 : Nat) ≤ 1),
  (∀ i : Nat, ((((i) : Nat) < 1) → (All [] ∧ (([.p (.int .i64 (v.fst)), .p (.seq true 2 (v.snd.fst.fst) (fun i_1 => [.int .i64 ((v.snd.fst.snd i_1).fst), .int .i64 ((v.snd.fst.snd i_1).snd.fst)]))] : List AV) = [.p (.int .i64 (v.fst)), .p (.seq true 2 (v.snd.fst.fst) (fun i_1 => [.int .i64 ((v.snd.fst.snd i_1).fst), .int .i64 ((v.snd.fst.snd i_1).snd.fst)]))]))))]) := by kernel_rfl
theorem p52d (v : T_Graph) (p : Int) (k : Nat) :
    pathOb Try.prog Try.f52 0 [.reg [oT], .dec false, .reg [oT, oT]] [.code (cAt (bodyOf Try.f52) [1, 1, 0, 1, 0, 0]), .inLoop (cAt (bodyOf Try.f52) [1, 1, 0, 1, 0, 0]), .inBlock 0, .code (cAt (bodyOf Try.f52) [1, 1, 1])] (S52 v p k) [] 1 [] (.p (.int .i64 (degF v.2.1.2 p k))) =
    some [((decide ((↑k : Int) < (↑v.snd.fst.fst : Int))) = false),
  (((degF v.snd.fst.snd p k) : Int) = (degF v.snd.fst.snd p k))] := by kernel_rfl
theorem p28a (v : T_Graph) :
    pieceOb Try.prog 0 [.reg [oT, oT], .reg [oT, oT], .reg [oT], .head] [.code (bodyOf Try.f28)] (start Try.f28 [] 0 [graphA v]) [0, 64] 1 (S28 v 0) =
    some ([.code (cAt (bodyOf Try.f28) [1, 1, 0, 1, 0, 0]), .inLoop (cAt (bodyOf Try.f28) [1, 1, 0, 1, 0, 0]), .inBlock 0, .code (cAt (bodyOf Try.f28) [1, 1, 1])], [(((v.fst) : Int) = (v.fst)),
  (((v.snd.fst.fst) : Nat) = (v.snd.fst.fst)),
  (∀ i : Nat, ((((i) : Nat) < (v.snd.fst.fst)) → (([.int .i64 ((v.snd.fst.snd i).fst), .int .i64 ((v.snd.fst.snd i).snd.fst)] : List PV) = [.int .i64 ((v.snd.fst.snd i).fst), .int .i64 ((v.snd.fst.snd i).snd.fst)]))),
  ((0 : Nat) = 0),
  ((0 : Nat) = 0),
  ((0 : Nat) = ((looseL v 0).length)),
  ((0 : Int) = ((↑0 : Int))),
  ((([AV.p (PV.int IntKind.i64 v.fst), graphL v.snd.fst].length) : Nat) = 2),
  ((1 : Nat) ≤ 1),
  (∀ i : Nat, ((((i) : Nat) < 1) → (All [] ∧ (([.p (.int .i64 (v.fst)), .p (.seq true 2 (v.snd.fst.fst) (fun i_1 => [.int .i64 ((v.snd.fst.snd i_1).fst), .int .i64 ((v.snd.fst.snd i_1).snd.fst)]))] : List AV) = [.p (.int .i64 (v.fst)), .p (.seq true 2 (v.snd.fst.fst) (fun i_1 => [.int .i64 ((v.snd.fst.snd i_1).fst), .int .i64 ((v.snd.fst.snd i_1).snd.fst)]))])))),
  ((1 : Nat) = 1),
  ((((looseL v 0).length) : Nat) ≤ 0),
  (∀ i : Nat, ((((i) : Nat) < ((looseL v 0).length)) → (All [] ∧ (([.p .any] : List AV) = [.p (.int .i64 ((looseL v 0).getD i 0))]))))]) := by kernel_rfl
theorem p28b (v : T_Graph) (k : Nat) :
    pieceOb Try.prog 0 [.reg [oT, oT, oT, oT, oT, oT, ⟨true, (some ⟨[], [], 1, [], .p (.bool (isGraphF v))⟩)⟩, oT], .dec true, .reg [oT, oT, ⟨true, (some ⟨[], [], 1, [], .p (.int .i64 (degF v.2.1.2 k v.2.1.1))⟩)⟩, oT], .dec true, .reg [oT, oT, oT, oT, oT], .reg [oT, oT, oT], .head] [.code (cAt (bodyOf Try.f28) [1, 1, 0, 1, 0, 0]), .inLoop (cAt (bodyOf Try.f28) [1, 1, 0, 1, 0, 0]), .inBlock 0, .code (cAt (bodyOf Try.f28) [1, 1, 1])] (S28 v k) [0, 482] 1 (S28 v (k + 1)) =
    some ([.code (cAt (bodyOf Try.f28) [1, 1, 0, 1, 0, 0]), .inLoop (cAt (bodyOf Try.f28) [1, 1, 0, 1, 0, 0]), .inBlock 0, .code (cAt (bodyOf Try.f28) [1, 1, 1])], [((0 : Nat) < 1),
  (((decide ((↑k : Int) < v.fst)) = true) → ((0 : Nat) < 1)),
  (((decide ((↑k : Int) < v.fst)) = true) → ((decide ((↑k : Int) < v.fst)) = true)),
  (((decide ((↑k : Int) < v.fst)) = true) → Con (Try.prog) 48 0 [] [.agg [.p (.int .i64 (v.fst)), .p (.seq true 2 (v.snd.fst.fst) (fun i => [.int .i64 ((v.snd.fst.snd i).fst), .int .i64 ((v.snd.fst.snd i).snd.fst)]))]] [] (.p (.bool (isGraphF v)))),
  (((decide ((↑k : Int) < v.fst)) = true) → ((decide ((↑k : Int) < v.fst)) = true)),
  ((bif decide ((↑k : Int) < v.fst) then isGraphF v else false) = true),
  ((0 : Nat) < 1),
  Con (Try.prog) 49 0 [] [.agg [.p (.int .i64 (v.fst)), .p (.seq true 2 (v.snd.fst.fst) (fun i => [.int .i64 ((v.snd.fst.snd i).fst), .int .i64 ((v.snd.fst.snd i).snd.fst)]))], .p (.int .i64 ((↑k : Int)))] [] (.p (.int .i64 (degF v.snd.fst.snd (↑k : Int) v.snd.fst.fst))),
  ((degF v.snd.fst.snd (↑k : Int) v.snd.fst.fst == 0) = true),
  ((1 : Nat) ≤ 1),
  ((((looseL v k).length) : Nat) ≤ ((looseL v k).length)),
  (((((looseL v k).length + 1) * 8) : Nat) ≤ 140737488355328),
  ((((looseL v k).length + 1) : Nat) ≤ 9223372036854775807),
  (((-9223372036854775808) : Int) ≤ ((↑k : Int) + 1)),
  ((((↑k : Int) + 1) : Int) ≤ 9223372036854775807),
  (((v.fst) : Int) = (v.fst)),
  (((v.snd.fst.fst) : Nat) = (v.snd.fst.fst)),
  (∀ i : Nat, ((((i) : Nat) < (v.snd.fst.fst)) → (([.int .i64 ((v.snd.fst.snd i).fst), .int .i64 ((v.snd.fst.snd i).snd.fst)] : List PV) = [.int .i64 ((v.snd.fst.snd i).fst), .int .i64 ((v.snd.fst.snd i).snd.fst)]))),
  ((0 : Nat) = 0),
  ((0 : Nat) = 0),
  ((((looseL v k).length + 1) : Nat) = ((looseL v (k + 1)).length)),
  ((((↑k : Int) + 1) : Int) = ((↑(k + 1) : Int))),
  ((2 : Nat) = 2),
  ((1 : Nat) ≤ 1),
  (∀ i : Nat, ((((i) : Nat) < 1) → (All [] ∧ (([.p (.int .i64 (v.fst)), .p (.seq true 2 (v.snd.fst.fst) (fun i_1 => [.int .i64 ((v.snd.fst.snd i_1).fst), .int .i64 ((v.snd.fst.snd i_1).snd.fst)]))] : List AV) = [.p (.int .i64 (v.fst)), .p (.seq true 2 (v.snd.fst.fst) (fun i_1 => [.int .i64 ((v.snd.fst.snd i_1).fst), .int .i64 ((v.snd.fst.snd i_1).snd.fst)]))])))),
  ((1 : Nat) = 1),
  ((((looseL v (k + 1)).length) : Nat) ≤ ((looseL v k).length + 1)),
  (∀ i : Nat, ((((i) : Nat) < ((looseL v (k + 1)).length)) → (All (cvtL false [(482, ⟨false, 1, ((looseL v k).length + 1), (fun i_1 => (if (i_1 < (looseL v k).length) then [.p (.int .i64 ((looseL v k).getD i_1 0))] else [.p (.int .i64 ((↑k : Int)))]))⟩), (450, ⟨false, 1, 1, (fun i_1 => [.p (.int .i64 ((↑k : Int)))])⟩), (0, ⟨true, 2, 1, (fun i_1 => [.p (.int .i64 (v.fst)), .p (.seq true 2 (v.snd.fst.fst) (fun i_2 => [.int .i64 ((v.snd.fst.snd i_2).fst), .int .i64 ((v.snd.fst.snd i_2).snd.fst)]))])⟩)] [0, 482] 1 (if (i < (looseL v k).length) then [.p (.int .i64 ((looseL v k).getD i 0))] else [.p (.int .i64 ((↑k : Int)))])).2 ∧ (((cvtL false [(482, ⟨false, 1, ((looseL v k).length + 1), (fun i_1 => (if (i_1 < (looseL v k).length) then [.p (.int .i64 ((looseL v k).getD i_1 0))] else [.p (.int .i64 ((↑k : Int)))]))⟩), (450, ⟨false, 1, 1, (fun i_1 => [.p (.int .i64 ((↑k : Int)))])⟩), (0, ⟨true, 2, 1, (fun i_1 => [.p (.int .i64 (v.fst)), .p (.seq true 2 (v.snd.fst.fst) (fun i_2 => [.int .i64 ((v.snd.fst.snd i_2).fst), .int .i64 ((v.snd.fst.snd i_2).snd.fst)]))])⟩)] [0, 482] 1 (if (i < (looseL v k).length) then [.p (.int .i64 ((looseL v k).getD i 0))] else [.p (.int .i64 ((↑k : Int)))])).1 : List AV) = [.p (.int .i64 ((looseL v (k + 1)).getD i 0))]))))]) := by kernel_rfl
theorem p28c (v : T_Graph) (k : Nat) :
    pieceOb Try.prog 0 [.reg [oT, oT, oT, oT, oT, oT, ⟨true, (some ⟨[], [], 1, [], .p (.bool (isGraphF v))⟩)⟩, oT], .dec true, .reg [oT, oT, ⟨true, (some ⟨[], [], 1, [], .p (.int .i64 (degF v.2.1.2 k v.2.1.1))⟩)⟩, oT], .dec false, .reg [oT, oT, oT], .head] [.code (cAt (bodyOf Try.f28) [1, 1, 0, 1, 0, 0]), .inLoop (cAt (bodyOf Try.f28) [1, 1, 0, 1, 0, 0]), .inBlock 0, .code (cAt (bodyOf Try.f28) [1, 1, 1])] (S28 v k) [0, 1] 1 (S28 v (k + 1)) =
    some ([.code (cAt (bodyOf Try.f28) [1, 1, 0, 1, 0, 0]), .inLoop (cAt (bodyOf Try.f28) [1, 1, 0, 1, 0, 0]), .inBlock 0, .code (cAt (bodyOf Try.f28) [1, 1, 1])], [((0 : Nat) < 1),
  (((decide ((↑k : Int) < v.fst)) = true) → ((0 : Nat) < 1)),
  (((decide ((↑k : Int) < v.fst)) = true) → ((decide ((↑k : Int) < v.fst)) = true)),
  (((decide ((↑k : Int) < v.fst)) = true) → Con (Try.prog) 48 0 [] [.agg [.p (.int .i64 (v.fst)), .p (.seq true 2 (v.snd.fst.fst) (fun i => [.int .i64 ((v.snd.fst.snd i).fst), .int .i64 ((v.snd.fst.snd i).snd.fst)]))]] [] (.p (.bool (isGraphF v)))),
  (((decide ((↑k : Int) < v.fst)) = true) → ((decide ((↑k : Int) < v.fst)) = true)),
  ((bif decide ((↑k : Int) < v.fst) then isGraphF v else false) = true),
  ((0 : Nat) < 1),
  Con (Try.prog) 49 0 [] [.agg [.p (.int .i64 (v.fst)), .p (.seq true 2 (v.snd.fst.fst) (fun i => [.int .i64 ((v.snd.fst.snd i).fst), .int .i64 ((v.snd.fst.snd i).snd.fst)]))], .p (.int .i64 ((↑k : Int)))] [] (.p (.int .i64 (degF v.snd.fst.snd (↑k : Int) v.snd.fst.fst))),
  ((degF v.snd.fst.snd (↑k : Int) v.snd.fst.fst == 0) = false),
  (((-9223372036854775808) : Int) ≤ ((↑k : Int) + 1)),
  ((((↑k : Int) + 1) : Int) ≤ 9223372036854775807),
  (((v.fst) : Int) = (v.fst)),
  (((v.snd.fst.fst) : Nat) = (v.snd.fst.fst)),
  (∀ i : Nat, ((((i) : Nat) < (v.snd.fst.fst)) → (([.int .i64 ((v.snd.fst.snd i).fst), .int .i64 ((v.snd.fst.snd i).snd.fst)] : List PV) = [.int .i64 ((v.snd.fst.snd i).fst), .int .i64 ((v.snd.fst.snd i).snd.fst)]))),
  ((0 : Nat) = 0),
  ((0 : Nat) = 0),
  ((((looseL v k).length) : Nat) = ((looseL v (k + 1)).length)),
  ((((↑k : Int) + 1) : Int) = ((↑(k + 1) : Int))),
  ((2 : Nat) = 2),
  ((1 : Nat) ≤ 1),
  (∀ i : Nat, ((((i) : Nat) < 1) → (All [] ∧ (([.p (.int .i64 (v.fst)), .p (.seq true 2 (v.snd.fst.fst) (fun i_1 => [.int .i64 ((v.snd.fst.snd i_1).fst), .int .i64 ((v.snd.fst.snd i_1).snd.fst)]))] : List AV) = [.p (.int .i64 (v.fst)), .p (.seq true 2 (v.snd.fst.fst) (fun i_1 => [.int .i64 ((v.snd.fst.snd i_1).fst), .int .i64 ((v.snd.fst.snd i_1).snd.fst)]))])))),
  ((1 : Nat) = 1),
  ((((looseL v (k + 1)).length) : Nat) ≤ ((looseL v k).length)),
  (∀ i : Nat, ((((i) : Nat) < ((looseL v (k + 1)).length)) → (All [] ∧ (([.p (.int .i64 ((looseL v k).getD i 0))] : List AV) = [.p (.int .i64 ((looseL v (k + 1)).getD i 0))]))))]) := by kernel_rfl
theorem p28d (v : T_Graph) (k : Nat) :
    pathOb Try.prog Try.f28 0 [.reg [oT, oT, oT, oT, oT, oT, ⟨true, (some ⟨[], [], 1, [], .p (.bool (isGraphF v))⟩)⟩, oT], .dec false, .reg [oT, oT]] [.code (cAt (bodyOf Try.f28) [1, 1, 0, 1, 0, 0]), .inLoop (cAt (bodyOf Try.f28) [1, 1, 0, 1, 0, 0]), .inBlock 0, .code (cAt (bodyOf Try.f28) [1, 1, 1])] (S28 v k) [1] 1 [(0, intsOb (looseL v k))] (.ar 1 0 0 (looseL v k).length) =
    some [((0 : Nat) < 1),
  (((decide ((↑k : Int) < v.fst)) = true) → ((0 : Nat) < 1)),
  (((decide ((↑k : Int) < v.fst)) = true) → ((decide ((↑k : Int) < v.fst)) = true)),
  (((decide ((↑k : Int) < v.fst)) = true) → Con (Try.prog) 48 0 [] [.agg [.p (.int .i64 (v.fst)), .p (.seq true 2 (v.snd.fst.fst) (fun i => [.int .i64 ((v.snd.fst.snd i).fst), .int .i64 ((v.snd.fst.snd i).snd.fst)]))]] [] (.p (.bool (isGraphF v)))),
  (((decide ((↑k : Int) < v.fst)) = true) → ((decide ((↑k : Int) < v.fst)) = true)),
  ((bif decide ((↑k : Int) < v.fst) then isGraphF v else false) = false),
  ((0 : Nat) = 0),
  ((((looseL v k).length) : Nat) = ((looseL v k).length)),
  ((1 : Nat) = 1),
  ((((looseL v k).length) : Nat) ≤ ((looseL v k).length)),
  (∀ i : Nat, ((((i) : Nat) < ((looseL v k).length)) → (All [] ∧ (([.p (.int .i64 ((looseL v k).getD i 0))] : List AV) = [.p (.int .i64 ((looseL v k).getD i 0))])))),
  (∀ i : Nat, ((((i) : Nat) < ((looseL v k).length)) → All []))] := by kernel_rfl
theorem p30z (v : T_Graph) :
    pathOb Try.prog Try.f30 0 [.reg [oT, oT], .reg [oT, oT], .reg [oT, ⟨true, (some ⟨[], [], 1, [], .p (.bool (isGraphF v))⟩)⟩, oT], .dec true, .reg [oT, oT]] [.code (bodyOf Try.f30)] (start Try.f30 [] 0 [graphA v]) [64] 1 [(0, ⟨false, 1, 0, fun i => [.p (.int .i64 0)]⟩)] (.ar 1 0 0 0) =
    some [((0 : Nat) < 1),
  Con (Try.prog) 51 0 [] [.agg [.p (.int .i64 (v.fst)), .p (.seq true 2 (v.snd.fst.fst) (fun i => [.int .i64 ((v.snd.fst.snd i).fst), .int .i64 ((v.snd.fst.snd i).snd.fst)]))]] [] (.p (.bool (isGraphF v))),
  ((!isGraphF v) = true),
  ((0 : Nat) = 0),
  ((0 : Nat) = 0),
  ((1 : Nat) = 1),
  ((0 : Nat) ≤ 0),
  (∀ i : Nat, ((((i) : Nat) < 0) → (All [] ∧ (([.p .any] : List AV) = [.p (.int .i64 0)])))),
  (∀ i : Nat, ((((i) : Nat) < 0) → All []))] := by kernel_rfl
theorem p30a (v : T_Graph) :
    pieceOb Try.prog 0 [.reg [oT, oT], .reg [oT, oT], .reg [oT, ⟨true, (some ⟨[], [], 1, [], .p (.bool (isGraphF v))⟩)⟩, oT], .dec false, .reg [oT, oT, oT], .head] [.code (bodyOf Try.f30)] (start Try.f30 [] 0 [graphA v]) [0, 64] 1 (S30 v 0) =
    some ([.code (cAt (bodyOf Try.f30) [1, 1, 1, 0, 1, 0, 0]), .inLoop (cAt (bodyOf Try.f30) [1, 1, 1, 0, 1, 0, 0]), .inBlock 0, .code (cAt (bodyOf Try.f30) [1, 1, 1, 1])], [((0 : Nat) < 1),
  Con (Try.prog) 51 0 [] [.agg [.p (.int .i64 (v.fst)), .p (.seq true 2 (v.snd.fst.fst) (fun i => [.int .i64 ((v.snd.fst.snd i).fst), .int .i64 ((v.snd.fst.snd i).snd.fst)]))]] [] (.p (.bool (isGraphF v))),
  ((!isGraphF v) = false),
  ((0 : Nat) < 1),
  (((v.fst) : Int) = (v.fst)),
  (((v.snd.fst.fst) : Nat) = (v.snd.fst.fst)),
  (∀ i : Nat, ((((i) : Nat) < (v.snd.fst.fst)) → (([.int .i64 ((v.snd.fst.snd i).fst), .int .i64 ((v.snd.fst.snd i).snd.fst)] : List PV) = [.int .i64 ((v.snd.fst.snd i).fst), .int .i64 ((v.snd.fst.snd i).snd.fst)]))),
  ((0 : Nat) = 0),
  ((0 : Nat) = 0),
  ((0 : Nat) = ((looseL v 0).length)),
  (((v.fst) : Int) = (v.fst)),
  ((0 : Int) = ((↑0 : Int))),
  ((([AV.p (PV.int IntKind.i64 v.fst), graphL v.snd.fst].length) : Nat) = 2),
  ((1 : Nat) ≤ 1),
  (∀ i : Nat, ((((i) : Nat) < 1) → (All [] ∧ (([.p (.int .i64 (v.fst)), .p (.seq true 2 (v.snd.fst.fst) (fun i_1 => [.int .i64 ((v.snd.fst.snd i_1).fst), .int .i64 ((v.snd.fst.snd i_1).snd.fst)]))] : List AV) = [.p (.int .i64 (v.fst)), .p (.seq true 2 (v.snd.fst.fst) (fun i_1 => [.int .i64 ((v.snd.fst.snd i_1).fst), .int .i64 ((v.snd.fst.snd i_1).snd.fst)]))])))),
  ((1 : Nat) = 1),
  ((((looseL v 0).length) : Nat) ≤ 0),
  (∀ i : Nat, ((((i) : Nat) < ((looseL v 0).length)) → (All [] ∧ (([.p .any] : List AV) = [.p (.int .i64 ((looseL v 0).getD i 0))]))))]) := by kernel_rfl
theorem p30b (v : T_Graph) (k : Nat) :
    pieceOb Try.prog 0 [.reg [oT], .dec true, .reg [oT, oT], .reg [oT, oT, ⟨true, (some ⟨[], [], 1, [], .p (.int .i64 (degF v.2.1.2 k v.2.1.1))⟩)⟩, oT], .dec true, .reg [oT, oT, oT, oT, oT], .reg [oT, oT], .head] [.code (cAt (bodyOf Try.f30) [1, 1, 1, 0, 1, 0, 0]), .inLoop (cAt (bodyOf Try.f30) [1, 1, 1, 0, 1, 0, 0]), .inBlock 0, .code (cAt (bodyOf Try.f30) [1, 1, 1, 1])] (S30 v k) [0, 322] 1 (S30 v (k + 1)) =
    some ([.code (cAt (bodyOf Try.f30) [1, 1, 1, 0, 1, 0, 0]), .inLoop (cAt (bodyOf Try.f30) [1, 1, 1, 0, 1, 0, 0]), .inBlock 0, .code (cAt (bodyOf Try.f30) [1, 1, 1, 1])], [((decide ((↑k : Int) < v.fst)) = true),
  ((0 : Nat) < 1),
  Con (Try.prog) 52 0 [] [.agg [.p (.int .i64 (v.fst)), .p (.seq true 2 (v.snd.fst.fst) (fun i => [.int .i64 ((v.snd.fst.snd i).fst), .int .i64 ((v.snd.fst.snd i).snd.fst)]))], .p (.int .i64 ((↑k : Int)))] [] (.p (.int .i64 (degF v.snd.fst.snd (↑k : Int) v.snd.fst.fst))),
  ((degF v.snd.fst.snd (↑k : Int) v.snd.fst.fst == 0) = true),
  ((1 : Nat) ≤ 1),
  ((((looseL v k).length) : Nat) ≤ ((looseL v k).length)),
  (((((looseL v k).length + 1) * 8) : Nat) ≤ 140737488355328),
  ((((looseL v k).length + 1) : Nat) ≤ 9223372036854775807),
  (((-9223372036854775808) : Int) ≤ ((↑k : Int) + 1)),
  ((((↑k : Int) + 1) : Int) ≤ 9223372036854775807),
  (((v.fst) : Int) = (v.fst)),
  (((v.snd.fst.fst) : Nat) = (v.snd.fst.fst)),
  (∀ i : Nat, ((((i) : Nat) < (v.snd.fst.fst)) → (([.int .i64 ((v.snd.fst.snd i).fst), .int .i64 ((v.snd.fst.snd i).snd.fst)] : List PV) = [.int .i64 ((v.snd.fst.snd i).fst), .int .i64 ((v.snd.fst.snd i).snd.fst)]))),
  ((0 : Nat) = 0),
  ((0 : Nat) = 0),
  ((((looseL v k).length + 1) : Nat) = ((looseL v (k + 1)).length)),
  (((v.fst) : Int) = (v.fst)),
  ((((↑k : Int) + 1) : Int) = ((↑(k + 1) : Int))),
  ((2 : Nat) = 2),
  ((1 : Nat) ≤ 1),
  (∀ i : Nat, ((((i) : Nat) < 1) → (All [] ∧ (([.p (.int .i64 (v.fst)), .p (.seq true 2 (v.snd.fst.fst) (fun i_1 => [.int .i64 ((v.snd.fst.snd i_1).fst), .int .i64 ((v.snd.fst.snd i_1).snd.fst)]))] : List AV) = [.p (.int .i64 (v.fst)), .p (.seq true 2 (v.snd.fst.fst) (fun i_1 => [.int .i64 ((v.snd.fst.snd i_1).fst), .int .i64 ((v.snd.fst.snd i_1).snd.fst)]))])))),
  ((1 : Nat) = 1),
  ((((looseL v (k + 1)).length) : Nat) ≤ ((looseL v k).length + 1)),
  (∀ i : Nat, ((((i) : Nat) < ((looseL v (k + 1)).length)) → (All (cvtL false [(322, ⟨false, 1, ((looseL v k).length + 1), (fun i_1 => (if (i_1 < (looseL v k).length) then [.p (.int .i64 ((looseL v k).getD i_1 0))] else [.p (.int .i64 ((↑k : Int)))]))⟩), (290, ⟨false, 1, 1, (fun i_1 => [.p (.int .i64 ((↑k : Int)))])⟩), (0, ⟨true, 2, 1, (fun i_1 => [.p (.int .i64 (v.fst)), .p (.seq true 2 (v.snd.fst.fst) (fun i_2 => [.int .i64 ((v.snd.fst.snd i_2).fst), .int .i64 ((v.snd.fst.snd i_2).snd.fst)]))])⟩)] [0, 322] 1 (if (i < (looseL v k).length) then [.p (.int .i64 ((looseL v k).getD i 0))] else [.p (.int .i64 ((↑k : Int)))])).2 ∧ (((cvtL false [(322, ⟨false, 1, ((looseL v k).length + 1), (fun i_1 => (if (i_1 < (looseL v k).length) then [.p (.int .i64 ((looseL v k).getD i_1 0))] else [.p (.int .i64 ((↑k : Int)))]))⟩), (290, ⟨false, 1, 1, (fun i_1 => [.p (.int .i64 ((↑k : Int)))])⟩), (0, ⟨true, 2, 1, (fun i_1 => [.p (.int .i64 (v.fst)), .p (.seq true 2 (v.snd.fst.fst) (fun i_2 => [.int .i64 ((v.snd.fst.snd i_2).fst), .int .i64 ((v.snd.fst.snd i_2).snd.fst)]))])⟩)] [0, 322] 1 (if (i < (looseL v k).length) then [.p (.int .i64 ((looseL v k).getD i 0))] else [.p (.int .i64 ((↑k : Int)))])).1 : List AV) = [.p (.int .i64 ((looseL v (k + 1)).getD i 0))]))))]) := by kernel_rfl
theorem p30c (v : T_Graph) (k : Nat) :
    pieceOb Try.prog 0 [.reg [oT], .dec true, .reg [oT, oT], .reg [oT, oT, ⟨true, (some ⟨[], [], 1, [], .p (.int .i64 (degF v.2.1.2 k v.2.1.1))⟩)⟩, oT], .dec false, .reg [oT, oT], .head] [.code (cAt (bodyOf Try.f30) [1, 1, 1, 0, 1, 0, 0]), .inLoop (cAt (bodyOf Try.f30) [1, 1, 1, 0, 1, 0, 0]), .inBlock 0, .code (cAt (bodyOf Try.f30) [1, 1, 1, 1])] (S30 v k) [0, 1] 1 (S30 v (k + 1)) =
    some ([.code (cAt (bodyOf Try.f30) [1, 1, 1, 0, 1, 0, 0]), .inLoop (cAt (bodyOf Try.f30) [1, 1, 1, 0, 1, 0, 0]), .inBlock 0, .code (cAt (bodyOf Try.f30) [1, 1, 1, 1])], [((decide ((↑k : Int) < v.fst)) = true),
  ((0 : Nat) < 1),
  Con (Try.prog) 52 0 [] [.agg [.p (.int .i64 (v.fst)), .p (.seq true 2 (v.snd.fst.fst) (fun i => [.int .i64 ((v.snd.fst.snd i).fst), .int .i64 ((v.snd.fst.snd i).snd.fst)]))], .p (.int .i64 ((↑k : Int)))] [] (.p (.int .i64 (degF v.snd.fst.snd (↑k : Int) v.snd.fst.fst))),
  ((degF v.snd.fst.snd (↑k : Int) v.snd.fst.fst == 0) = false),
  (((-9223372036854775808) : Int) ≤ ((↑k : Int) + 1)),
  ((((↑k : Int) + 1) : Int) ≤ 9223372036854775807),
  (((v.fst) : Int) = (v.fst)),
  (((v.snd.fst.fst) : Nat) = (v.snd.fst.fst)),
  (∀ i : Nat, ((((i) : Nat) < (v.snd.fst.fst)) → (([.int .i64 ((v.snd.fst.snd i).fst), .int .i64 ((v.snd.fst.snd i).snd.fst)] : List PV) = [.int .i64 ((v.snd.fst.snd i).fst), .int .i64 ((v.snd.fst.snd i).snd.fst)]))),
  ((0 : Nat) = 0),
  ((0 : Nat) = 0),
  ((((looseL v k).length) : Nat) = ((looseL v (k + 1)).length)),
  (((v.fst) : Int) = (v.fst)),
  ((((↑k : Int) + 1) : Int) = ((↑(k + 1) : Int))),
  ((2 : Nat) = 2),
  ((1 : Nat) ≤ 1),
  (∀ i : Nat, ((((i) : Nat) < 1) → (All [] ∧ (([.p (.int .i64 (v.fst)), .p (.seq true 2 (v.snd.fst.fst) (fun i_1 => [.int .i64 ((v.snd.fst.snd i_1).fst), .int .i64 ((v.snd.fst.snd i_1).snd.fst)]))] : List AV) = [.p (.int .i64 (v.fst)), .p (.seq true 2 (v.snd.fst.fst) (fun i_1 => [.int .i64 ((v.snd.fst.snd i_1).fst), .int .i64 ((v.snd.fst.snd i_1).snd.fst)]))])))),
  ((1 : Nat) = 1),
  ((((looseL v (k + 1)).length) : Nat) ≤ ((looseL v k).length)),
  (∀ i : Nat, ((((i) : Nat) < ((looseL v (k + 1)).length)) → (All [] ∧ (([.p (.int .i64 ((looseL v k).getD i 0))] : List AV) = [.p (.int .i64 ((looseL v (k + 1)).getD i 0))]))))]) := by kernel_rfl
theorem p30d (v : T_Graph) (k : Nat) :
    pathOb Try.prog Try.f30 0 [.reg [oT], .dec false, .reg [oT, oT]] [.code (cAt (bodyOf Try.f30) [1, 1, 1, 0, 1, 0, 0]), .inLoop (cAt (bodyOf Try.f30) [1, 1, 1, 0, 1, 0, 0]), .inBlock 0, .code (cAt (bodyOf Try.f30) [1, 1, 1, 1])] (S30 v k) [1] 1 [(0, intsOb (looseL v k))] (.ar 1 0 0 (looseL v k).length) =
    some [((decide ((↑k : Int) < v.fst)) = false),
  ((0 : Nat) = 0),
  ((((looseL v k).length) : Nat) = ((looseL v k).length)),
  ((1 : Nat) = 1),
  ((((looseL v k).length) : Nat) ≤ ((looseL v k).length)),
  (∀ i : Nat, ((((i) : Nat) < ((looseL v k).length)) → (All [] ∧ (([.p (.int .i64 ((looseL v k).getD i 0))] : List AV) = [.p (.int .i64 ((looseL v k).getD i 0))])))),
  (∀ i : Nat, ((((i) : Nat) < ((looseL v k).length)) → All []))] := by kernel_rfl

theorem con_has (b : T_Bar) (p : Int) : Con Try.prog 60 0 [] [barA b, .p (.int .i64 p)] [] (.p (.bool (hasB b p))) := by
  refine con_start Try.func60 rfl (by kernel_rfl) rfl (fun c hc => ?_)
  refine path_ok mixed Try.func60 hc (p60 b p) ?_
  simp only [All]
  repeat' (first | exact trivial | with_reducible apply And.intro)
  all_goals (first | omega | rfl | (intros; first | assumption | trivial | rfl | ((repeat' (first | assumption | apply anda | apply notf)); done)))

theorem degF_bd (g : Nat → T_Bar) (p : Int) : ∀ k : Nat, 0 ≤ degF g p k ∧ degF g p k ≤ k
  | 0 => ⟨Int.le_refl _, Int.le_refl _⟩
  | k + 1 => by
    have := degF_bd g p k
    unfold degF
    split <;> omega

theorem con_DegreeOf_s (v : T_Graph) (p : Int) (hs : smS s_Graph v) : Con Try.prog 49 0 [] [graphA v, .p (.int .i64 p)] [] (.p (.int .i64 (degF v.2.1.2 p v.2.1.1))) := by
  refine con_start Try.func49 rfl (by kernel_rfl) rfl (fun c hc => ?_)
  have hn : v.2.1.1 ≤ 1048576 := hs.2.1.1
  have lp : ∀ m k, k + m = v.2.1.1 → Run Try.prog c 49 [.code (cAt (bodyOf Try.f49) [1, 1, 0, 1, 0, 0]), .inLoop (cAt (bodyOf Try.f49) [1, 1, 0, 1, 0, 0]), .inBlock 0, .code (cAt (bodyOf Try.f49) [1, 1, 1])] (S49 v p k) (Post c [] (.p (.int .i64 (degF v.2.1.2 p v.2.1.1)))) := by
    intro m
    induction m with
    | zero =>
      intro k hk
      rw [show v.2.1.1 = k by omega]
      have hd : decide ((k : Int) < (v.2.1.1 : Int)) = false := by simp; omega
      refine path_ok mixed Try.func49 hc (p49d v p k) ?_
      simp only [All]
      repeat' (first | exact trivial | with_reducible apply And.intro)
      all_goals (first | omega | rfl | (intros; first | assumption | trivial | rfl | ((repeat' (first | assumption | apply anda | apply notf)); done)))
    | succ m ih =>
      intro k hk
      have hb := degF_bd v.2.1.2 p k
      have hd : decide ((k : Int) < (v.2.1.1 : Int)) = true := by simp; omega
      cases he : hasB (v.2.1.2 k) p with
      | true =>
        have hstep : degF v.2.1.2 p (k + 1) = degF v.2.1.2 p k + 1 := by rw [degF, if_pos he]
        refine piece_ok mixed hc (p49b v p k) ?_ (ih (k + 1) (by omega))
        simp only [All]
        repeat' (first | exact trivial | with_reducible apply And.intro)
        all_goals (first | omega | rfl | (intros; first | assumption | trivial | rfl | ((repeat' (first | assumption | apply anda | apply notf)); done)) | (exact he) | (simp [All]))
      | false =>
        have hstep : degF v.2.1.2 p (k + 1) = degF v.2.1.2 p k := by rw [degF, he]; rfl
        refine piece_ok mixed hc (p49c v p k) ?_ (ih (k + 1) (by omega))
        simp only [All]
        repeat' (first | exact trivial | with_reducible apply And.intro)
        all_goals (first | omega | rfl | (intros; first | assumption | trivial | rfl | ((repeat' (first | assumption | apply anda | apply notf)); done)) | (exact he) | (simp [All]))
  refine piece_ok mixed hc (p49a v p) ?_ (lp v.2.1.1 0 (by omega))
  simp only [All]
  repeat' (first | exact trivial | with_reducible apply And.intro)
  all_goals (first | omega | rfl | (intros; first | assumption | trivial | rfl | ((repeat' (first | assumption | apply anda | apply notf)); done)) | (simp [All]))

theorem con_DegreeOf_i (v : T_Graph) (p : Int) (hs : smS s_Graph v) : Con Try.prog 52 0 [] [graphA v, .p (.int .i64 p)] [] (.p (.int .i64 (degF v.2.1.2 p v.2.1.1))) := by
  refine con_start Try.func52 rfl (by kernel_rfl) rfl (fun c hc => ?_)
  have hn : v.2.1.1 ≤ 1048576 := hs.2.1.1
  have lp : ∀ m k, k + m = v.2.1.1 → Run Try.prog c 52 [.code (cAt (bodyOf Try.f52) [1, 1, 0, 1, 0, 0]), .inLoop (cAt (bodyOf Try.f52) [1, 1, 0, 1, 0, 0]), .inBlock 0, .code (cAt (bodyOf Try.f52) [1, 1, 1])] (S52 v p k) (Post c [] (.p (.int .i64 (degF v.2.1.2 p v.2.1.1)))) := by
    intro m
    induction m with
    | zero =>
      intro k hk
      have e : v.2.1.1 = k := by omega
      have hd : decide ((k : Int) < (v.2.1.1 : Int)) = false := by simp; omega
      rw [show degF v.2.1.2 p v.2.1.1 = degF v.2.1.2 p k by rw [e]]
      refine path_ok mixed Try.func52 hc (p52d v p k) ?_
      simp only [All]
      repeat' (first | exact trivial | with_reducible apply And.intro)
      all_goals (first | omega | rfl | (intros; first | assumption | trivial | rfl | ((repeat' (first | assumption | apply anda | apply notf)); done)))
    | succ m ih =>
      intro k hk
      have hb := degF_bd v.2.1.2 p k
      have hd : decide ((k : Int) < (v.2.1.1 : Int)) = true := by simp; omega
      cases he : hasB (v.2.1.2 k) p with
      | true =>
        have hstep : degF v.2.1.2 p (k + 1) = degF v.2.1.2 p k + 1 := by rw [degF, if_pos he]
        refine piece_ok mixed hc (p52b v p k) ?_ (ih (k + 1) (by omega))
        simp only [All]
        repeat' (first | exact trivial | with_reducible apply And.intro)
        all_goals (first | omega | rfl | (intros; first | assumption | trivial | rfl | ((repeat' (first | assumption | apply anda | apply notf)); done)) | (exact con_has _ _) | (exact he) | (simp [All]))
      | false =>
        have hstep : degF v.2.1.2 p (k + 1) = degF v.2.1.2 p k := by rw [degF, he]; rfl
        refine piece_ok mixed hc (p52c v p k) ?_ (ih (k + 1) (by omega))
        simp only [All]
        repeat' (first | exact trivial | with_reducible apply And.intro)
        all_goals (first | omega | rfl | (intros; first | assumption | trivial | rfl | ((repeat' (first | assumption | apply anda | apply notf)); done)) | (exact con_has _ _) | (exact he) | (simp [All]))
  refine piece_ok mixed hc (p52a v p) ?_ (lp v.2.1.1 0 (by omega))
  simp only [All]
  repeat' (first | exact trivial | with_reducible apply And.intro)
  all_goals (first | omega | rfl | (intros; first | assumption | trivial | rfl | ((repeat' (first | assumption | apply anda | apply notf)); done)) | (simp [All]))

theorem looseL_len (v : T_Graph) : ∀ k, (looseL v k).length ≤ k
  | 0 => Nat.le_refl _
  | k + 1 => by
    have := looseL_len v k
    unfold looseL
    split
    · simp; omega
    · omega

theorem isGraph_in {v : T_Graph} (h : isGraphF v = true) : 1 ≤ v.1 ∧ v.1 ≤ 8 ∧ v.2.1.1 ≤ 24 := by
  unfold isGraphF at h
  split at h
  · rename_i hz
    simp only [inB, Bool.and_eq_true, decide_eq_true_eq] at hz
    exact ⟨hz.1.1, hz.1.2, hz.2⟩
  · cases h

theorem con_LoosePoints_s (v : T_Graph) (hs : smS s_Graph v) : Con Try.prog 28 0 [] [graphA v] [(0, intsOb (looseF v))] (.ar 1 0 0 (looseF v).length) := by
  refine con_start Try.func28 rfl (by kernel_rfl) rfl (fun c hc => ?_)
  cases hg : isGraphF v with
  | false =>
    rw [show looseF v = looseL v 0 by simp [looseF, hg, looseL]]
    refine piece_ok mixed hc (p28a v) ?_ ?_
    · simp only [All]
      repeat' (first | exact trivial | with_reducible apply And.intro)
      all_goals (first | omega | rfl | (simp [All, looseL]))
    · have hb : (bif decide (((0 : Nat) : Int) < v.1) then isGraphF v else false) = false := by rw [hg]; simp
      refine path_ok mixed Try.func28 hc (p28d v 0) ?_
      simp only [All]
      repeat' (first | exact trivial | with_reducible apply And.intro)
      all_goals (first | omega | rfl | (intros; first | assumption | trivial | rfl | ((repeat' (first | assumption | apply anda | apply notf)); done)) | (intros; exact con_IsGraph_s v hs) | (exact hb) | (intro i hi; simp [All]))
  | true =>
    obtain ⟨b1, b2, b3⟩ := isGraph_in hg
    rw [show looseF v = looseL v v.1.toNat by simp [looseF, hg]]
    have lp : ∀ m k, k + m = v.1.toNat → Run Try.prog c 28 [.code (cAt (bodyOf Try.f28) [1, 1, 0, 1, 0, 0]), .inLoop (cAt (bodyOf Try.f28) [1, 1, 0, 1, 0, 0]), .inBlock 0, .code (cAt (bodyOf Try.f28) [1, 1, 1])] (S28 v k) (Post c [(0, intsOb (looseL v v.1.toNat))] (.ar 1 0 0 (looseL v v.1.toNat).length)) := by
      intro m
      induction m with
      | zero =>
        intro k hk
        rw [show v.1.toNat = k by omega]
        have hb : (bif decide ((k : Int) < v.1) then isGraphF v else false) = false := by
          rw [decide_eq_false (by omega)]; rfl
        refine path_ok mixed Try.func28 hc (p28d v k) ?_
        simp only [All]
        repeat' (first | exact trivial | with_reducible apply And.intro)
        all_goals (first | omega | rfl | (intros; first | assumption | trivial | rfl | ((repeat' (first | assumption | apply anda | apply notf)); done)) | (intros; exact con_IsGraph_s v hs) | (exact hb) | (intro i hi; simp [All]))
      | succ m ih =>
        intro k hk
        have hl := looseL_len v k
        have hb : (bif decide ((k : Int) < v.1) then isGraphF v else false) = true := by
          rw [decide_eq_true (by omega), hg]; rfl
        by_cases hd : degF v.2.1.2 k v.2.1.1 = 0
        · have hL : looseL v (k + 1) = looseL v k ++ [(k : Int)] := by rw [looseL, if_pos hd]
          have hlen : (looseL v (k + 1)).length = (looseL v k).length + 1 := by rw [hL]; simp
          refine piece_ok mixed hc (p28b v k) ?_ (ih (k + 1) (by omega))
          simp only [All]
          repeat' (first | exact trivial | with_reducible apply And.intro)
          all_goals (first | omega | rfl | (intros; first | assumption | trivial | rfl | ((repeat' (first | assumption | apply anda | apply notf)); done)) | (intros; exact con_IsGraph_s v hs) | (exact con_DegreeOf_s v _ hs) | (exact hb) | (simp [hd]; done) | (simp [All]; done) | (intro i hi; (have hi2 : i < (looseL v k).length + 1 := by omega); by_cases h : i < (looseL v k).length <;> simp [h, cvtL, cvt, tg, tru, All, hL, List.getElem?_append, show ¬ i < (looseL v k).length → i = (looseL v k).length from fun h => by omega]))
        · have hL : looseL v (k + 1) = looseL v k := by rw [looseL, if_neg hd]
          refine piece_ok mixed hc (p28c v k) ?_ (ih (k + 1) (by omega))
          simp only [All]
          repeat' (first | exact trivial | with_reducible apply And.intro)
          all_goals (first | omega | rfl | (intros; first | assumption | trivial | rfl | ((repeat' (first | assumption | apply anda | apply notf)); done)) | (intros; exact con_IsGraph_s v hs) | (exact con_DegreeOf_s v _ hs) | (exact hb) | (simp [hd]; done) | (rw [hL]; first | done | exact Nat.le_refl _ | (intro i hi; simp [All])))
    refine piece_ok mixed hc (p28a v) ?_ (lp v.1.toNat 0 (by omega))
    simp only [All]
    repeat' (first | exact trivial | with_reducible apply And.intro)
    all_goals (first | omega | rfl | (simp [All, looseL]))

theorem con_LoosePoints_i (v : T_Graph) (hs : smS s_Graph v) : Con Try.prog 30 0 [] [graphA v] [(0, intsOb (looseF v))] (.ar 1 0 0 (looseF v).length) := by
  refine con_start Try.func30 rfl (by kernel_rfl) rfl (fun c hc => ?_)
  cases hg : isGraphF v with
  | false =>
    rw [show looseF v = [] by simp [looseF, hg]]
    refine path_ok mixed Try.func30 hc (p30z v) ?_
    simp only [All]
    repeat' (first | exact trivial | with_reducible apply And.intro)
    all_goals (first | omega | rfl | (intros; first | assumption | trivial | rfl | ((repeat' (first | assumption | apply anda | apply notf)); done)) | (intros; exact con_IsGraph_i v hs) | (rw [hg]; rfl) | (intro i hi; simp [All]))
  | true =>
    obtain ⟨b1, b2, b3⟩ := isGraph_in hg
    rw [show looseF v = looseL v v.1.toNat by simp [looseF, hg]]
    have lp : ∀ m k, k + m = v.1.toNat → Run Try.prog c 30 [.code (cAt (bodyOf Try.f30) [1, 1, 1, 0, 1, 0, 0]), .inLoop (cAt (bodyOf Try.f30) [1, 1, 1, 0, 1, 0, 0]), .inBlock 0, .code (cAt (bodyOf Try.f30) [1, 1, 1, 1])] (S30 v k) (Post c [(0, intsOb (looseL v v.1.toNat))] (.ar 1 0 0 (looseL v v.1.toNat).length)) := by
      intro m
      induction m with
      | zero =>
        intro k hk
        rw [show v.1.toNat = k by omega]
        have hb : decide ((k : Int) < v.1) = false := decide_eq_false (by omega)
        refine path_ok mixed Try.func30 hc (p30d v k) ?_
        simp only [All]
        repeat' (first | exact trivial | with_reducible apply And.intro)
        all_goals (first | omega | rfl | (intros; first | assumption | trivial | rfl | ((repeat' (first | assumption | apply anda | apply notf)); done)) | (intro i hi; simp [All]))
      | succ m ih =>
        intro k hk
        have hl := looseL_len v k
        have hb : decide ((k : Int) < v.1) = true := decide_eq_true (by omega)
        by_cases hd : degF v.2.1.2 k v.2.1.1 = 0
        · have hL : looseL v (k + 1) = looseL v k ++ [(k : Int)] := by rw [looseL, if_pos hd]
          have hlen : (looseL v (k + 1)).length = (looseL v k).length + 1 := by rw [hL]; simp
          refine piece_ok mixed hc (p30b v k) ?_ (ih (k + 1) (by omega))
          simp only [All]
          repeat' (first | exact trivial | with_reducible apply And.intro)
          all_goals (first | omega | rfl | (intros; first | assumption | trivial | rfl | ((repeat' (first | assumption | apply anda | apply notf)); done)) | (exact con_DegreeOf_i v _ hs) | (simp [hd]; done) | (simp [All]; done) | (intro i hi; (have hi2 : i < (looseL v k).length + 1 := by omega); by_cases h : i < (looseL v k).length <;> simp [h, cvtL, cvt, tg, tru, All, hL, List.getElem?_append, show ¬ i < (looseL v k).length → i = (looseL v k).length from fun h => by omega]))
        · have hL : looseL v (k + 1) = looseL v k := by rw [looseL, if_neg hd]
          refine piece_ok mixed hc (p30c v k) ?_ (ih (k + 1) (by omega))
          simp only [All]
          repeat' (first | exact trivial | with_reducible apply And.intro)
          all_goals (first | omega | rfl | (intros; first | assumption | trivial | rfl | ((repeat' (first | assumption | apply anda | apply notf)); done)) | (exact con_DegreeOf_i v _ hs) | (simp [hd]; done) | (rw [hL]; first | done | exact Nat.le_refl _ | (intro i hi; simp [All])))
    refine piece_ok mixed hc (p30a v) ?_ (lp v.1.toNat 0 (by omega))
    simp only [All]
    repeat' (first | exact trivial | with_reducible apply And.intro)
    all_goals (first | omega | rfl | (exact con_IsGraph_i v hs) | (rw [hg]; rfl) | (simp [All, looseL]))

end Go.Proofs.Ytgddbgmnehkblaa.Mach
