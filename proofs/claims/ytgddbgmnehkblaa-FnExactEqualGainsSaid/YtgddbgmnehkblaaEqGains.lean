/- The contracts behind FnExactEqualGains: both compare gain graphs alike. Conditions: as each theorem says. -/
import Derived.Test.YtgddbgmnehkblaaIsGain
namespace Go.Proofs.Ytgddbgmnehkblaa.Mach
open Go
set_option linter.unusedVariables false
set_option linter.unusedSimpArgs false

def eqBar (a b : T_GainBar) : Bool := a.1 == b.1 && (a.2.1 == b.2.1 && (a.2.2.1 == b.2.2.1 && (a.2.2.2.1 == b.2.2.2.1 && true)))
def eqTo (g h : Nat → T_GainBar) : Nat → Bool
  | 0 => true
  | k + 1 => eqTo g h k && eqBar (g k) (h k)
def eqBars (v u : T_GainBarS) : Bool := if v.1 = u.1 then eqTo v.2 u.2 v.1 else false
def eqGains (v u : T_GainGraph) : Bool := bif v.1 == u.1 then eqBars v.2.1 u.2.1 else false
def barsA (v : T_GainBarS) : AV := .p (.seq true 4 v.1 (fun i => [.int .i64 (v.2 i).1, .int .i64 (v.2 i).2.1, .int .i64 (v.2 i).2.2.1, .int .i64 (v.2 i).2.2.2.1]))
def S21 (v u : T_GainGraph) (k : Nat) : St :=
  ⟨[gainA v, gainA u, .pt 2 0 0 0, .pt 2 1 0 0, .p .any, .p (.int .i64 k)] ++ List.replicate 32 anyA,
   [(0, ⟨true, 2, 1, fun i => [.p (.int .i64 v.1), gainL v]⟩), (1, ⟨true, 2, 1, fun i => [.p (.int .i64 u.1), gainL u]⟩)], 2⟩
def S43 (v u : T_GainBarS) (k : Nat) : St :=
  ⟨[barsA v, barsA u] ++ List.replicate 10 anyA ++ [.p (.int .i64 v.1), .p (.int .i64 k)] ++ List.replicate 12 anyA, [], 0⟩

theorem p21z (v u : T_GainGraph) :
    pathOb Try.prog Try.f21 0 [.reg [oT, oT, oT], .reg [oT, oT, oT, oT, oT, oT, oT, oT, oT, oT, oT, oT, oT, oT], .dec true, .reg [oT]] [.code (bodyOf Try.f21)] (start Try.f21 [] 0 [gainA v, gainA u]) [] 1 [] (.p (.bool false)) =
    some [((0 : Nat) < 1),
  ((0 : Nat) < 1),
  (((!v.fst != u.fst) = true) → ((!v.fst != u.fst) = true)),
  (((!v.fst != u.fst) = true) → ((0 : Nat) < 1)),
  (((!v.fst != u.fst) = true) → ((!v.fst != u.fst) = true)),
  (((!v.fst != u.fst) = true) → ((!v.fst != u.fst) = true)),
  (((!v.fst != u.fst) = true) → ((0 : Nat) < 1)),
  (((!v.fst != u.fst) = true) → ((!v.fst != u.fst) = true)),
  (((!v.fst != u.fst) = true) → ((!v.fst != u.fst) = true)),
  (((!v.fst != u.fst) = true) → ((!v.fst != u.fst) = true)),
  (((v.fst != u.fst) = false) → ((!v.fst != u.fst) = true)),
  ((bif v.fst != u.fst then true else (↑v.snd.fst.fst : Int) != (↑u.snd.fst.fst : Int)) = true),
  (false = false)] := by kernel_rfl
theorem p21a (v u : T_GainGraph) :
    pieceOb Try.prog 0 [.reg [oT, oT, oT], .reg [oT, oT, oT, oT, oT, oT, oT, oT, oT, oT, oT, oT, oT, oT], .dec false, .reg [oT], .head] [.code (bodyOf Try.f21)] (start Try.f21 [] 0 [gainA v, gainA u]) [0, 32] 1 (S21 v u 0) =
    some ([.code (cAt (bodyOf Try.f21) [1, 1, 0, 1, 0, 0]), .inLoop (cAt (bodyOf Try.f21) [1, 1, 0, 1, 0, 0]), .inBlock 0, .code (cAt (bodyOf Try.f21) [1, 1, 1])], [((0 : Nat) < 1),
  ((0 : Nat) < 1),
  (((!v.fst != u.fst) = true) → ((!v.fst != u.fst) = true)),
  (((!v.fst != u.fst) = true) → ((0 : Nat) < 1)),
  (((!v.fst != u.fst) = true) → ((!v.fst != u.fst) = true)),
  (((!v.fst != u.fst) = true) → ((!v.fst != u.fst) = true)),
  (((!v.fst != u.fst) = true) → ((0 : Nat) < 1)),
  (((!v.fst != u.fst) = true) → ((!v.fst != u.fst) = true)),
  (((!v.fst != u.fst) = true) → ((!v.fst != u.fst) = true)),
  (((!v.fst != u.fst) = true) → ((!v.fst != u.fst) = true)),
  (((v.fst != u.fst) = false) → ((!v.fst != u.fst) = true)),
  ((bif v.fst != u.fst then true else (↑v.snd.fst.fst : Int) != (↑u.snd.fst.fst : Int)) = false),
  (((v.fst) : Int) = (v.fst)),
  (((v.snd.fst.fst) : Nat) = (v.snd.fst.fst)),
  (∀ i : Nat, ((((i) : Nat) < (v.snd.fst.fst)) → (([.int .i64 ((v.snd.fst.snd i).fst), .int .i64 ((v.snd.fst.snd i).snd.fst), .int .i64 ((v.snd.fst.snd i).snd.snd.fst), .int .i64 ((v.snd.fst.snd i).snd.snd.snd.fst)] : List PV) = [.int .i64 ((v.snd.fst.snd i).fst), .int .i64 ((v.snd.fst.snd i).snd.fst), .int .i64 ((v.snd.fst.snd i).snd.snd.fst), .int .i64 ((v.snd.fst.snd i).snd.snd.snd.fst)]))),
  (((u.fst) : Int) = (u.fst)),
  (((u.snd.fst.fst) : Nat) = (u.snd.fst.fst)),
  (∀ i : Nat, ((((i) : Nat) < (u.snd.fst.fst)) → (([.int .i64 ((u.snd.fst.snd i).fst), .int .i64 ((u.snd.fst.snd i).snd.fst), .int .i64 ((u.snd.fst.snd i).snd.snd.fst), .int .i64 ((u.snd.fst.snd i).snd.snd.snd.fst)] : List PV) = [.int .i64 ((u.snd.fst.snd i).fst), .int .i64 ((u.snd.fst.snd i).snd.fst), .int .i64 ((u.snd.fst.snd i).snd.snd.fst), .int .i64 ((u.snd.fst.snd i).snd.snd.snd.fst)]))),
  ((0 : Nat) = 0),
  ((0 : Nat) = 0),
  ((0 : Int) = ((↑0 : Int))),
  ((([AV.p (PV.int IntKind.i64 v.fst), AV.p (PV.seq true 4 v.snd.fst.fst fun i => [PV.int IntKind.i64 (v.snd.fst.snd i).fst, PV.int IntKind.i64 (v.snd.fst.snd i).snd.fst, PV.int IntKind.i64 (v.snd.fst.snd i).snd.snd.fst, PV.int IntKind.i64 (v.snd.fst.snd i).snd.snd.snd.fst])].length) : Nat) = 2),
  ((1 : Nat) ≤ 1),
  (∀ i : Nat, ((((i) : Nat) < 1) → (All [] ∧ (([.p (.int .i64 (v.fst)), .p (.seq true 4 (v.snd.fst.fst) (fun i_1 => [.int .i64 ((v.snd.fst.snd i_1).fst), .int .i64 ((v.snd.fst.snd i_1).snd.fst), .int .i64 ((v.snd.fst.snd i_1).snd.snd.fst), .int .i64 ((v.snd.fst.snd i_1).snd.snd.snd.fst)]))] : List AV) = [.p (.int .i64 (v.fst)), .p (.seq true 4 (v.snd.fst.fst) (fun i_1 => [.int .i64 ((v.snd.fst.snd i_1).fst), .int .i64 ((v.snd.fst.snd i_1).snd.fst), .int .i64 ((v.snd.fst.snd i_1).snd.snd.fst), .int .i64 ((v.snd.fst.snd i_1).snd.snd.snd.fst)]))])))),
  ((([AV.p (PV.int IntKind.i64 u.fst), AV.p (PV.seq true 4 u.snd.fst.fst fun i => [PV.int IntKind.i64 (u.snd.fst.snd i).fst, PV.int IntKind.i64 (u.snd.fst.snd i).snd.fst, PV.int IntKind.i64 (u.snd.fst.snd i).snd.snd.fst, PV.int IntKind.i64 (u.snd.fst.snd i).snd.snd.snd.fst])].length) : Nat) = 2),
  ((1 : Nat) ≤ 1),
  (∀ i : Nat, ((((i) : Nat) < 1) → (All [] ∧ (([.p (.int .i64 (u.fst)), .p (.seq true 4 (u.snd.fst.fst) (fun i_1 => [.int .i64 ((u.snd.fst.snd i_1).fst), .int .i64 ((u.snd.fst.snd i_1).snd.fst), .int .i64 ((u.snd.fst.snd i_1).snd.snd.fst), .int .i64 ((u.snd.fst.snd i_1).snd.snd.snd.fst)]))] : List AV) = [.p (.int .i64 (u.fst)), .p (.seq true 4 (u.snd.fst.fst) (fun i_1 => [.int .i64 ((u.snd.fst.snd i_1).fst), .int .i64 ((u.snd.fst.snd i_1).snd.fst), .int .i64 ((u.snd.fst.snd i_1).snd.snd.fst), .int .i64 ((u.snd.fst.snd i_1).snd.snd.snd.fst)]))]))))]) := by kernel_rfl
theorem p21b (v u : T_GainGraph) (k : Nat) :
    pieceOb Try.prog 0 [.reg [oT, oT, oT, oT, oT], .dec true, .reg [oT, oT, oT, oT, oT, oT, oT, oT, oT, oT, oT], .dec false, .reg [oT, oT, oT], .head] [.code (cAt (bodyOf Try.f21) [1, 1, 0, 1, 0, 0]), .inLoop (cAt (bodyOf Try.f21) [1, 1, 0, 1, 0, 0]), .inBlock 0, .code (cAt (bodyOf Try.f21) [1, 1, 1])] (S21 v u k) [0, 1] 1 (S21 v u (k + 1)) =
    some ([.code (cAt (bodyOf Try.f21) [1, 1, 0, 1, 0, 0]), .inLoop (cAt (bodyOf Try.f21) [1, 1, 0, 1, 0, 0]), .inBlock 0, .code (cAt (bodyOf Try.f21) [1, 1, 1])], [((0 : Nat) < 1),
  ((decide ((↑k : Int) < (↑v.snd.fst.fst : Int))) = true),
  ((0 : Nat) < 1),
  ((0 : Int) ≤ ((↑k : Int))),
  ((((↑k : Int)) : Int) < ((↑v.snd.fst.fst : Int))),
  ((0 : Nat) < 1),
  ((0 : Int) ≤ ((↑k : Int))),
  ((((↑k : Int)) : Int) < ((↑u.snd.fst.fst : Int))),
  ((!((v.snd.fst.snd k).fst == (u.snd.fst.snd k).fst && ((v.snd.fst.snd k).snd.fst == (u.snd.fst.snd k).snd.fst && ((v.snd.fst.snd k).snd.snd.fst == (u.snd.fst.snd k).snd.snd.fst && ((v.snd.fst.snd k).snd.snd.snd.fst == (u.snd.fst.snd k).snd.snd.snd.fst && true))))) = false),
  (((-9223372036854775808) : Int) ≤ ((↑k : Int) + 1)),
  ((((↑k : Int) + 1) : Int) ≤ 9223372036854775807),
  (((v.fst) : Int) = (v.fst)),
  (((v.snd.fst.fst) : Nat) = (v.snd.fst.fst)),
  (∀ i : Nat, ((((i) : Nat) < (v.snd.fst.fst)) → (([.int .i64 ((v.snd.fst.snd i).fst), .int .i64 ((v.snd.fst.snd i).snd.fst), .int .i64 ((v.snd.fst.snd i).snd.snd.fst), .int .i64 ((v.snd.fst.snd i).snd.snd.snd.fst)] : List PV) = [.int .i64 ((v.snd.fst.snd i).fst), .int .i64 ((v.snd.fst.snd i).snd.fst), .int .i64 ((v.snd.fst.snd i).snd.snd.fst), .int .i64 ((v.snd.fst.snd i).snd.snd.snd.fst)]))),
  (((u.fst) : Int) = (u.fst)),
  (((u.snd.fst.fst) : Nat) = (u.snd.fst.fst)),
  (∀ i : Nat, ((((i) : Nat) < (u.snd.fst.fst)) → (([.int .i64 ((u.snd.fst.snd i).fst), .int .i64 ((u.snd.fst.snd i).snd.fst), .int .i64 ((u.snd.fst.snd i).snd.snd.fst), .int .i64 ((u.snd.fst.snd i).snd.snd.snd.fst)] : List PV) = [.int .i64 ((u.snd.fst.snd i).fst), .int .i64 ((u.snd.fst.snd i).snd.fst), .int .i64 ((u.snd.fst.snd i).snd.snd.fst), .int .i64 ((u.snd.fst.snd i).snd.snd.snd.fst)]))),
  ((0 : Nat) = 0),
  ((0 : Nat) = 0),
  ((((↑k : Int) + 1) : Int) = ((↑(k + 1) : Int))),
  ((2 : Nat) = 2),
  ((1 : Nat) ≤ 1),
  (∀ i : Nat, ((((i) : Nat) < 1) → (All [] ∧ (([.p (.int .i64 (v.fst)), .p (.seq true 4 (v.snd.fst.fst) (fun i_1 => [.int .i64 ((v.snd.fst.snd i_1).fst), .int .i64 ((v.snd.fst.snd i_1).snd.fst), .int .i64 ((v.snd.fst.snd i_1).snd.snd.fst), .int .i64 ((v.snd.fst.snd i_1).snd.snd.snd.fst)]))] : List AV) = [.p (.int .i64 (v.fst)), .p (.seq true 4 (v.snd.fst.fst) (fun i_1 => [.int .i64 ((v.snd.fst.snd i_1).fst), .int .i64 ((v.snd.fst.snd i_1).snd.fst), .int .i64 ((v.snd.fst.snd i_1).snd.snd.fst), .int .i64 ((v.snd.fst.snd i_1).snd.snd.snd.fst)]))])))),
  ((2 : Nat) = 2),
  ((1 : Nat) ≤ 1),
  (∀ i : Nat, ((((i) : Nat) < 1) → (All [] ∧ (([.p (.int .i64 (u.fst)), .p (.seq true 4 (u.snd.fst.fst) (fun i_1 => [.int .i64 ((u.snd.fst.snd i_1).fst), .int .i64 ((u.snd.fst.snd i_1).snd.fst), .int .i64 ((u.snd.fst.snd i_1).snd.snd.fst), .int .i64 ((u.snd.fst.snd i_1).snd.snd.snd.fst)]))] : List AV) = [.p (.int .i64 (u.fst)), .p (.seq true 4 (u.snd.fst.fst) (fun i_1 => [.int .i64 ((u.snd.fst.snd i_1).fst), .int .i64 ((u.snd.fst.snd i_1).snd.fst), .int .i64 ((u.snd.fst.snd i_1).snd.snd.fst), .int .i64 ((u.snd.fst.snd i_1).snd.snd.snd.fst)]))]))))]) := by kernel_rfl
theorem p21c (v u : T_GainGraph) (k : Nat) :
    pathOb Try.prog Try.f21 0 [.reg [oT, oT, oT, oT, oT], .dec true, .reg [oT, oT, oT, oT, oT, oT, oT, oT, oT, oT, oT], .dec true, .reg [oT]] [.code (cAt (bodyOf Try.f21) [1, 1, 0, 1, 0, 0]), .inLoop (cAt (bodyOf Try.f21) [1, 1, 0, 1, 0, 0]), .inBlock 0, .code (cAt (bodyOf Try.f21) [1, 1, 1])] (S21 v u k) [] 1 [] (.p (.bool false)) =
    some [((0 : Nat) < 1),
  ((decide ((↑k : Int) < (↑v.snd.fst.fst : Int))) = true),
  ((0 : Nat) < 1),
  ((0 : Int) ≤ ((↑k : Int))),
  ((((↑k : Int)) : Int) < ((↑v.snd.fst.fst : Int))),
  ((0 : Nat) < 1),
  ((0 : Int) ≤ ((↑k : Int))),
  ((((↑k : Int)) : Int) < ((↑u.snd.fst.fst : Int))),
  ((!((v.snd.fst.snd k).fst == (u.snd.fst.snd k).fst && ((v.snd.fst.snd k).snd.fst == (u.snd.fst.snd k).snd.fst && ((v.snd.fst.snd k).snd.snd.fst == (u.snd.fst.snd k).snd.snd.fst && ((v.snd.fst.snd k).snd.snd.snd.fst == (u.snd.fst.snd k).snd.snd.snd.fst && true))))) = true),
  (false = false)] := by kernel_rfl
theorem p21d (v u : T_GainGraph) (k : Nat) :
    pathOb Try.prog Try.f21 0 [.reg [oT, oT, oT, oT, oT], .dec false, .reg [oT]] [.code (cAt (bodyOf Try.f21) [1, 1, 0, 1, 0, 0]), .inLoop (cAt (bodyOf Try.f21) [1, 1, 0, 1, 0, 0]), .inBlock 0, .code (cAt (bodyOf Try.f21) [1, 1, 1])] (S21 v u k) [] 1 [] (.p (.bool true)) =
    some [((0 : Nat) < 1),
  ((decide ((↑k : Int) < (↑v.snd.fst.fst : Int))) = false),
  (true = true)] := by kernel_rfl
theorem p43z (v u : T_GainBarS) :
    pathOb Try.prog Try.f43 0 [.reg [oT], .reg [oT, oT, oT, oT, oT], .dec true, .reg [oT]] [.code (bodyOf Try.f43)] (start Try.f43 [] 0 [barsA v, barsA u]) [] 1 [] (.p (.bool false)) =
    some [(((↑v.fst : Int) != (↑u.fst : Int)) = true),
  (false = false)] := by kernel_rfl
theorem p43a (v u : T_GainBarS) :
    pieceOb Try.prog 0 [.reg [oT], .reg [oT, oT, oT, oT, oT], .dec false, .reg [oT, oT, oT], .head] [.code (bodyOf Try.f43)] (start Try.f43 [] 0 [barsA v, barsA u]) [] 1 (S43 v u 0) =
    some ([.code (cAt (bodyOf Try.f43) [1, 1, 0, 1, 0, 0]), .inLoop (cAt (bodyOf Try.f43) [1, 1, 0, 1, 0, 0]), .inBlock 0, .code (cAt (bodyOf Try.f43) [1, 1, 1])], [(((↑v.fst : Int) != (↑u.fst : Int)) = false),
  (((v.fst) : Nat) = (v.fst)),
  (∀ i : Nat, ((((i) : Nat) < (v.fst)) → (([.int .i64 ((v.snd i).fst), .int .i64 ((v.snd i).snd.fst), .int .i64 ((v.snd i).snd.snd.fst), .int .i64 ((v.snd i).snd.snd.snd.fst)] : List PV) = [.int .i64 ((v.snd i).fst), .int .i64 ((v.snd i).snd.fst), .int .i64 ((v.snd i).snd.snd.fst), .int .i64 ((v.snd i).snd.snd.snd.fst)]))),
  (((u.fst) : Nat) = (u.fst)),
  (∀ i : Nat, ((((i) : Nat) < (u.fst)) → (([.int .i64 ((u.snd i).fst), .int .i64 ((u.snd i).snd.fst), .int .i64 ((u.snd i).snd.snd.fst), .int .i64 ((u.snd i).snd.snd.snd.fst)] : List PV) = [.int .i64 ((u.snd i).fst), .int .i64 ((u.snd i).snd.fst), .int .i64 ((u.snd i).snd.snd.fst), .int .i64 ((u.snd i).snd.snd.snd.fst)]))),
  ((((↑v.fst : Int)) : Int) = ((↑v.fst : Int))),
  ((0 : Int) = ((↑0 : Int)))]) := by kernel_rfl
theorem p43b (v u : T_GainBarS) (k : Nat) :
    pieceOb Try.prog 0 [.reg [oT], .dec true, .reg [oT, oT], .reg [oT, oT, oT, oT, oT, oT, oT, oT, oT], .dec false, .reg [oT, oT], .head] [.code (cAt (bodyOf Try.f43) [1, 1, 0, 1, 0, 0]), .inLoop (cAt (bodyOf Try.f43) [1, 1, 0, 1, 0, 0]), .inBlock 0, .code (cAt (bodyOf Try.f43) [1, 1, 1])] (S43 v u k) [] 1 (S43 v u (k + 1)) =
    some ([.code (cAt (bodyOf Try.f43) [1, 1, 0, 1, 0, 0]), .inLoop (cAt (bodyOf Try.f43) [1, 1, 0, 1, 0, 0]), .inBlock 0, .code (cAt (bodyOf Try.f43) [1, 1, 1])], [((decide ((↑k : Int) < (↑v.fst : Int))) = true),
  ((0 : Int) ≤ ((↑k : Int))),
  ((((↑k : Int)) : Int) < ((↑v.fst : Int))),
  ((0 : Int) ≤ ((↑k : Int))),
  ((((↑k : Int)) : Int) < ((↑u.fst : Int))),
  ((!((v.snd k).fst == (u.snd k).fst && ((v.snd k).snd.fst == (u.snd k).snd.fst && ((v.snd k).snd.snd.fst == (u.snd k).snd.snd.fst && ((v.snd k).snd.snd.snd.fst == (u.snd k).snd.snd.snd.fst && true))))) = false),
  (((-9223372036854775808) : Int) ≤ ((↑k : Int) + 1)),
  ((((↑k : Int) + 1) : Int) ≤ 9223372036854775807),
  (((v.fst) : Nat) = (v.fst)),
  (∀ i : Nat, ((((i) : Nat) < (v.fst)) → (([.int .i64 ((v.snd i).fst), .int .i64 ((v.snd i).snd.fst), .int .i64 ((v.snd i).snd.snd.fst), .int .i64 ((v.snd i).snd.snd.snd.fst)] : List PV) = [.int .i64 ((v.snd i).fst), .int .i64 ((v.snd i).snd.fst), .int .i64 ((v.snd i).snd.snd.fst), .int .i64 ((v.snd i).snd.snd.snd.fst)]))),
  (((u.fst) : Nat) = (u.fst)),
  (∀ i : Nat, ((((i) : Nat) < (u.fst)) → (([.int .i64 ((u.snd i).fst), .int .i64 ((u.snd i).snd.fst), .int .i64 ((u.snd i).snd.snd.fst), .int .i64 ((u.snd i).snd.snd.snd.fst)] : List PV) = [.int .i64 ((u.snd i).fst), .int .i64 ((u.snd i).snd.fst), .int .i64 ((u.snd i).snd.snd.fst), .int .i64 ((u.snd i).snd.snd.snd.fst)]))),
  ((((↑v.fst : Int)) : Int) = ((↑v.fst : Int))),
  ((((↑k : Int) + 1) : Int) = ((↑(k + 1) : Int)))]) := by kernel_rfl
theorem p43c (v u : T_GainBarS) (k : Nat) :
    pathOb Try.prog Try.f43 0 [.reg [oT], .dec true, .reg [oT, oT], .reg [oT, oT, oT, oT, oT, oT, oT, oT, oT], .dec true, .reg [oT]] [.code (cAt (bodyOf Try.f43) [1, 1, 0, 1, 0, 0]), .inLoop (cAt (bodyOf Try.f43) [1, 1, 0, 1, 0, 0]), .inBlock 0, .code (cAt (bodyOf Try.f43) [1, 1, 1])] (S43 v u k) [] 1 [] (.p (.bool false)) =
    some [((decide ((↑k : Int) < (↑v.fst : Int))) = true),
  ((0 : Int) ≤ ((↑k : Int))),
  ((((↑k : Int)) : Int) < ((↑v.fst : Int))),
  ((0 : Int) ≤ ((↑k : Int))),
  ((((↑k : Int)) : Int) < ((↑u.fst : Int))),
  ((!((v.snd k).fst == (u.snd k).fst && ((v.snd k).snd.fst == (u.snd k).snd.fst && ((v.snd k).snd.snd.fst == (u.snd k).snd.snd.fst && ((v.snd k).snd.snd.snd.fst == (u.snd k).snd.snd.snd.fst && true))))) = true),
  (false = false)] := by kernel_rfl
theorem p43d (v u : T_GainBarS) (k : Nat) :
    pathOb Try.prog Try.f43 0 [.reg [oT], .dec false, .reg [oT]] [.code (cAt (bodyOf Try.f43) [1, 1, 0, 1, 0, 0]), .inLoop (cAt (bodyOf Try.f43) [1, 1, 0, 1, 0, 0]), .inBlock 0, .code (cAt (bodyOf Try.f43) [1, 1, 1])] (S43 v u k) [] 1 [] (.p (.bool true)) =
    some [((decide ((↑k : Int) < (↑v.fst : Int))) = false),
  (true = true)] := by kernel_rfl
theorem p22 (v u : T_GainGraph) :
    pathOb Try.prog Try.f22 0 [.reg [oT, oT, oT], .reg [oT, oT, oT, oT, oT, oT, oT, oT, oT, oT, ⟨true, (some ⟨[], [], 1, [], .p (.bool (eqBars v.2.1 u.2.1))⟩)⟩, oT, oT]] [.code (bodyOf Try.f22)] (start Try.f22 [] 0 [gainA v, gainA u]) [] 1 [] (.p (.bool (eqGains v u))) =
    some [((0 : Nat) < 1),
  ((0 : Nat) < 1),
  (((v.fst == u.fst) = true) → ((v.fst == u.fst) = true)),
  (((v.fst == u.fst) = true) → ((0 : Nat) < 1)),
  (((v.fst == u.fst) = true) → ((v.fst == u.fst) = true)),
  (((v.fst == u.fst) = true) → ((0 : Nat) < 1)),
  (((v.fst == u.fst) = true) → ((v.fst == u.fst) = true)),
  (((v.fst == u.fst) = true) → ((v.fst == u.fst) = true)),
  (((v.fst == u.fst) = true) → Con (Try.prog) 43 0 [] [.p (.seq true 4 (v.snd.fst.fst) (fun i => [.int .i64 ((v.snd.fst.snd i).fst), .int .i64 ((v.snd.fst.snd i).snd.fst), .int .i64 ((v.snd.fst.snd i).snd.snd.fst), .int .i64 ((v.snd.fst.snd i).snd.snd.snd.fst)])), .p (.seq true 4 (u.snd.fst.fst) (fun i => [.int .i64 ((u.snd.fst.snd i).fst), .int .i64 ((u.snd.fst.snd i).snd.fst), .int .i64 ((u.snd.fst.snd i).snd.snd.fst), .int .i64 ((u.snd.fst.snd i).snd.snd.snd.fst)]))] [] (.p (.bool (eqBars v.snd.fst u.snd.fst)))),
  (((v.fst == u.fst) = true) → ((v.fst == u.fst) = true)),
  ((bif v.fst == u.fst then eqBars v.snd.fst u.snd.fst else false) = (eqGains v u))] := by kernel_rfl

theorem eqTo_bad (g h : Nat → T_GainBar) (k : Nat) (e : eqBar (g k) (h k) = false) : ∀ n, k < n → eqTo g h n = false
  | 0, h' => by omega
  | n + 1, h' => by
    by_cases e' : k = n
    · subst e'; simp [eqTo, e]
    · simp [eqTo, eqTo_bad g h k e n (by omega)]

theorem con_eqBars (v u : T_GainBarS) (hv : v.1 ≤ 1048576) (hu : u.1 ≤ 1048576) : Con Try.prog 43 0 [] [barsA v, barsA u] [] (.p (.bool (eqBars v u))) := by
  refine con_start Try.func43 rfl (by kernel_rfl) rfl (fun c hc => ?_)
  by_cases hz : v.1 = u.1
  · rw [show eqBars v u = eqTo v.2 u.2 v.1 by simp [eqBars, hz]]
    have lp : ∀ m k, k + m = v.1 → eqTo v.2 u.2 k = true → Run Try.prog c 43 [.code (cAt (bodyOf Try.f43) [1, 1, 0, 1, 0, 0]), .inLoop (cAt (bodyOf Try.f43) [1, 1, 0, 1, 0, 0]), .inBlock 0, .code (cAt (bodyOf Try.f43) [1, 1, 1])] (S43 v u k) (Post c [] (.p (.bool (eqTo v.2 u.2 v.1)))) := by
      intro m
      induction m with
      | zero =>
        intro k hk hg
        rw [show eqTo v.2 u.2 v.1 = true by rw [show v.1 = k by omega]; exact hg]
        have hd : decide ((k : Int) < (v.1 : Int)) = false := by simp; omega
        refine path_ok mixed Try.func43 hc (p43d v u k) ?_
        simp only [All]
        repeat' (first | exact trivial | with_reducible apply And.intro)
        all_goals (first | rfl | (intros; first | assumption | trivial | rfl | ((repeat' (first | assumption | apply anda | apply notf)); done)) | omega)
      | succ m ih =>
        intro k hk hg
        have hd : decide ((k : Int) < (v.1 : Int)) = true := by simp; omega
        cases he : eqBar (v.2 k) (u.2 k) with
        | false =>
          rw [eqTo_bad _ _ k he v.1 (by omega)]
          refine path_ok mixed Try.func43 hc (p43c v u k) ?_
          simp only [All]
          repeat' (first | exact trivial | with_reducible apply And.intro)
          all_goals (first | rfl | (intros; first | assumption | trivial | rfl | ((repeat' (first | assumption | apply anda | apply notf)); done)) | omega | exact notf he)
        | true =>
          refine piece_ok mixed hc (p43b v u k) ?_ (ih (k + 1) (by omega) (by simp [eqTo, hg, he]))
          simp only [All]
          repeat' (first | exact trivial | with_reducible apply And.intro)
          all_goals (first | rfl | (intros; first | assumption | trivial | rfl | ((repeat' (first | assumption | apply anda | apply notf)); done)) | omega | exact nott he)
    refine piece_ok mixed hc (p43a v u) ?_ (lp v.1 0 (by omega) rfl)
    simp only [All]
    repeat' (first | exact trivial | with_reducible apply And.intro)
    all_goals (first | rfl | (intros; first | assumption | trivial | rfl | ((repeat' (first | assumption | apply anda | apply notf)); done)) | omega | (simp; omega))
  · rw [show eqBars v u = false by simp [eqBars, hz]]
    refine path_ok mixed Try.func43 hc (p43z v u) ?_
    simp only [All]
    repeat' (first | exact trivial | with_reducible apply And.intro)
    all_goals (first | rfl | (intros; first | assumption | trivial | rfl | ((repeat' (first | assumption | apply anda | apply notf)); done)) | omega | (simp; omega))

theorem con_EqualGains_s (v u : T_GainGraph) (hv : smS s_GainGraph v) (hu : smS s_GainGraph u) : Con Try.prog 21 0 [] [gainA v, gainA u] [] (.p (.bool (eqGains v u))) := by
  refine con_start Try.func21 rfl (by kernel_rfl) rfl (fun c hc => ?_)
  have hn : v.2.1.1 ≤ 1048576 := hv.2.1.1
  by_cases hz : v.1 = u.1 ∧ v.2.1.1 = u.2.1.1
  · rw [show eqGains v u = eqTo v.2.1.2 u.2.1.2 v.2.1.1 by simp [eqGains, eqBars, hz.1, hz.2]]
    have lp : ∀ m k, k + m = v.2.1.1 → eqTo v.2.1.2 u.2.1.2 k = true → Run Try.prog c 21 [.code (cAt (bodyOf Try.f21) [1, 1, 0, 1, 0, 0]), .inLoop (cAt (bodyOf Try.f21) [1, 1, 0, 1, 0, 0]), .inBlock 0, .code (cAt (bodyOf Try.f21) [1, 1, 1])] (S21 v u k) (Post c [] (.p (.bool (eqTo v.2.1.2 u.2.1.2 v.2.1.1)))) := by
      intro m
      induction m with
      | zero =>
        intro k hk hg
        rw [show eqTo v.2.1.2 u.2.1.2 v.2.1.1 = true by rw [show v.2.1.1 = k by omega]; exact hg]
        have hd : decide ((k : Int) < (v.2.1.1 : Int)) = false := by simp; omega
        refine path_ok mixed Try.func21 hc (p21d v u k) ?_
        simp only [All]
        repeat' (first | exact trivial | with_reducible apply And.intro)
        all_goals (first | rfl | (intros; first | assumption | trivial | rfl | ((repeat' (first | assumption | apply anda | apply notf)); done)) | omega)
      | succ m ih =>
        intro k hk hg
        have hd : decide ((k : Int) < (v.2.1.1 : Int)) = true := by simp; omega
        cases he : eqBar (v.2.1.2 k) (u.2.1.2 k) with
        | false =>
          rw [eqTo_bad _ _ k he v.2.1.1 (by omega)]
          refine path_ok mixed Try.func21 hc (p21c v u k) ?_
          simp only [All]
          repeat' (first | exact trivial | with_reducible apply And.intro)
          all_goals (first | rfl | (intros; first | assumption | trivial | rfl | ((repeat' (first | assumption | apply anda | apply notf)); done)) | omega | exact notf he)
        | true =>
          refine piece_ok mixed hc (p21b v u k) ?_ (ih (k + 1) (by omega) (by simp [eqTo, hg, he]))
          simp only [All]
          repeat' (first | exact trivial | with_reducible apply And.intro)
          all_goals (first | rfl | (intros; first | assumption | trivial | rfl | ((repeat' (first | assumption | apply anda | apply notf)); done)) | omega | exact nott he | (simp [All]))
    refine piece_ok mixed hc (p21a v u) ?_ (lp v.2.1.1 0 (by omega) rfl)
    simp only [All]
    repeat' (first | exact trivial | with_reducible apply And.intro)
    all_goals (first | rfl | (intros; first | assumption | trivial | rfl | ((repeat' (first | assumption | apply anda | apply notf)); done)) | omega | (intro h; simp [h]) | (simp [hz.1, hz.2]) | (simp [All]))
  · rw [show eqGains v u = false by
      simp only [eqGains, eqBars]
      by_cases h1 : v.1 = u.1
      · have h2 : ¬ v.2.1.1 = u.2.1.1 := fun h => hz ⟨h1, h⟩
        simp [h1, h2]
      · have : (v.1 == u.1) = false := by simpa using h1
        rw [this]; rfl]
    refine path_ok mixed Try.func21 hc (p21z v u) ?_
    have hb : (bif v.1 != u.1 then true else (v.2.1.1 : Int) != (u.2.1.1 : Int)) = true := by
      by_cases h1 : v.1 = u.1
      · have h2 : ¬ v.2.1.1 = u.2.1.1 := fun h => hz ⟨h1, h⟩
        simp [h1]; omega
      · simp [h1]
    simp only [All]
    repeat' (first | exact trivial | with_reducible apply And.intro)
    all_goals (first | rfl | (intros; first | assumption | trivial | rfl | ((repeat' (first | assumption | apply anda | apply notf)); done)) | omega)

theorem con_EqualGains_i (v u : T_GainGraph) (hv : smS s_GainGraph v) (hu : smS s_GainGraph u) : Con Try.prog 22 0 [] [gainA v, gainA u] [] (.p (.bool (eqGains v u))) := by
  refine con_start Try.func22 rfl (by kernel_rfl) rfl (fun c hc => ?_)
  refine path_ok mixed Try.func22 hc (p22 v u) ?_
  simp only [All]
  repeat' (first | exact trivial | with_reducible apply And.intro)
  all_goals (first | rfl | (intros; first | assumption | trivial | rfl | ((repeat' (first | assumption | apply anda | apply notf)); done)) | omega | (intros; exact con_eqBars v.2.1 u.2.1 hv.2.1.1 hu.2.1.1))

end Go.Proofs.Ytgddbgmnehkblaa.Mach
