/- Both comparisons of frameworks and of claims. Conditions: as each theorem says. -/
import Derived.Test.YtgddbgmnehkblabFamClaim
import Derived.Test.YtgddbgmnehkblabEqSites2
namespace Go.Proofs.Ytgddbgmnehkblab.Mach
open Go
set_option linter.unusedVariables false
set_option linter.unusedSimpArgs false

def plcL (v : T_PlaceS) : AV := .p (.seq true 2 v.1 (fun i => [.int .i64 (v.2 i).1, .int .i64 (v.2 i).2.1]))
def stpL (v : T_StepS) : AV := .p (.seq true 5 v.1 (fun i => [.int .i64 (v.2 i).1, .int .i64 (v.2 i).2.1, .int .i64 (v.2 i).2.2.1, .int .i64 (v.2 i).2.2.2.1, .int .i64 (v.2 i).2.2.2.2.1]))
def frA (v : T_Framework) : AV := .agg [.p (.int .i64 v.1.1), barL v.1.2.1, plcL v.2.1]
def boxFr (v : T_Framework) : Ob := ⟨true, 3, 1, fun i => [.p (.int .i64 v.1.1), barL v.1.2.1, plcL v.2.1]⟩
def eqFr (v u : T_Framework) : Bool := bif eqGr v.1 u.1 then q_PlaceS v.2.1 u.2.1 else false
def clA (v : T_Claim) : AV := .agg [.p (.int .i64 v.1), .p (.int .i64 v.2.1.1), barL v.2.1.2.1, .p (.int .i64 v.2.2.1.1.1.1), barL v.2.2.1.1.1.2.1, plcL v.2.2.1.1.2.1, intL v.2.2.1.2.1, stpL v.2.2.2.1, intL v.2.2.2.2.1]
def eqCl (v u : T_Claim) : Bool := bif bif bif bif bif v.1 == u.1 then eqGr v.2.1 u.2.1 else false then eqFr v.2.2.1.1 u.2.2.1.1 else false then q_IntS v.2.2.1.2.1 u.2.2.1.2.1 else false then q_StepS v.2.2.2.1 u.2.2.2.1 else false then q_IntS v.2.2.2.2.1 u.2.2.2.2.1 else false
def S61 (v u : T_Framework) (k : Nat) : St :=
  ⟨[frA v, frA u, .pt 3 0 0 0, .pt 3 1 0 0, .p .any, .p (.int .i64 k)] ++ List.replicate 33 anyA, [(0, boxFr v), (1, boxFr u)], 2⟩

theorem p61z (v u : T_Framework) :
    pathOb Try.prog Try.f61 0 [.reg [oT, oT, oT], .reg [oT, oT, oT, oT, ⟨true, (some ⟨[], [], 1, [], .p (.bool (eqGr v.1 u.1))⟩)⟩, oT, oT, oT, oT, oT, oT, oT, oT, oT, oT], .dec true, .reg [oT]] [.code (bodyOf Try.f61)] (start Try.f61 [] 0 [frA v, frA u]) [] 1 [] (.p (.bool false)) =
    some [((0 : Nat) < 1),
  ((0 : Nat) < 1),
  Con (Try.prog) 49 0 [] [.agg [.p (.int .i64 (v.fst.fst)), .p (.seq true 2 (v.fst.snd.fst.fst) (fun i => [.int .i64 ((v.fst.snd.fst.snd i).fst), .int .i64 ((v.fst.snd.fst.snd i).snd.fst)]))], .agg [.p (.int .i64 (u.fst.fst)), .p (.seq true 2 (u.fst.snd.fst.fst) (fun i => [.int .i64 ((u.fst.snd.fst.snd i).fst), .int .i64 ((u.fst.snd.fst.snd i).snd.fst)]))]] [] (.p (.bool (eqGr v.fst u.fst))),
  (((!!eqGr v.fst u.fst) = true) → ((!!eqGr v.fst u.fst) = true)),
  (((!!eqGr v.fst u.fst) = true) → ((0 : Nat) < 1)),
  (((!!eqGr v.fst u.fst) = true) → ((!!eqGr v.fst u.fst) = true)),
  (((!!eqGr v.fst u.fst) = true) → ((!!eqGr v.fst u.fst) = true)),
  (((!!eqGr v.fst u.fst) = true) → ((0 : Nat) < 1)),
  (((!!eqGr v.fst u.fst) = true) → ((!!eqGr v.fst u.fst) = true)),
  (((!!eqGr v.fst u.fst) = true) → ((!!eqGr v.fst u.fst) = true)),
  (((!!eqGr v.fst u.fst) = true) → ((!!eqGr v.fst u.fst) = true)),
  (((!eqGr v.fst u.fst) = false) → ((!!eqGr v.fst u.fst) = true)),
  ((bif !eqGr v.fst u.fst then true else (↑v.snd.fst.fst : Int) != (↑u.snd.fst.fst : Int)) = true),
  (false = false)] := by kernel_rfl
theorem p61a (v u : T_Framework) :
    pieceOb Try.prog 0 [.reg [oT, oT, oT], .reg [oT, oT, oT, oT, ⟨true, (some ⟨[], [], 1, [], .p (.bool (eqGr v.1 u.1))⟩)⟩, oT, oT, oT, oT, oT, oT, oT, oT, oT, oT], .dec false, .reg [oT], .head] [.code (bodyOf Try.f61)] (start Try.f61 [] 0 [frA v, frA u]) [0, 32] 1 (S61 v u 0) =
    some ([.code (cAt (bodyOf Try.f61) [1, 1, 0, 1, 0, 0]), .inLoop (cAt (bodyOf Try.f61) [1, 1, 0, 1, 0, 0]), .inBlock 0, .code (cAt (bodyOf Try.f61) [1, 1, 1])], [((0 : Nat) < 1),
  ((0 : Nat) < 1),
  Con (Try.prog) 49 0 [] [.agg [.p (.int .i64 (v.fst.fst)), .p (.seq true 2 (v.fst.snd.fst.fst) (fun i => [.int .i64 ((v.fst.snd.fst.snd i).fst), .int .i64 ((v.fst.snd.fst.snd i).snd.fst)]))], .agg [.p (.int .i64 (u.fst.fst)), .p (.seq true 2 (u.fst.snd.fst.fst) (fun i => [.int .i64 ((u.fst.snd.fst.snd i).fst), .int .i64 ((u.fst.snd.fst.snd i).snd.fst)]))]] [] (.p (.bool (eqGr v.fst u.fst))),
  (((!!eqGr v.fst u.fst) = true) → ((!!eqGr v.fst u.fst) = true)),
  (((!!eqGr v.fst u.fst) = true) → ((0 : Nat) < 1)),
  (((!!eqGr v.fst u.fst) = true) → ((!!eqGr v.fst u.fst) = true)),
  (((!!eqGr v.fst u.fst) = true) → ((!!eqGr v.fst u.fst) = true)),
  (((!!eqGr v.fst u.fst) = true) → ((0 : Nat) < 1)),
  (((!!eqGr v.fst u.fst) = true) → ((!!eqGr v.fst u.fst) = true)),
  (((!!eqGr v.fst u.fst) = true) → ((!!eqGr v.fst u.fst) = true)),
  (((!!eqGr v.fst u.fst) = true) → ((!!eqGr v.fst u.fst) = true)),
  (((!eqGr v.fst u.fst) = false) → ((!!eqGr v.fst u.fst) = true)),
  ((bif !eqGr v.fst u.fst then true else (↑v.snd.fst.fst : Int) != (↑u.snd.fst.fst : Int)) = false),
  (((v.fst.fst) : Int) = (v.fst.fst)),
  (((v.fst.snd.fst.fst) : Nat) = (v.fst.snd.fst.fst)),
  (∀ i : Nat, ((((i) : Nat) < (v.fst.snd.fst.fst)) → (([.int .i64 ((v.fst.snd.fst.snd i).fst), .int .i64 ((v.fst.snd.fst.snd i).snd.fst)] : List PV) = [.int .i64 ((v.fst.snd.fst.snd i).fst), .int .i64 ((v.fst.snd.fst.snd i).snd.fst)]))),
  (((v.snd.fst.fst) : Nat) = (v.snd.fst.fst)),
  (∀ i : Nat, ((((i) : Nat) < (v.snd.fst.fst)) → (([.int .i64 ((v.snd.fst.snd i).fst), .int .i64 ((v.snd.fst.snd i).snd.fst)] : List PV) = [.int .i64 ((v.snd.fst.snd i).fst), .int .i64 ((v.snd.fst.snd i).snd.fst)]))),
  (((u.fst.fst) : Int) = (u.fst.fst)),
  (((u.fst.snd.fst.fst) : Nat) = (u.fst.snd.fst.fst)),
  (∀ i : Nat, ((((i) : Nat) < (u.fst.snd.fst.fst)) → (([.int .i64 ((u.fst.snd.fst.snd i).fst), .int .i64 ((u.fst.snd.fst.snd i).snd.fst)] : List PV) = [.int .i64 ((u.fst.snd.fst.snd i).fst), .int .i64 ((u.fst.snd.fst.snd i).snd.fst)]))),
  (((u.snd.fst.fst) : Nat) = (u.snd.fst.fst)),
  (∀ i : Nat, ((((i) : Nat) < (u.snd.fst.fst)) → (([.int .i64 ((u.snd.fst.snd i).fst), .int .i64 ((u.snd.fst.snd i).snd.fst)] : List PV) = [.int .i64 ((u.snd.fst.snd i).fst), .int .i64 ((u.snd.fst.snd i).snd.fst)]))),
  ((0 : Nat) = 0),
  ((0 : Nat) = 0),
  ((0 : Int) = ((↑0 : Int))),
  ((([AV.p (PV.int IntKind.i64 v.fst.fst), barL v.fst.snd.fst, plcL v.snd.fst].length) : Nat) = 3),
  ((1 : Nat) ≤ 1),
  (∀ i : Nat, ((((i) : Nat) < 1) → (All [] ∧ (([.p (.int .i64 (v.fst.fst)), .p (.seq true 2 (v.fst.snd.fst.fst) (fun i_1 => [.int .i64 ((v.fst.snd.fst.snd i_1).fst), .int .i64 ((v.fst.snd.fst.snd i_1).snd.fst)])), .p (.seq true 2 (v.snd.fst.fst) (fun i_1 => [.int .i64 ((v.snd.fst.snd i_1).fst), .int .i64 ((v.snd.fst.snd i_1).snd.fst)]))] : List AV) = [.p (.int .i64 (v.fst.fst)), .p (.seq true 2 (v.fst.snd.fst.fst) (fun i_1 => [.int .i64 ((v.fst.snd.fst.snd i_1).fst), .int .i64 ((v.fst.snd.fst.snd i_1).snd.fst)])), .p (.seq true 2 (v.snd.fst.fst) (fun i_1 => [.int .i64 ((v.snd.fst.snd i_1).fst), .int .i64 ((v.snd.fst.snd i_1).snd.fst)]))])))),
  ((([AV.p (PV.int IntKind.i64 u.fst.fst), barL u.fst.snd.fst, plcL u.snd.fst].length) : Nat) = 3),
  ((1 : Nat) ≤ 1),
  (∀ i : Nat, ((((i) : Nat) < 1) → (All [] ∧ (([.p (.int .i64 (u.fst.fst)), .p (.seq true 2 (u.fst.snd.fst.fst) (fun i_1 => [.int .i64 ((u.fst.snd.fst.snd i_1).fst), .int .i64 ((u.fst.snd.fst.snd i_1).snd.fst)])), .p (.seq true 2 (u.snd.fst.fst) (fun i_1 => [.int .i64 ((u.snd.fst.snd i_1).fst), .int .i64 ((u.snd.fst.snd i_1).snd.fst)]))] : List AV) = [.p (.int .i64 (u.fst.fst)), .p (.seq true 2 (u.fst.snd.fst.fst) (fun i_1 => [.int .i64 ((u.fst.snd.fst.snd i_1).fst), .int .i64 ((u.fst.snd.fst.snd i_1).snd.fst)])), .p (.seq true 2 (u.snd.fst.fst) (fun i_1 => [.int .i64 ((u.snd.fst.snd i_1).fst), .int .i64 ((u.snd.fst.snd i_1).snd.fst)]))]))))]) := by kernel_rfl
theorem p61b (v u : T_Framework) (k : Nat) :
    pieceOb Try.prog 0 [.reg [oT, oT, oT, oT, oT], .dec true, .reg [oT, oT, oT, oT, oT, oT, oT, oT, oT, oT, oT], .dec false, .reg [oT, oT, oT], .head] [.code (cAt (bodyOf Try.f61) [1, 1, 0, 1, 0, 0]), .inLoop (cAt (bodyOf Try.f61) [1, 1, 0, 1, 0, 0]), .inBlock 0, .code (cAt (bodyOf Try.f61) [1, 1, 1])] (S61 v u k) [0, 1] 1 (S61 v u (k + 1)) =
    some ([.code (cAt (bodyOf Try.f61) [1, 1, 0, 1, 0, 0]), .inLoop (cAt (bodyOf Try.f61) [1, 1, 0, 1, 0, 0]), .inBlock 0, .code (cAt (bodyOf Try.f61) [1, 1, 1])], [((0 : Nat) < 1),
  ((decide ((↑k : Int) < (↑v.snd.fst.fst : Int))) = true),
  ((0 : Nat) < 1),
  ((0 : Int) ≤ ((↑k : Int))),
  ((((↑k : Int)) : Int) < ((↑v.snd.fst.fst : Int))),
  ((0 : Nat) < 1),
  ((0 : Int) ≤ ((↑k : Int))),
  ((((↑k : Int)) : Int) < ((↑u.snd.fst.fst : Int))),
  ((!((v.snd.fst.snd k).fst == (u.snd.fst.snd k).fst && ((v.snd.fst.snd k).snd.fst == (u.snd.fst.snd k).snd.fst && true))) = false),
  (((-9223372036854775808) : Int) ≤ ((↑k : Int) + 1)),
  ((((↑k : Int) + 1) : Int) ≤ 9223372036854775807),
  (((v.fst.fst) : Int) = (v.fst.fst)),
  (((v.fst.snd.fst.fst) : Nat) = (v.fst.snd.fst.fst)),
  (∀ i : Nat, ((((i) : Nat) < (v.fst.snd.fst.fst)) → (([.int .i64 ((v.fst.snd.fst.snd i).fst), .int .i64 ((v.fst.snd.fst.snd i).snd.fst)] : List PV) = [.int .i64 ((v.fst.snd.fst.snd i).fst), .int .i64 ((v.fst.snd.fst.snd i).snd.fst)]))),
  (((v.snd.fst.fst) : Nat) = (v.snd.fst.fst)),
  (∀ i : Nat, ((((i) : Nat) < (v.snd.fst.fst)) → (([.int .i64 ((v.snd.fst.snd i).fst), .int .i64 ((v.snd.fst.snd i).snd.fst)] : List PV) = [.int .i64 ((v.snd.fst.snd i).fst), .int .i64 ((v.snd.fst.snd i).snd.fst)]))),
  (((u.fst.fst) : Int) = (u.fst.fst)),
  (((u.fst.snd.fst.fst) : Nat) = (u.fst.snd.fst.fst)),
  (∀ i : Nat, ((((i) : Nat) < (u.fst.snd.fst.fst)) → (([.int .i64 ((u.fst.snd.fst.snd i).fst), .int .i64 ((u.fst.snd.fst.snd i).snd.fst)] : List PV) = [.int .i64 ((u.fst.snd.fst.snd i).fst), .int .i64 ((u.fst.snd.fst.snd i).snd.fst)]))),
  (((u.snd.fst.fst) : Nat) = (u.snd.fst.fst)),
  (∀ i : Nat, ((((i) : Nat) < (u.snd.fst.fst)) → (([.int .i64 ((u.snd.fst.snd i).fst), .int .i64 ((u.snd.fst.snd i).snd.fst)] : List PV) = [.int .i64 ((u.snd.fst.snd i).fst), .int .i64 ((u.snd.fst.snd i).snd.fst)]))),
  ((0 : Nat) = 0),
  ((0 : Nat) = 0),
  ((((↑k : Int) + 1) : Int) = ((↑(k + 1) : Int))),
  ((3 : Nat) = 3),
  ((1 : Nat) ≤ 1),
  (∀ i : Nat, ((((i) : Nat) < 1) → (All [] ∧ (([.p (.int .i64 (v.fst.fst)), .p (.seq true 2 (v.fst.snd.fst.fst) (fun i_1 => [.int .i64 ((v.fst.snd.fst.snd i_1).fst), .int .i64 ((v.fst.snd.fst.snd i_1).snd.fst)])), .p (.seq true 2 (v.snd.fst.fst) (fun i_1 => [.int .i64 ((v.snd.fst.snd i_1).fst), .int .i64 ((v.snd.fst.snd i_1).snd.fst)]))] : List AV) = [.p (.int .i64 (v.fst.fst)), .p (.seq true 2 (v.fst.snd.fst.fst) (fun i_1 => [.int .i64 ((v.fst.snd.fst.snd i_1).fst), .int .i64 ((v.fst.snd.fst.snd i_1).snd.fst)])), .p (.seq true 2 (v.snd.fst.fst) (fun i_1 => [.int .i64 ((v.snd.fst.snd i_1).fst), .int .i64 ((v.snd.fst.snd i_1).snd.fst)]))])))),
  ((3 : Nat) = 3),
  ((1 : Nat) ≤ 1),
  (∀ i : Nat, ((((i) : Nat) < 1) → (All [] ∧ (([.p (.int .i64 (u.fst.fst)), .p (.seq true 2 (u.fst.snd.fst.fst) (fun i_1 => [.int .i64 ((u.fst.snd.fst.snd i_1).fst), .int .i64 ((u.fst.snd.fst.snd i_1).snd.fst)])), .p (.seq true 2 (u.snd.fst.fst) (fun i_1 => [.int .i64 ((u.snd.fst.snd i_1).fst), .int .i64 ((u.snd.fst.snd i_1).snd.fst)]))] : List AV) = [.p (.int .i64 (u.fst.fst)), .p (.seq true 2 (u.fst.snd.fst.fst) (fun i_1 => [.int .i64 ((u.fst.snd.fst.snd i_1).fst), .int .i64 ((u.fst.snd.fst.snd i_1).snd.fst)])), .p (.seq true 2 (u.snd.fst.fst) (fun i_1 => [.int .i64 ((u.snd.fst.snd i_1).fst), .int .i64 ((u.snd.fst.snd i_1).snd.fst)]))]))))]) := by kernel_rfl
theorem p61c (v u : T_Framework) (k : Nat) :
    pathOb Try.prog Try.f61 0 [.reg [oT, oT, oT, oT, oT], .dec true, .reg [oT, oT, oT, oT, oT, oT, oT, oT, oT, oT, oT], .dec true, .reg [oT]] [.code (cAt (bodyOf Try.f61) [1, 1, 0, 1, 0, 0]), .inLoop (cAt (bodyOf Try.f61) [1, 1, 0, 1, 0, 0]), .inBlock 0, .code (cAt (bodyOf Try.f61) [1, 1, 1])] (S61 v u k) [] 1 [] (.p (.bool false)) =
    some [((0 : Nat) < 1),
  ((decide ((↑k : Int) < (↑v.snd.fst.fst : Int))) = true),
  ((0 : Nat) < 1),
  ((0 : Int) ≤ ((↑k : Int))),
  ((((↑k : Int)) : Int) < ((↑v.snd.fst.fst : Int))),
  ((0 : Nat) < 1),
  ((0 : Int) ≤ ((↑k : Int))),
  ((((↑k : Int)) : Int) < ((↑u.snd.fst.fst : Int))),
  ((!((v.snd.fst.snd k).fst == (u.snd.fst.snd k).fst && ((v.snd.fst.snd k).snd.fst == (u.snd.fst.snd k).snd.fst && true))) = true),
  (false = false)] := by kernel_rfl
theorem p61d (v u : T_Framework) (k : Nat) :
    pathOb Try.prog Try.f61 0 [.reg [oT, oT, oT, oT, oT], .dec false, .reg [oT]] [.code (cAt (bodyOf Try.f61) [1, 1, 0, 1, 0, 0]), .inLoop (cAt (bodyOf Try.f61) [1, 1, 0, 1, 0, 0]), .inBlock 0, .code (cAt (bodyOf Try.f61) [1, 1, 1])] (S61 v u k) [] 1 [] (.p (.bool true)) =
    some [((0 : Nat) < 1),
  ((decide ((↑k : Int) < (↑v.snd.fst.fst : Int))) = false),
  (true = true)] := by kernel_rfl
theorem p65 (v u : T_Framework) :
    pathOb Try.prog Try.f65 0 [.reg [oT, oT, oT], .reg [oT, oT, oT, oT, ⟨true, (some ⟨[], [], 1, [], .p (.bool (eqGr v.1 u.1))⟩)⟩, oT, oT, oT, oT, oT, ⟨true, (some ⟨[], [], 1, [], .p (.bool (q_PlaceS v.2.1 u.2.1))⟩)⟩, oT, oT]] [.code (bodyOf Try.f65)] (start Try.f65 [] 0 [frA v, frA u]) [] 1 [] (.p (.bool (eqFr v u))) =
    some [((0 : Nat) < 1),
  ((0 : Nat) < 1),
  Con (Try.prog) 52 0 [] [.agg [.p (.int .i64 (v.fst.fst)), .p (.seq true 2 (v.fst.snd.fst.fst) (fun i => [.int .i64 ((v.fst.snd.fst.snd i).fst), .int .i64 ((v.fst.snd.fst.snd i).snd.fst)]))], .agg [.p (.int .i64 (u.fst.fst)), .p (.seq true 2 (u.fst.snd.fst.fst) (fun i => [.int .i64 ((u.fst.snd.fst.snd i).fst), .int .i64 ((u.fst.snd.fst.snd i).snd.fst)]))]] [] (.p (.bool (eqGr v.fst u.fst))),
  (((eqGr v.fst u.fst) = true) → ((eqGr v.fst u.fst) = true)),
  (((eqGr v.fst u.fst) = true) → ((0 : Nat) < 1)),
  (((eqGr v.fst u.fst) = true) → ((eqGr v.fst u.fst) = true)),
  (((eqGr v.fst u.fst) = true) → ((0 : Nat) < 1)),
  (((eqGr v.fst u.fst) = true) → ((eqGr v.fst u.fst) = true)),
  (((eqGr v.fst u.fst) = true) → ((eqGr v.fst u.fst) = true)),
  (((eqGr v.fst u.fst) = true) → Con (Try.prog) 94 0 [] [.p (.seq true 2 (v.snd.fst.fst) (fun i => [.int .i64 ((v.snd.fst.snd i).fst), .int .i64 ((v.snd.fst.snd i).snd.fst)])), .p (.seq true 2 (u.snd.fst.fst) (fun i => [.int .i64 ((u.snd.fst.snd i).fst), .int .i64 ((u.snd.fst.snd i).snd.fst)]))] [] (.p (.bool (q_PlaceS v.snd.fst u.snd.fst)))),
  (((eqGr v.fst u.fst) = true) → ((eqGr v.fst u.fst) = true)),
  ((bif eqGr v.fst u.fst then q_PlaceS v.snd.fst u.snd.fst else false) = (eqFr v u))] := by kernel_rfl
theorem p66 (v u : T_StepS) :
    pathOb Try.prog Try.f66 0 [.reg [oT], .reg [oT, oT, ⟨true, (some ⟨[], [], 1, [], .p (.bool (q_StepS v u))⟩)⟩, oT]] [.code (bodyOf Try.f66)] (start Try.f66 [] 0 [stpL v, stpL u]) [] 1 [] (.p (.bool (q_StepS v u))) =
    some [Con (Try.prog) 95 0 [] [.p (.seq true 5 (v.fst) (fun i => [.int .i64 ((v.snd i).fst), .int .i64 ((v.snd i).snd.fst), .int .i64 ((v.snd i).snd.snd.fst), .int .i64 ((v.snd i).snd.snd.snd.fst), .int .i64 ((v.snd i).snd.snd.snd.snd.fst)])), .p (.seq true 5 (u.fst) (fun i => [.int .i64 ((u.snd i).fst), .int .i64 ((u.snd i).snd.fst), .int .i64 ((u.snd i).snd.snd.fst), .int .i64 ((u.snd i).snd.snd.snd.fst), .int .i64 ((u.snd i).snd.snd.snd.snd.fst)]))] [] (.p (.bool (q_StepS v u))),
  ((q_StepS v u) = (q_StepS v u))] := by kernel_rfl
theorem p24 (v u : T_Claim) :
    pathOb Try.prog Try.f24 0 [.reg [oT, oT, oT], .reg [oT, oT, oT, oT, oT, oT, oT, oT, oT, oT, ⟨true, (some ⟨[], [], 1, [], .p (.bool (eqGr v.2.1 u.2.1))⟩)⟩, oT, oT, oT, oT, oT, oT, oT, oT, ⟨true, (some ⟨[], [], 1, [], .p (.bool (eqFr v.2.2.1.1 u.2.2.1.1))⟩)⟩, oT, oT, oT, oT, oT, oT, oT, oT, ⟨true, (some ⟨[], [], 1, [], .p (.bool (q_IntS v.2.2.1.2.1 u.2.2.1.2.1))⟩)⟩, oT, oT, oT, oT, oT, oT, ⟨true, (some ⟨[], [], 1, [], .p (.bool (q_StepS v.2.2.2.1 u.2.2.2.1))⟩)⟩, oT, oT, oT, oT, oT, oT, ⟨true, (some ⟨[], [], 1, [], .p (.bool (q_IntS v.2.2.2.2.1 u.2.2.2.2.1))⟩)⟩, oT, oT]] [.code (bodyOf Try.f24)] (start Try.f24 [] 0 [clA v, clA u]) [] 1 [] (.p (.bool (eqCl v u))) =
    some [((0 : Nat) < 1),
  ((0 : Nat) < 1),
  (((v.fst == u.fst) = true) → ((v.fst == u.fst) = true)),
  (((v.fst == u.fst) = true) → ((0 : Nat) < 1)),
  (((v.fst == u.fst) = true) → ((v.fst == u.fst) = true)),
  (((v.fst == u.fst) = true) → ((0 : Nat) < 1)),
  (((v.fst == u.fst) = true) → ((v.fst == u.fst) = true)),
  (((v.fst == u.fst) = true) → ((v.fst == u.fst) = true)),
  (((v.fst == u.fst) = true) → Con (Try.prog) 49 0 [] [.agg [.p (.int .i64 (v.snd.fst.fst)), .p (.seq true 2 (v.snd.fst.snd.fst.fst) (fun i => [.int .i64 ((v.snd.fst.snd.fst.snd i).fst), .int .i64 ((v.snd.fst.snd.fst.snd i).snd.fst)]))], .agg [.p (.int .i64 (u.snd.fst.fst)), .p (.seq true 2 (u.snd.fst.snd.fst.fst) (fun i => [.int .i64 ((u.snd.fst.snd.fst.snd i).fst), .int .i64 ((u.snd.fst.snd.fst.snd i).snd.fst)]))]] [] (.p (.bool (eqGr v.snd.fst u.snd.fst)))),
  (((v.fst == u.fst) = true) → ((v.fst == u.fst) = true)),
  (((bif v.fst == u.fst then eqGr v.snd.fst u.snd.fst else false) = true) → ((bif v.fst == u.fst then eqGr v.snd.fst u.snd.fst else false) = true)),
  (((bif v.fst == u.fst then eqGr v.snd.fst u.snd.fst else false) = true) → ((bif v.fst == u.fst then eqGr v.snd.fst u.snd.fst else false) = true)),
  (((bif v.fst == u.fst then eqGr v.snd.fst u.snd.fst else false) = true) → ((0 : Nat) < 1)),
  (((bif v.fst == u.fst then eqGr v.snd.fst u.snd.fst else false) = true) → ((bif v.fst == u.fst then eqGr v.snd.fst u.snd.fst else false) = true)),
  (((bif v.fst == u.fst then eqGr v.snd.fst u.snd.fst else false) = true) → ((bif v.fst == u.fst then eqGr v.snd.fst u.snd.fst else false) = true)),
  (((bif v.fst == u.fst then eqGr v.snd.fst u.snd.fst else false) = true) → ((0 : Nat) < 1)),
  (((bif v.fst == u.fst then eqGr v.snd.fst u.snd.fst else false) = true) → ((bif v.fst == u.fst then eqGr v.snd.fst u.snd.fst else false) = true)),
  (((bif v.fst == u.fst then eqGr v.snd.fst u.snd.fst else false) = true) → ((bif v.fst == u.fst then eqGr v.snd.fst u.snd.fst else false) = true)),
  (((bif v.fst == u.fst then eqGr v.snd.fst u.snd.fst else false) = true) → Con (Try.prog) 61 0 [] [.agg [.p (.int .i64 (v.snd.snd.fst.fst.fst.fst)), .p (.seq true 2 (v.snd.snd.fst.fst.fst.snd.fst.fst) (fun i => [.int .i64 ((v.snd.snd.fst.fst.fst.snd.fst.snd i).fst), .int .i64 ((v.snd.snd.fst.fst.fst.snd.fst.snd i).snd.fst)])), .p (.seq true 2 (v.snd.snd.fst.fst.snd.fst.fst) (fun i => [.int .i64 ((v.snd.snd.fst.fst.snd.fst.snd i).fst), .int .i64 ((v.snd.snd.fst.fst.snd.fst.snd i).snd.fst)]))], .agg [.p (.int .i64 (u.snd.snd.fst.fst.fst.fst)), .p (.seq true 2 (u.snd.snd.fst.fst.fst.snd.fst.fst) (fun i => [.int .i64 ((u.snd.snd.fst.fst.fst.snd.fst.snd i).fst), .int .i64 ((u.snd.snd.fst.fst.fst.snd.fst.snd i).snd.fst)])), .p (.seq true 2 (u.snd.snd.fst.fst.snd.fst.fst) (fun i => [.int .i64 ((u.snd.snd.fst.fst.snd.fst.snd i).fst), .int .i64 ((u.snd.snd.fst.fst.snd.fst.snd i).snd.fst)]))]] [] (.p (.bool (eqFr v.snd.snd.fst.fst u.snd.snd.fst.fst)))),
  (((bif v.fst == u.fst then eqGr v.snd.fst u.snd.fst else false) = true) → ((bif v.fst == u.fst then eqGr v.snd.fst u.snd.fst else false) = true)),
  (((bif bif v.fst == u.fst then eqGr v.snd.fst u.snd.fst else false then eqFr v.snd.snd.fst.fst u.snd.snd.fst.fst else false) = true) → ((bif bif v.fst == u.fst then eqGr v.snd.fst u.snd.fst else false then eqFr v.snd.snd.fst.fst u.snd.snd.fst.fst else false) = true)),
  (((bif bif v.fst == u.fst then eqGr v.snd.fst u.snd.fst else false then eqFr v.snd.snd.fst.fst u.snd.snd.fst.fst else false) = true) → ((bif bif v.fst == u.fst then eqGr v.snd.fst u.snd.fst else false then eqFr v.snd.snd.fst.fst u.snd.snd.fst.fst else false) = true)),
  (((bif bif v.fst == u.fst then eqGr v.snd.fst u.snd.fst else false then eqFr v.snd.snd.fst.fst u.snd.snd.fst.fst else false) = true) → ((0 : Nat) < 1)),
  (((bif bif v.fst == u.fst then eqGr v.snd.fst u.snd.fst else false then eqFr v.snd.snd.fst.fst u.snd.snd.fst.fst else false) = true) → ((bif bif v.fst == u.fst then eqGr v.snd.fst u.snd.fst else false then eqFr v.snd.snd.fst.fst u.snd.snd.fst.fst else false) = true)),
  (((bif bif v.fst == u.fst then eqGr v.snd.fst u.snd.fst else false then eqFr v.snd.snd.fst.fst u.snd.snd.fst.fst else false) = true) → ((bif bif v.fst == u.fst then eqGr v.snd.fst u.snd.fst else false then eqFr v.snd.snd.fst.fst u.snd.snd.fst.fst else false) = true)),
  (((bif bif v.fst == u.fst then eqGr v.snd.fst u.snd.fst else false then eqFr v.snd.snd.fst.fst u.snd.snd.fst.fst else false) = true) → ((0 : Nat) < 1)),
  (((bif bif v.fst == u.fst then eqGr v.snd.fst u.snd.fst else false then eqFr v.snd.snd.fst.fst u.snd.snd.fst.fst else false) = true) → ((bif bif v.fst == u.fst then eqGr v.snd.fst u.snd.fst else false then eqFr v.snd.snd.fst.fst u.snd.snd.fst.fst else false) = true)),
  (((bif bif v.fst == u.fst then eqGr v.snd.fst u.snd.fst else false then eqFr v.snd.snd.fst.fst u.snd.snd.fst.fst else false) = true) → ((bif bif v.fst == u.fst then eqGr v.snd.fst u.snd.fst else false then eqFr v.snd.snd.fst.fst u.snd.snd.fst.fst else false) = true)),
  (((bif bif v.fst == u.fst then eqGr v.snd.fst u.snd.fst else false then eqFr v.snd.snd.fst.fst u.snd.snd.fst.fst else false) = true) → Con (Try.prog) 50 0 [] [.p (.seq true 1 (v.snd.snd.fst.snd.fst.fst) (fun i => [.int .i64 (v.snd.snd.fst.snd.fst.snd i)])), .p (.seq true 1 (u.snd.snd.fst.snd.fst.fst) (fun i => [.int .i64 (u.snd.snd.fst.snd.fst.snd i)]))] [] (.p (.bool (q_IntS v.snd.snd.fst.snd.fst u.snd.snd.fst.snd.fst)))),
  (((bif bif v.fst == u.fst then eqGr v.snd.fst u.snd.fst else false then eqFr v.snd.snd.fst.fst u.snd.snd.fst.fst else false) = true) → ((bif bif v.fst == u.fst then eqGr v.snd.fst u.snd.fst else false then eqFr v.snd.snd.fst.fst u.snd.snd.fst.fst else false) = true)),
  (((bif bif bif v.fst == u.fst then eqGr v.snd.fst u.snd.fst else false then eqFr v.snd.snd.fst.fst u.snd.snd.fst.fst else false then q_IntS v.snd.snd.fst.snd.fst u.snd.snd.fst.snd.fst else false) = true) → ((bif bif bif v.fst == u.fst then eqGr v.snd.fst u.snd.fst else false then eqFr v.snd.snd.fst.fst u.snd.snd.fst.fst else false then q_IntS v.snd.snd.fst.snd.fst u.snd.snd.fst.snd.fst else false) = true)),
  (((bif bif bif v.fst == u.fst then eqGr v.snd.fst u.snd.fst else false then eqFr v.snd.snd.fst.fst u.snd.snd.fst.fst else false then q_IntS v.snd.snd.fst.snd.fst u.snd.snd.fst.snd.fst else false) = true) → ((0 : Nat) < 1)),
  (((bif bif bif v.fst == u.fst then eqGr v.snd.fst u.snd.fst else false then eqFr v.snd.snd.fst.fst u.snd.snd.fst.fst else false then q_IntS v.snd.snd.fst.snd.fst u.snd.snd.fst.snd.fst else false) = true) → ((bif bif bif v.fst == u.fst then eqGr v.snd.fst u.snd.fst else false then eqFr v.snd.snd.fst.fst u.snd.snd.fst.fst else false then q_IntS v.snd.snd.fst.snd.fst u.snd.snd.fst.snd.fst else false) = true)),
  (((bif bif bif v.fst == u.fst then eqGr v.snd.fst u.snd.fst else false then eqFr v.snd.snd.fst.fst u.snd.snd.fst.fst else false then q_IntS v.snd.snd.fst.snd.fst u.snd.snd.fst.snd.fst else false) = true) → ((0 : Nat) < 1)),
  (((bif bif bif v.fst == u.fst then eqGr v.snd.fst u.snd.fst else false then eqFr v.snd.snd.fst.fst u.snd.snd.fst.fst else false then q_IntS v.snd.snd.fst.snd.fst u.snd.snd.fst.snd.fst else false) = true) → ((bif bif bif v.fst == u.fst then eqGr v.snd.fst u.snd.fst else false then eqFr v.snd.snd.fst.fst u.snd.snd.fst.fst else false then q_IntS v.snd.snd.fst.snd.fst u.snd.snd.fst.snd.fst else false) = true)),
  (((bif bif bif v.fst == u.fst then eqGr v.snd.fst u.snd.fst else false then eqFr v.snd.snd.fst.fst u.snd.snd.fst.fst else false then q_IntS v.snd.snd.fst.snd.fst u.snd.snd.fst.snd.fst else false) = true) → ((bif bif bif v.fst == u.fst then eqGr v.snd.fst u.snd.fst else false then eqFr v.snd.snd.fst.fst u.snd.snd.fst.fst else false then q_IntS v.snd.snd.fst.snd.fst u.snd.snd.fst.snd.fst else false) = true)),
  (((bif bif bif v.fst == u.fst then eqGr v.snd.fst u.snd.fst else false then eqFr v.snd.snd.fst.fst u.snd.snd.fst.fst else false then q_IntS v.snd.snd.fst.snd.fst u.snd.snd.fst.snd.fst else false) = true) → Con (Try.prog) 62 0 [] [.p (.seq true 5 (v.snd.snd.snd.fst.fst) (fun i => [.int .i64 ((v.snd.snd.snd.fst.snd i).fst), .int .i64 ((v.snd.snd.snd.fst.snd i).snd.fst), .int .i64 ((v.snd.snd.snd.fst.snd i).snd.snd.fst), .int .i64 ((v.snd.snd.snd.fst.snd i).snd.snd.snd.fst), .int .i64 ((v.snd.snd.snd.fst.snd i).snd.snd.snd.snd.fst)])), .p (.seq true 5 (u.snd.snd.snd.fst.fst) (fun i => [.int .i64 ((u.snd.snd.snd.fst.snd i).fst), .int .i64 ((u.snd.snd.snd.fst.snd i).snd.fst), .int .i64 ((u.snd.snd.snd.fst.snd i).snd.snd.fst), .int .i64 ((u.snd.snd.snd.fst.snd i).snd.snd.snd.fst), .int .i64 ((u.snd.snd.snd.fst.snd i).snd.snd.snd.snd.fst)]))] [] (.p (.bool (q_StepS v.snd.snd.snd.fst u.snd.snd.snd.fst)))),
  (((bif bif bif v.fst == u.fst then eqGr v.snd.fst u.snd.fst else false then eqFr v.snd.snd.fst.fst u.snd.snd.fst.fst else false then q_IntS v.snd.snd.fst.snd.fst u.snd.snd.fst.snd.fst else false) = true) → ((bif bif bif v.fst == u.fst then eqGr v.snd.fst u.snd.fst else false then eqFr v.snd.snd.fst.fst u.snd.snd.fst.fst else false then q_IntS v.snd.snd.fst.snd.fst u.snd.snd.fst.snd.fst else false) = true)),
  (((bif bif bif bif v.fst == u.fst then eqGr v.snd.fst u.snd.fst else false then eqFr v.snd.snd.fst.fst u.snd.snd.fst.fst else false then q_IntS v.snd.snd.fst.snd.fst u.snd.snd.fst.snd.fst else false then q_StepS v.snd.snd.snd.fst u.snd.snd.snd.fst else false) = true) → ((bif bif bif bif v.fst == u.fst then eqGr v.snd.fst u.snd.fst else false then eqFr v.snd.snd.fst.fst u.snd.snd.fst.fst else false then q_IntS v.snd.snd.fst.snd.fst u.snd.snd.fst.snd.fst else false then q_StepS v.snd.snd.snd.fst u.snd.snd.snd.fst else false) = true)),
  (((bif bif bif bif v.fst == u.fst then eqGr v.snd.fst u.snd.fst else false then eqFr v.snd.snd.fst.fst u.snd.snd.fst.fst else false then q_IntS v.snd.snd.fst.snd.fst u.snd.snd.fst.snd.fst else false then q_StepS v.snd.snd.snd.fst u.snd.snd.snd.fst else false) = true) → ((0 : Nat) < 1)),
  (((bif bif bif bif v.fst == u.fst then eqGr v.snd.fst u.snd.fst else false then eqFr v.snd.snd.fst.fst u.snd.snd.fst.fst else false then q_IntS v.snd.snd.fst.snd.fst u.snd.snd.fst.snd.fst else false then q_StepS v.snd.snd.snd.fst u.snd.snd.snd.fst else false) = true) → ((bif bif bif bif v.fst == u.fst then eqGr v.snd.fst u.snd.fst else false then eqFr v.snd.snd.fst.fst u.snd.snd.fst.fst else false then q_IntS v.snd.snd.fst.snd.fst u.snd.snd.fst.snd.fst else false then q_StepS v.snd.snd.snd.fst u.snd.snd.snd.fst else false) = true)),
  (((bif bif bif bif v.fst == u.fst then eqGr v.snd.fst u.snd.fst else false then eqFr v.snd.snd.fst.fst u.snd.snd.fst.fst else false then q_IntS v.snd.snd.fst.snd.fst u.snd.snd.fst.snd.fst else false then q_StepS v.snd.snd.snd.fst u.snd.snd.snd.fst else false) = true) → ((0 : Nat) < 1)),
  (((bif bif bif bif v.fst == u.fst then eqGr v.snd.fst u.snd.fst else false then eqFr v.snd.snd.fst.fst u.snd.snd.fst.fst else false then q_IntS v.snd.snd.fst.snd.fst u.snd.snd.fst.snd.fst else false then q_StepS v.snd.snd.snd.fst u.snd.snd.snd.fst else false) = true) → ((bif bif bif bif v.fst == u.fst then eqGr v.snd.fst u.snd.fst else false then eqFr v.snd.snd.fst.fst u.snd.snd.fst.fst else false then q_IntS v.snd.snd.fst.snd.fst u.snd.snd.fst.snd.fst else false then q_StepS v.snd.snd.snd.fst u.snd.snd.snd.fst else false) = true)),
  (((bif bif bif bif v.fst == u.fst then eqGr v.snd.fst u.snd.fst else false then eqFr v.snd.snd.fst.fst u.snd.snd.fst.fst else false then q_IntS v.snd.snd.fst.snd.fst u.snd.snd.fst.snd.fst else false then q_StepS v.snd.snd.snd.fst u.snd.snd.snd.fst else false) = true) → ((bif bif bif bif v.fst == u.fst then eqGr v.snd.fst u.snd.fst else false then eqFr v.snd.snd.fst.fst u.snd.snd.fst.fst else false then q_IntS v.snd.snd.fst.snd.fst u.snd.snd.fst.snd.fst else false then q_StepS v.snd.snd.snd.fst u.snd.snd.snd.fst else false) = true)),
  (((bif bif bif bif v.fst == u.fst then eqGr v.snd.fst u.snd.fst else false then eqFr v.snd.snd.fst.fst u.snd.snd.fst.fst else false then q_IntS v.snd.snd.fst.snd.fst u.snd.snd.fst.snd.fst else false then q_StepS v.snd.snd.snd.fst u.snd.snd.snd.fst else false) = true) → Con (Try.prog) 50 0 [] [.p (.seq true 1 (v.snd.snd.snd.snd.fst.fst) (fun i => [.int .i64 (v.snd.snd.snd.snd.fst.snd i)])), .p (.seq true 1 (u.snd.snd.snd.snd.fst.fst) (fun i => [.int .i64 (u.snd.snd.snd.snd.fst.snd i)]))] [] (.p (.bool (q_IntS v.snd.snd.snd.snd.fst u.snd.snd.snd.snd.fst)))),
  (((bif bif bif bif v.fst == u.fst then eqGr v.snd.fst u.snd.fst else false then eqFr v.snd.snd.fst.fst u.snd.snd.fst.fst else false then q_IntS v.snd.snd.fst.snd.fst u.snd.snd.fst.snd.fst else false then q_StepS v.snd.snd.snd.fst u.snd.snd.snd.fst else false) = true) → ((bif bif bif bif v.fst == u.fst then eqGr v.snd.fst u.snd.fst else false then eqFr v.snd.snd.fst.fst u.snd.snd.fst.fst else false then q_IntS v.snd.snd.fst.snd.fst u.snd.snd.fst.snd.fst else false then q_StepS v.snd.snd.snd.fst u.snd.snd.snd.fst else false) = true)),
  ((bif bif bif bif bif v.fst == u.fst then eqGr v.snd.fst u.snd.fst else false then eqFr v.snd.snd.fst.fst u.snd.snd.fst.fst else false then q_IntS v.snd.snd.fst.snd.fst u.snd.snd.fst.snd.fst else false then q_StepS v.snd.snd.snd.fst u.snd.snd.snd.fst else false then q_IntS v.snd.snd.snd.snd.fst u.snd.snd.snd.snd.fst else false) = (eqCl v u))] := by kernel_rfl
theorem p26 (v u : T_Claim) :
    pathOb Try.prog Try.f26 0 [.reg [oT, oT, oT], .reg [oT, oT, oT, oT, oT, oT, oT, oT, oT, oT, ⟨true, (some ⟨[], [], 1, [], .p (.bool (eqGr v.2.1 u.2.1))⟩)⟩, oT, oT, oT, oT, oT, oT, oT, oT, ⟨true, (some ⟨[], [], 1, [], .p (.bool (eqFr v.2.2.1.1 u.2.2.1.1))⟩)⟩, oT, oT, oT, oT, oT, oT, oT, oT, ⟨true, (some ⟨[], [], 1, [], .p (.bool (q_IntS v.2.2.1.2.1 u.2.2.1.2.1))⟩)⟩, oT, oT, oT, oT, oT, oT, ⟨true, (some ⟨[], [], 1, [], .p (.bool (q_StepS v.2.2.2.1 u.2.2.2.1))⟩)⟩, oT, oT, oT, oT, oT, oT, ⟨true, (some ⟨[], [], 1, [], .p (.bool (q_IntS v.2.2.2.2.1 u.2.2.2.2.1))⟩)⟩, oT, oT]] [.code (bodyOf Try.f26)] (start Try.f26 [] 0 [clA v, clA u]) [] 1 [] (.p (.bool (eqCl v u))) =
    some [((0 : Nat) < 1),
  ((0 : Nat) < 1),
  (((v.fst == u.fst) = true) → ((v.fst == u.fst) = true)),
  (((v.fst == u.fst) = true) → ((0 : Nat) < 1)),
  (((v.fst == u.fst) = true) → ((v.fst == u.fst) = true)),
  (((v.fst == u.fst) = true) → ((0 : Nat) < 1)),
  (((v.fst == u.fst) = true) → ((v.fst == u.fst) = true)),
  (((v.fst == u.fst) = true) → ((v.fst == u.fst) = true)),
  (((v.fst == u.fst) = true) → Con (Try.prog) 52 0 [] [.agg [.p (.int .i64 (v.snd.fst.fst)), .p (.seq true 2 (v.snd.fst.snd.fst.fst) (fun i => [.int .i64 ((v.snd.fst.snd.fst.snd i).fst), .int .i64 ((v.snd.fst.snd.fst.snd i).snd.fst)]))], .agg [.p (.int .i64 (u.snd.fst.fst)), .p (.seq true 2 (u.snd.fst.snd.fst.fst) (fun i => [.int .i64 ((u.snd.fst.snd.fst.snd i).fst), .int .i64 ((u.snd.fst.snd.fst.snd i).snd.fst)]))]] [] (.p (.bool (eqGr v.snd.fst u.snd.fst)))),
  (((v.fst == u.fst) = true) → ((v.fst == u.fst) = true)),
  (((bif v.fst == u.fst then eqGr v.snd.fst u.snd.fst else false) = true) → ((bif v.fst == u.fst then eqGr v.snd.fst u.snd.fst else false) = true)),
  (((bif v.fst == u.fst then eqGr v.snd.fst u.snd.fst else false) = true) → ((bif v.fst == u.fst then eqGr v.snd.fst u.snd.fst else false) = true)),
  (((bif v.fst == u.fst then eqGr v.snd.fst u.snd.fst else false) = true) → ((0 : Nat) < 1)),
  (((bif v.fst == u.fst then eqGr v.snd.fst u.snd.fst else false) = true) → ((bif v.fst == u.fst then eqGr v.snd.fst u.snd.fst else false) = true)),
  (((bif v.fst == u.fst then eqGr v.snd.fst u.snd.fst else false) = true) → ((bif v.fst == u.fst then eqGr v.snd.fst u.snd.fst else false) = true)),
  (((bif v.fst == u.fst then eqGr v.snd.fst u.snd.fst else false) = true) → ((0 : Nat) < 1)),
  (((bif v.fst == u.fst then eqGr v.snd.fst u.snd.fst else false) = true) → ((bif v.fst == u.fst then eqGr v.snd.fst u.snd.fst else false) = true)),
  (((bif v.fst == u.fst then eqGr v.snd.fst u.snd.fst else false) = true) → ((bif v.fst == u.fst then eqGr v.snd.fst u.snd.fst else false) = true)),
  (((bif v.fst == u.fst then eqGr v.snd.fst u.snd.fst else false) = true) → Con (Try.prog) 65 0 [] [.agg [.p (.int .i64 (v.snd.snd.fst.fst.fst.fst)), .p (.seq true 2 (v.snd.snd.fst.fst.fst.snd.fst.fst) (fun i => [.int .i64 ((v.snd.snd.fst.fst.fst.snd.fst.snd i).fst), .int .i64 ((v.snd.snd.fst.fst.fst.snd.fst.snd i).snd.fst)])), .p (.seq true 2 (v.snd.snd.fst.fst.snd.fst.fst) (fun i => [.int .i64 ((v.snd.snd.fst.fst.snd.fst.snd i).fst), .int .i64 ((v.snd.snd.fst.fst.snd.fst.snd i).snd.fst)]))], .agg [.p (.int .i64 (u.snd.snd.fst.fst.fst.fst)), .p (.seq true 2 (u.snd.snd.fst.fst.fst.snd.fst.fst) (fun i => [.int .i64 ((u.snd.snd.fst.fst.fst.snd.fst.snd i).fst), .int .i64 ((u.snd.snd.fst.fst.fst.snd.fst.snd i).snd.fst)])), .p (.seq true 2 (u.snd.snd.fst.fst.snd.fst.fst) (fun i => [.int .i64 ((u.snd.snd.fst.fst.snd.fst.snd i).fst), .int .i64 ((u.snd.snd.fst.fst.snd.fst.snd i).snd.fst)]))]] [] (.p (.bool (eqFr v.snd.snd.fst.fst u.snd.snd.fst.fst)))),
  (((bif v.fst == u.fst then eqGr v.snd.fst u.snd.fst else false) = true) → ((bif v.fst == u.fst then eqGr v.snd.fst u.snd.fst else false) = true)),
  (((bif bif v.fst == u.fst then eqGr v.snd.fst u.snd.fst else false then eqFr v.snd.snd.fst.fst u.snd.snd.fst.fst else false) = true) → ((bif bif v.fst == u.fst then eqGr v.snd.fst u.snd.fst else false then eqFr v.snd.snd.fst.fst u.snd.snd.fst.fst else false) = true)),
  (((bif bif v.fst == u.fst then eqGr v.snd.fst u.snd.fst else false then eqFr v.snd.snd.fst.fst u.snd.snd.fst.fst else false) = true) → ((bif bif v.fst == u.fst then eqGr v.snd.fst u.snd.fst else false then eqFr v.snd.snd.fst.fst u.snd.snd.fst.fst else false) = true)),
  (((bif bif v.fst == u.fst then eqGr v.snd.fst u.snd.fst else false then eqFr v.snd.snd.fst.fst u.snd.snd.fst.fst else false) = true) → ((0 : Nat) < 1)),
  (((bif bif v.fst == u.fst then eqGr v.snd.fst u.snd.fst else false then eqFr v.snd.snd.fst.fst u.snd.snd.fst.fst else false) = true) → ((bif bif v.fst == u.fst then eqGr v.snd.fst u.snd.fst else false then eqFr v.snd.snd.fst.fst u.snd.snd.fst.fst else false) = true)),
  (((bif bif v.fst == u.fst then eqGr v.snd.fst u.snd.fst else false then eqFr v.snd.snd.fst.fst u.snd.snd.fst.fst else false) = true) → ((bif bif v.fst == u.fst then eqGr v.snd.fst u.snd.fst else false then eqFr v.snd.snd.fst.fst u.snd.snd.fst.fst else false) = true)),
  (((bif bif v.fst == u.fst then eqGr v.snd.fst u.snd.fst else false then eqFr v.snd.snd.fst.fst u.snd.snd.fst.fst else false) = true) → ((0 : Nat) < 1)),
  (((bif bif v.fst == u.fst then eqGr v.snd.fst u.snd.fst else false then eqFr v.snd.snd.fst.fst u.snd.snd.fst.fst else false) = true) → ((bif bif v.fst == u.fst then eqGr v.snd.fst u.snd.fst else false then eqFr v.snd.snd.fst.fst u.snd.snd.fst.fst else false) = true)),
  (((bif bif v.fst == u.fst then eqGr v.snd.fst u.snd.fst else false then eqFr v.snd.snd.fst.fst u.snd.snd.fst.fst else false) = true) → ((bif bif v.fst == u.fst then eqGr v.snd.fst u.snd.fst else false then eqFr v.snd.snd.fst.fst u.snd.snd.fst.fst else false) = true)),
  (((bif bif v.fst == u.fst then eqGr v.snd.fst u.snd.fst else false then eqFr v.snd.snd.fst.fst u.snd.snd.fst.fst else false) = true) → Con (Try.prog) 53 0 [] [.p (.seq true 1 (v.snd.snd.fst.snd.fst.fst) (fun i => [.int .i64 (v.snd.snd.fst.snd.fst.snd i)])), .p (.seq true 1 (u.snd.snd.fst.snd.fst.fst) (fun i => [.int .i64 (u.snd.snd.fst.snd.fst.snd i)]))] [] (.p (.bool (q_IntS v.snd.snd.fst.snd.fst u.snd.snd.fst.snd.fst)))),
  (((bif bif v.fst == u.fst then eqGr v.snd.fst u.snd.fst else false then eqFr v.snd.snd.fst.fst u.snd.snd.fst.fst else false) = true) → ((bif bif v.fst == u.fst then eqGr v.snd.fst u.snd.fst else false then eqFr v.snd.snd.fst.fst u.snd.snd.fst.fst else false) = true)),
  (((bif bif bif v.fst == u.fst then eqGr v.snd.fst u.snd.fst else false then eqFr v.snd.snd.fst.fst u.snd.snd.fst.fst else false then q_IntS v.snd.snd.fst.snd.fst u.snd.snd.fst.snd.fst else false) = true) → ((bif bif bif v.fst == u.fst then eqGr v.snd.fst u.snd.fst else false then eqFr v.snd.snd.fst.fst u.snd.snd.fst.fst else false then q_IntS v.snd.snd.fst.snd.fst u.snd.snd.fst.snd.fst else false) = true)),
  (((bif bif bif v.fst == u.fst then eqGr v.snd.fst u.snd.fst else false then eqFr v.snd.snd.fst.fst u.snd.snd.fst.fst else false then q_IntS v.snd.snd.fst.snd.fst u.snd.snd.fst.snd.fst else false) = true) → ((0 : Nat) < 1)),
  (((bif bif bif v.fst == u.fst then eqGr v.snd.fst u.snd.fst else false then eqFr v.snd.snd.fst.fst u.snd.snd.fst.fst else false then q_IntS v.snd.snd.fst.snd.fst u.snd.snd.fst.snd.fst else false) = true) → ((bif bif bif v.fst == u.fst then eqGr v.snd.fst u.snd.fst else false then eqFr v.snd.snd.fst.fst u.snd.snd.fst.fst else false then q_IntS v.snd.snd.fst.snd.fst u.snd.snd.fst.snd.fst else false) = true)),
  (((bif bif bif v.fst == u.fst then eqGr v.snd.fst u.snd.fst else false then eqFr v.snd.snd.fst.fst u.snd.snd.fst.fst else false then q_IntS v.snd.snd.fst.snd.fst u.snd.snd.fst.snd.fst else false) = true) → ((0 : Nat) < 1)),
  (((bif bif bif v.fst == u.fst then eqGr v.snd.fst u.snd.fst else false then eqFr v.snd.snd.fst.fst u.snd.snd.fst.fst else false then q_IntS v.snd.snd.fst.snd.fst u.snd.snd.fst.snd.fst else false) = true) → ((bif bif bif v.fst == u.fst then eqGr v.snd.fst u.snd.fst else false then eqFr v.snd.snd.fst.fst u.snd.snd.fst.fst else false then q_IntS v.snd.snd.fst.snd.fst u.snd.snd.fst.snd.fst else false) = true)),
  (((bif bif bif v.fst == u.fst then eqGr v.snd.fst u.snd.fst else false then eqFr v.snd.snd.fst.fst u.snd.snd.fst.fst else false then q_IntS v.snd.snd.fst.snd.fst u.snd.snd.fst.snd.fst else false) = true) → ((bif bif bif v.fst == u.fst then eqGr v.snd.fst u.snd.fst else false then eqFr v.snd.snd.fst.fst u.snd.snd.fst.fst else false then q_IntS v.snd.snd.fst.snd.fst u.snd.snd.fst.snd.fst else false) = true)),
  (((bif bif bif v.fst == u.fst then eqGr v.snd.fst u.snd.fst else false then eqFr v.snd.snd.fst.fst u.snd.snd.fst.fst else false then q_IntS v.snd.snd.fst.snd.fst u.snd.snd.fst.snd.fst else false) = true) → Con (Try.prog) 66 0 [] [.p (.seq true 5 (v.snd.snd.snd.fst.fst) (fun i => [.int .i64 ((v.snd.snd.snd.fst.snd i).fst), .int .i64 ((v.snd.snd.snd.fst.snd i).snd.fst), .int .i64 ((v.snd.snd.snd.fst.snd i).snd.snd.fst), .int .i64 ((v.snd.snd.snd.fst.snd i).snd.snd.snd.fst), .int .i64 ((v.snd.snd.snd.fst.snd i).snd.snd.snd.snd.fst)])), .p (.seq true 5 (u.snd.snd.snd.fst.fst) (fun i => [.int .i64 ((u.snd.snd.snd.fst.snd i).fst), .int .i64 ((u.snd.snd.snd.fst.snd i).snd.fst), .int .i64 ((u.snd.snd.snd.fst.snd i).snd.snd.fst), .int .i64 ((u.snd.snd.snd.fst.snd i).snd.snd.snd.fst), .int .i64 ((u.snd.snd.snd.fst.snd i).snd.snd.snd.snd.fst)]))] [] (.p (.bool (q_StepS v.snd.snd.snd.fst u.snd.snd.snd.fst)))),
  (((bif bif bif v.fst == u.fst then eqGr v.snd.fst u.snd.fst else false then eqFr v.snd.snd.fst.fst u.snd.snd.fst.fst else false then q_IntS v.snd.snd.fst.snd.fst u.snd.snd.fst.snd.fst else false) = true) → ((bif bif bif v.fst == u.fst then eqGr v.snd.fst u.snd.fst else false then eqFr v.snd.snd.fst.fst u.snd.snd.fst.fst else false then q_IntS v.snd.snd.fst.snd.fst u.snd.snd.fst.snd.fst else false) = true)),
  (((bif bif bif bif v.fst == u.fst then eqGr v.snd.fst u.snd.fst else false then eqFr v.snd.snd.fst.fst u.snd.snd.fst.fst else false then q_IntS v.snd.snd.fst.snd.fst u.snd.snd.fst.snd.fst else false then q_StepS v.snd.snd.snd.fst u.snd.snd.snd.fst else false) = true) → ((bif bif bif bif v.fst == u.fst then eqGr v.snd.fst u.snd.fst else false then eqFr v.snd.snd.fst.fst u.snd.snd.fst.fst else false then q_IntS v.snd.snd.fst.snd.fst u.snd.snd.fst.snd.fst else false then q_StepS v.snd.snd.snd.fst u.snd.snd.snd.fst else false) = true)),
  (((bif bif bif bif v.fst == u.fst then eqGr v.snd.fst u.snd.fst else false then eqFr v.snd.snd.fst.fst u.snd.snd.fst.fst else false then q_IntS v.snd.snd.fst.snd.fst u.snd.snd.fst.snd.fst else false then q_StepS v.snd.snd.snd.fst u.snd.snd.snd.fst else false) = true) → ((0 : Nat) < 1)),
  (((bif bif bif bif v.fst == u.fst then eqGr v.snd.fst u.snd.fst else false then eqFr v.snd.snd.fst.fst u.snd.snd.fst.fst else false then q_IntS v.snd.snd.fst.snd.fst u.snd.snd.fst.snd.fst else false then q_StepS v.snd.snd.snd.fst u.snd.snd.snd.fst else false) = true) → ((bif bif bif bif v.fst == u.fst then eqGr v.snd.fst u.snd.fst else false then eqFr v.snd.snd.fst.fst u.snd.snd.fst.fst else false then q_IntS v.snd.snd.fst.snd.fst u.snd.snd.fst.snd.fst else false then q_StepS v.snd.snd.snd.fst u.snd.snd.snd.fst else false) = true)),
  (((bif bif bif bif v.fst == u.fst then eqGr v.snd.fst u.snd.fst else false then eqFr v.snd.snd.fst.fst u.snd.snd.fst.fst else false then q_IntS v.snd.snd.fst.snd.fst u.snd.snd.fst.snd.fst else false then q_StepS v.snd.snd.snd.fst u.snd.snd.snd.fst else false) = true) → ((0 : Nat) < 1)),
  (((bif bif bif bif v.fst == u.fst then eqGr v.snd.fst u.snd.fst else false then eqFr v.snd.snd.fst.fst u.snd.snd.fst.fst else false then q_IntS v.snd.snd.fst.snd.fst u.snd.snd.fst.snd.fst else false then q_StepS v.snd.snd.snd.fst u.snd.snd.snd.fst else false) = true) → ((bif bif bif bif v.fst == u.fst then eqGr v.snd.fst u.snd.fst else false then eqFr v.snd.snd.fst.fst u.snd.snd.fst.fst else false then q_IntS v.snd.snd.fst.snd.fst u.snd.snd.fst.snd.fst else false then q_StepS v.snd.snd.snd.fst u.snd.snd.snd.fst else false) = true)),
  (((bif bif bif bif v.fst == u.fst then eqGr v.snd.fst u.snd.fst else false then eqFr v.snd.snd.fst.fst u.snd.snd.fst.fst else false then q_IntS v.snd.snd.fst.snd.fst u.snd.snd.fst.snd.fst else false then q_StepS v.snd.snd.snd.fst u.snd.snd.snd.fst else false) = true) → ((bif bif bif bif v.fst == u.fst then eqGr v.snd.fst u.snd.fst else false then eqFr v.snd.snd.fst.fst u.snd.snd.fst.fst else false then q_IntS v.snd.snd.fst.snd.fst u.snd.snd.fst.snd.fst else false then q_StepS v.snd.snd.snd.fst u.snd.snd.snd.fst else false) = true)),
  (((bif bif bif bif v.fst == u.fst then eqGr v.snd.fst u.snd.fst else false then eqFr v.snd.snd.fst.fst u.snd.snd.fst.fst else false then q_IntS v.snd.snd.fst.snd.fst u.snd.snd.fst.snd.fst else false then q_StepS v.snd.snd.snd.fst u.snd.snd.snd.fst else false) = true) → Con (Try.prog) 53 0 [] [.p (.seq true 1 (v.snd.snd.snd.snd.fst.fst) (fun i => [.int .i64 (v.snd.snd.snd.snd.fst.snd i)])), .p (.seq true 1 (u.snd.snd.snd.snd.fst.fst) (fun i => [.int .i64 (u.snd.snd.snd.snd.fst.snd i)]))] [] (.p (.bool (q_IntS v.snd.snd.snd.snd.fst u.snd.snd.snd.snd.fst)))),
  (((bif bif bif bif v.fst == u.fst then eqGr v.snd.fst u.snd.fst else false then eqFr v.snd.snd.fst.fst u.snd.snd.fst.fst else false then q_IntS v.snd.snd.fst.snd.fst u.snd.snd.fst.snd.fst else false then q_StepS v.snd.snd.snd.fst u.snd.snd.snd.fst else false) = true) → ((bif bif bif bif v.fst == u.fst then eqGr v.snd.fst u.snd.fst else false then eqFr v.snd.snd.fst.fst u.snd.snd.fst.fst else false then q_IntS v.snd.snd.fst.snd.fst u.snd.snd.fst.snd.fst else false then q_StepS v.snd.snd.snd.fst u.snd.snd.snd.fst else false) = true)),
  ((bif bif bif bif bif v.fst == u.fst then eqGr v.snd.fst u.snd.fst else false then eqFr v.snd.snd.fst.fst u.snd.snd.fst.fst else false then q_IntS v.snd.snd.fst.snd.fst u.snd.snd.fst.snd.fst else false then q_StepS v.snd.snd.snd.fst u.snd.snd.snd.fst else false then q_IntS v.snd.snd.snd.snd.fst u.snd.snd.snd.snd.fst else false) = (eqCl v u))] := by kernel_rfl

theorem con_EqualFrameworks_s (v u : T_Framework) (hg : v.1.2.1.1 ≤ 1048576) (hn : v.2.1.1 ≤ 1048576) : Con Try.prog 61 0 [] [frA v, frA u] [] (.p (.bool (eqFr v u))) := by
  refine con_start Try.func61 rfl (by kernel_rfl) rfl (fun c hc => ?_)
  by_cases hz : eqGr v.1 u.1 = true ∧ v.2.1.1 = u.2.1.1
  · rw [show eqFr v u = qT_PlaceS v.2.1.2 u.2.1.2 v.2.1.1 by simp [eqFr, q_PlaceS, hz.1, hz.2]]
    have lp : ∀ m k, k + m = v.2.1.1 → qT_PlaceS v.2.1.2 u.2.1.2 k = true → Run Try.prog c 61 [.code (cAt (bodyOf Try.f61) [1, 1, 0, 1, 0, 0]), .inLoop (cAt (bodyOf Try.f61) [1, 1, 0, 1, 0, 0]), .inBlock 0, .code (cAt (bodyOf Try.f61) [1, 1, 1])] (S61 v u k) (Post c [] (.p (.bool (qT_PlaceS v.2.1.2 u.2.1.2 v.2.1.1)))) := by
      intro m
      induction m with
      | zero =>
        intro k hk hg
        rw [show qT_PlaceS v.2.1.2 u.2.1.2 v.2.1.1 = true by rw [show v.2.1.1 = k by omega]; exact hg]
        have hd : decide ((k : Int) < (v.2.1.1 : Int)) = false := by simp; omega
        refine path_ok mixed Try.func61 hc (p61d v u k) ?_
        simp only [All]
        repeat' (first | exact trivial | with_reducible apply And.intro)
        all_goals (first | omega | rfl | (intros; first | assumption | exact True.intro | rfl | exact absurd (show false = true by assumption) Bool.false_ne_true | ((repeat' (first | assumption | apply anda | apply notf)); done)))
      | succ m ih =>
        intro k hk hg
        have hd : decide ((k : Int) < (v.2.1.1 : Int)) = true := by simp; omega
        cases he : q1_PlaceS (v.2.1.2 k) (u.2.1.2 k) with
        | false =>
          rw [qT_PlaceS_bad _ _ k he v.2.1.1 (by omega)]
          have he' : (!q1_PlaceS (v.2.1.2 k) (u.2.1.2 k)) = true := notf he
          refine path_ok mixed Try.func61 hc (p61c v u k) ?_
          simp only [All]
          repeat' (first | exact trivial | with_reducible apply And.intro)
          all_goals (first | omega | rfl | (intros; first | assumption | exact True.intro | rfl | exact absurd (show false = true by assumption) Bool.false_ne_true | ((repeat' (first | assumption | apply anda | apply notf)); done)) | exact he')
        | true =>
          have he' : (!q1_PlaceS (v.2.1.2 k) (u.2.1.2 k)) = false := nott he
          refine piece_ok mixed hc (p61b v u k) ?_ (ih (k + 1) (by omega) (by simp [qT_PlaceS, hg, he]))
          simp only [All]
          repeat' (first | exact trivial | with_reducible apply And.intro)
          all_goals (first | omega | rfl | (intros; first | assumption | exact True.intro | rfl | exact absurd (show false = true by assumption) Bool.false_ne_true | ((repeat' (first | assumption | apply anda | apply notf)); done)) | exact he' | (simp [All]))
    refine piece_ok mixed hc (p61a v u) ?_ (lp v.2.1.1 0 (by omega) rfl)
    simp only [All]
    repeat' (first | exact trivial | with_reducible apply And.intro)
    all_goals (first | omega | rfl | (intros; first | assumption | exact True.intro | rfl | exact absurd (show false = true by assumption) Bool.false_ne_true | ((repeat' (first | assumption | apply anda | apply notf)); done)) | (exact con_EqualGraphs_s v.1 u.1 hg) | (intro h; simp [h]) | (simp [hz.1, hz.2]) | (simp [All]))
  · have hr : eqFr v u = false := by
      simp only [eqFr, q_PlaceS]
      by_cases h1 : eqGr v.1 u.1 = true
      · have h2 : ¬ v.2.1.1 = u.2.1.1 := fun h => hz ⟨h1, h⟩
        simp [h1, h2]
      · simp [h1]
    rw [hr]
    have hb : (bif !eqGr v.1 u.1 then true else (v.2.1.1 : Int) != (u.2.1.1 : Int)) = true := by
      by_cases h1 : eqGr v.1 u.1 = true
      · have h2 : ¬ v.2.1.1 = u.2.1.1 := fun h => hz ⟨h1, h⟩
        simp [h1]; omega
      · simp [h1]
    refine path_ok mixed Try.func61 hc (p61z v u) ?_
    simp only [All]
    repeat' (first | exact trivial | with_reducible apply And.intro)
    all_goals (first | omega | rfl | (intros; first | assumption | exact True.intro | rfl | exact absurd (show false = true by assumption) Bool.false_ne_true | ((repeat' (first | assumption | apply anda | apply notf)); done)) | (exact con_EqualGraphs_s v.1 u.1 hg) | (exact hb))

theorem con_EqualFrameworks_i (v u : T_Framework) (hg : v.1.2.1.1 ≤ 1048576) (hn : v.2.1.1 ≤ 1048576) : Con Try.prog 65 0 [] [frA v, frA u] [] (.p (.bool (eqFr v u))) := by
  refine con_start Try.func65 rfl (by kernel_rfl) rfl (fun c hc => ?_)
  refine path_ok mixed Try.func65 hc (p65 v u) ?_
  simp only [All]
  repeat' (first | exact trivial | with_reducible apply And.intro)
  all_goals (first | omega | rfl | (intros; first | assumption | exact True.intro | rfl | exact absurd (show false = true by assumption) Bool.false_ne_true | ((repeat' (first | assumption | apply anda | apply notf)); done)) | (exact con_EqualGraphs_i v.1 u.1 hg) | (intros; exact con_sePlaceS v.2.1 u.2.1 hn))

theorem con_AreSameSteps_i (v u : T_StepS) (hn : v.1 ≤ 1048576) : Con Try.prog 66 0 [] [stpL v, stpL u] [] (.p (.bool (q_StepS v u))) := by
  refine con_start Try.func66 rfl (by kernel_rfl) rfl (fun c hc => ?_)
  refine path_ok mixed Try.func66 hc (p66 v u) ?_
  simp only [All]
  repeat' (first | exact trivial | with_reducible apply And.intro)
  all_goals (first | omega | rfl | (intros; first | assumption | exact True.intro | rfl | exact absurd (show false = true by assumption) Bool.false_ne_true | ((repeat' (first | assumption | apply anda | apply notf)); done)) | (exact con_seStepS v u hn))

theorem con_EqualClaims_s (v u : T_Claim) (hs : smS s_Claim v) : Con Try.prog 24 0 [] [clA v, clA u] [] (.p (.bool (eqCl v u))) := by
  have h1 : v.2.1.2.1.1 ≤ 1048576 := hs.2.1.2.1.1
  have h2 : v.2.2.1.1.1.2.1.1 ≤ 1048576 := hs.2.2.1.1.1.2.1.1
  have h3 : v.2.2.1.1.2.1.1 ≤ 1048576 := hs.2.2.1.1.2.1.1
  have h4 : v.2.2.1.2.1.1 ≤ 1048576 := hs.2.2.1.2.1.1
  have h5 : v.2.2.2.1.1 ≤ 1048576 := hs.2.2.2.1.1
  have h6 : v.2.2.2.2.1.1 ≤ 1048576 := hs.2.2.2.2.1.1
  refine con_start Try.func24 rfl (by kernel_rfl) rfl (fun c hc => ?_)
  refine path_ok mixed Try.func24 hc (p24 v u) ?_
  simp only [All]
  repeat' (first | exact trivial | with_reducible apply And.intro)
  all_goals (first | omega | rfl | (intros; first | assumption | exact True.intro | rfl | exact absurd (show false = true by assumption) Bool.false_ne_true | ((repeat' (first | assumption | apply anda | apply notf)); done)) | (intros; exact con_EqualGraphs_s v.2.1 u.2.1 h1) | (intros; exact con_EqualFrameworks_s v.2.2.1.1 u.2.2.1.1 h2 h3) | (intros; exact con_ls_l6Same_IntS v.2.2.1.2.1 u.2.2.1.2.1 h4) | (intros; exact con_ls_AreSameSteps_StepS v.2.2.2.1 u.2.2.2.1 h5) | (intros; exact con_ls_l6Same_IntS v.2.2.2.2.1 u.2.2.2.2.1 h6))

theorem con_EqualClaims_i (v u : T_Claim) (hs : smS s_Claim v) : Con Try.prog 26 0 [] [clA v, clA u] [] (.p (.bool (eqCl v u))) := by
  have h1 : v.2.1.2.1.1 ≤ 1048576 := hs.2.1.2.1.1
  have h2 : v.2.2.1.1.1.2.1.1 ≤ 1048576 := hs.2.2.1.1.1.2.1.1
  have h3 : v.2.2.1.1.2.1.1 ≤ 1048576 := hs.2.2.1.1.2.1.1
  have h4 : v.2.2.1.2.1.1 ≤ 1048576 := hs.2.2.1.2.1.1
  have h5 : v.2.2.2.1.1 ≤ 1048576 := hs.2.2.2.1.1
  have h6 : v.2.2.2.2.1.1 ≤ 1048576 := hs.2.2.2.2.1.1
  refine con_start Try.func26 rfl (by kernel_rfl) rfl (fun c hc => ?_)
  refine path_ok mixed Try.func26 hc (p26 v u) ?_
  simp only [All]
  repeat' (first | exact trivial | with_reducible apply And.intro)
  all_goals (first | omega | rfl | (intros; first | assumption | exact True.intro | rfl | exact absurd (show false = true by assumption) Bool.false_ne_true | ((repeat' (first | assumption | apply anda | apply notf)); done)) | (intros; exact con_EqualGraphs_i v.2.1 u.2.1 h1) | (intros; exact con_EqualFrameworks_i v.2.2.1.1 u.2.2.1.1 h2 h3) | (intros; exact con_seIntS v.2.2.1.2.1 u.2.2.1.2.1 h4) | (intros; exact con_AreSameSteps_i v.2.2.2.1 u.2.2.2.1 h5) | (intros; exact con_seIntS v.2.2.2.2.1 u.2.2.2.2.1 h6))

end Go.Proofs.Ytgddbgmnehkblab.Mach
