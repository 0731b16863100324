/- The contracts of both comparisons of sites. Conditions: as each theorem says. -/
import Derived.Test.YtgddbgmnehkblabEqSites
namespace Go.Proofs.Ytgddbgmnehkblab.Mach
open Go
set_option linter.unusedVariables false
set_option linter.unusedSimpArgs false

def intL (v : T_IntS) : AV := .p (.seq true 1 v.1 (fun i => [.int .i64 (v.2 i)]))
def strL (v : T_StringS) : AV := .p (.seq true 1 v.1 (fun i => [.str (v.2 i)]))
def siteA (v : T_Site) : AV := .agg [.p (.int .i64 v.1.1.1), barL v.1.1.2.1, intL v.1.2.1, strL v.2.1]
def boxSi (v : T_Site) : Ob := ⟨true, 4, 1, fun i => [.p (.int .i64 v.1.1.1), barL v.1.1.2.1, intL v.1.2.1, strL v.2.1]⟩
def eqSi (v u : T_Site) : Bool := bif bif eqGr v.1.1 u.1.1 then q_IntS v.1.2.1 u.1.2.1 else false then q_StringS v.2.1 u.2.1 else false
def S17 (v u : T_Site) (k : Nat) : St :=
  ⟨[siteA v, siteA u, .pt 4 0 0 0, .pt 4 1 0 0, .p .any, .p (.int .i64 k)] ++ List.replicate 45 anyA, [(0, boxSi v), (1, boxSi u)], 2⟩

theorem p17z (v u : T_Site) :
    pathOb Try.prog Try.f17 0 [.reg [oT, oT, oT], .reg [oT, oT, oT, oT, oT, oT, ⟨true, (some ⟨[], [], 1, [], .p (.bool (eqGr v.1.1 u.1.1))⟩)⟩, oT, oT, oT, oT, oT, oT, oT, oT, ⟨true, (some ⟨[], [], 1, [], .p (.bool (q_IntS v.1.2.1 u.1.2.1))⟩)⟩, oT, oT, oT, oT, oT, oT, oT, oT, oT, oT, oT], .dec true, .reg [oT]] [.code (bodyOf Try.f17)] (start Try.f17 [] 0 [siteA v, siteA u]) [] 1 [] (.p (.bool false)) =
    some [((0 : Nat) < 1),
  ((0 : Nat) < 1),
  Con (Try.prog) 49 0 [] [.agg [.p (.int .i64 (v.fst.fst.fst)), .p (.seq true 2 (v.fst.fst.snd.fst.fst) (fun i => [.int .i64 ((v.fst.fst.snd.fst.snd i).fst), .int .i64 ((v.fst.fst.snd.fst.snd i).snd.fst)]))], .agg [.p (.int .i64 (u.fst.fst.fst)), .p (.seq true 2 (u.fst.fst.snd.fst.fst) (fun i => [.int .i64 ((u.fst.fst.snd.fst.snd i).fst), .int .i64 ((u.fst.fst.snd.fst.snd i).snd.fst)]))]] [] (.p (.bool (eqGr v.fst.fst u.fst.fst))),
  (((!!eqGr v.fst.fst u.fst.fst) = true) → ((!!eqGr v.fst.fst u.fst.fst) = true)),
  (((!!eqGr v.fst.fst u.fst.fst) = true) → ((!!eqGr v.fst.fst u.fst.fst) = true)),
  (((!!eqGr v.fst.fst u.fst.fst) = true) → ((0 : Nat) < 1)),
  (((!!eqGr v.fst.fst u.fst.fst) = true) → ((!!eqGr v.fst.fst u.fst.fst) = true)),
  (((!!eqGr v.fst.fst u.fst.fst) = true) → ((!!eqGr v.fst.fst u.fst.fst) = true)),
  (((!!eqGr v.fst.fst u.fst.fst) = true) → ((0 : Nat) < 1)),
  (((!!eqGr v.fst.fst u.fst.fst) = true) → ((!!eqGr v.fst.fst u.fst.fst) = true)),
  (((!!eqGr v.fst.fst u.fst.fst) = true) → ((!!eqGr v.fst.fst u.fst.fst) = true)),
  (((!!eqGr v.fst.fst u.fst.fst) = true) → Con (Try.prog) 50 0 [] [.p (.seq true 1 (v.fst.snd.fst.fst) (fun i => [.int .i64 (v.fst.snd.fst.snd i)])), .p (.seq true 1 (u.fst.snd.fst.fst) (fun i => [.int .i64 (u.fst.snd.fst.snd i)]))] [] (.p (.bool (q_IntS v.fst.snd.fst u.fst.snd.fst)))),
  (((!!eqGr v.fst.fst u.fst.fst) = true) → ((!!eqGr v.fst.fst u.fst.fst) = true)),
  (((!eqGr v.fst.fst u.fst.fst) = false) → ((!!eqGr v.fst.fst u.fst.fst) = true)),
  (((!bif !eqGr v.fst.fst u.fst.fst then true else !q_IntS v.fst.snd.fst u.fst.snd.fst) = true) → ((!bif !eqGr v.fst.fst u.fst.fst then true else !q_IntS v.fst.snd.fst u.fst.snd.fst) = true)),
  (((!bif !eqGr v.fst.fst u.fst.fst then true else !q_IntS v.fst.snd.fst u.fst.snd.fst) = true) → ((0 : Nat) < 1)),
  (((!bif !eqGr v.fst.fst u.fst.fst then true else !q_IntS v.fst.snd.fst u.fst.snd.fst) = true) → ((!bif !eqGr v.fst.fst u.fst.fst then true else !q_IntS v.fst.snd.fst u.fst.snd.fst) = true)),
  (((!bif !eqGr v.fst.fst u.fst.fst then true else !q_IntS v.fst.snd.fst u.fst.snd.fst) = true) → ((!bif !eqGr v.fst.fst u.fst.fst then true else !q_IntS v.fst.snd.fst u.fst.snd.fst) = true)),
  (((!bif !eqGr v.fst.fst u.fst.fst then true else !q_IntS v.fst.snd.fst u.fst.snd.fst) = true) → ((0 : Nat) < 1)),
  (((!bif !eqGr v.fst.fst u.fst.fst then true else !q_IntS v.fst.snd.fst u.fst.snd.fst) = true) → ((!bif !eqGr v.fst.fst u.fst.fst then true else !q_IntS v.fst.snd.fst u.fst.snd.fst) = true)),
  (((!bif !eqGr v.fst.fst u.fst.fst then true else !q_IntS v.fst.snd.fst u.fst.snd.fst) = true) → ((!bif !eqGr v.fst.fst u.fst.fst then true else !q_IntS v.fst.snd.fst u.fst.snd.fst) = true)),
  (((!bif !eqGr v.fst.fst u.fst.fst then true else !q_IntS v.fst.snd.fst u.fst.snd.fst) = true) → ((!bif !eqGr v.fst.fst u.fst.fst then true else !q_IntS v.fst.snd.fst u.fst.snd.fst) = true)),
  (((bif !eqGr v.fst.fst u.fst.fst then true else !q_IntS v.fst.snd.fst u.fst.snd.fst) = false) → ((!bif !eqGr v.fst.fst u.fst.fst then true else !q_IntS v.fst.snd.fst u.fst.snd.fst) = true)),
  ((bif bif !eqGr v.fst.fst u.fst.fst then true else !q_IntS v.fst.snd.fst u.fst.snd.fst then true else (↑v.snd.fst.fst : Int) != (↑u.snd.fst.fst : Int)) = true),
  (false = false)] := by kernel_rfl
theorem p17a (v u : T_Site) :
    pieceOb Try.prog 0 [.reg [oT, oT, oT], .reg [oT, oT, oT, oT, oT, oT, ⟨true, (some ⟨[], [], 1, [], .p (.bool (eqGr v.1.1 u.1.1))⟩)⟩, oT, oT, oT, oT, oT, oT, oT, oT, ⟨true, (some ⟨[], [], 1, [], .p (.bool (q_IntS v.1.2.1 u.1.2.1))⟩)⟩, oT, oT, oT, oT, oT, oT, oT, oT, oT, oT, oT], .dec false, .reg [oT], .head] [.code (bodyOf Try.f17)] (start Try.f17 [] 0 [siteA v, siteA u]) [0, 32] 1 (S17 v u 0) =
    some ([.code (cAt (bodyOf Try.f17) [1, 1, 0, 1, 0, 0]), .inLoop (cAt (bodyOf Try.f17) [1, 1, 0, 1, 0, 0]), .inBlock 0, .code (cAt (bodyOf Try.f17) [1, 1, 1])], [((0 : Nat) < 1),
  ((0 : Nat) < 1),
  Con (Try.prog) 49 0 [] [.agg [.p (.int .i64 (v.fst.fst.fst)), .p (.seq true 2 (v.fst.fst.snd.fst.fst) (fun i => [.int .i64 ((v.fst.fst.snd.fst.snd i).fst), .int .i64 ((v.fst.fst.snd.fst.snd i).snd.fst)]))], .agg [.p (.int .i64 (u.fst.fst.fst)), .p (.seq true 2 (u.fst.fst.snd.fst.fst) (fun i => [.int .i64 ((u.fst.fst.snd.fst.snd i).fst), .int .i64 ((u.fst.fst.snd.fst.snd i).snd.fst)]))]] [] (.p (.bool (eqGr v.fst.fst u.fst.fst))),
  (((!!eqGr v.fst.fst u.fst.fst) = true) → ((!!eqGr v.fst.fst u.fst.fst) = true)),
  (((!!eqGr v.fst.fst u.fst.fst) = true) → ((!!eqGr v.fst.fst u.fst.fst) = true)),
  (((!!eqGr v.fst.fst u.fst.fst) = true) → ((0 : Nat) < 1)),
  (((!!eqGr v.fst.fst u.fst.fst) = true) → ((!!eqGr v.fst.fst u.fst.fst) = true)),
  (((!!eqGr v.fst.fst u.fst.fst) = true) → ((!!eqGr v.fst.fst u.fst.fst) = true)),
  (((!!eqGr v.fst.fst u.fst.fst) = true) → ((0 : Nat) < 1)),
  (((!!eqGr v.fst.fst u.fst.fst) = true) → ((!!eqGr v.fst.fst u.fst.fst) = true)),
  (((!!eqGr v.fst.fst u.fst.fst) = true) → ((!!eqGr v.fst.fst u.fst.fst) = true)),
  (((!!eqGr v.fst.fst u.fst.fst) = true) → Con (Try.prog) 50 0 [] [.p (.seq true 1 (v.fst.snd.fst.fst) (fun i => [.int .i64 (v.fst.snd.fst.snd i)])), .p (.seq true 1 (u.fst.snd.fst.fst) (fun i => [.int .i64 (u.fst.snd.fst.snd i)]))] [] (.p (.bool (q_IntS v.fst.snd.fst u.fst.snd.fst)))),
  (((!!eqGr v.fst.fst u.fst.fst) = true) → ((!!eqGr v.fst.fst u.fst.fst) = true)),
  (((!eqGr v.fst.fst u.fst.fst) = false) → ((!!eqGr v.fst.fst u.fst.fst) = true)),
  (((!bif !eqGr v.fst.fst u.fst.fst then true else !q_IntS v.fst.snd.fst u.fst.snd.fst) = true) → ((!bif !eqGr v.fst.fst u.fst.fst then true else !q_IntS v.fst.snd.fst u.fst.snd.fst) = true)),
  (((!bif !eqGr v.fst.fst u.fst.fst then true else !q_IntS v.fst.snd.fst u.fst.snd.fst) = true) → ((0 : Nat) < 1)),
  (((!bif !eqGr v.fst.fst u.fst.fst then true else !q_IntS v.fst.snd.fst u.fst.snd.fst) = true) → ((!bif !eqGr v.fst.fst u.fst.fst then true else !q_IntS v.fst.snd.fst u.fst.snd.fst) = true)),
  (((!bif !eqGr v.fst.fst u.fst.fst then true else !q_IntS v.fst.snd.fst u.fst.snd.fst) = true) → ((!bif !eqGr v.fst.fst u.fst.fst then true else !q_IntS v.fst.snd.fst u.fst.snd.fst) = true)),
  (((!bif !eqGr v.fst.fst u.fst.fst then true else !q_IntS v.fst.snd.fst u.fst.snd.fst) = true) → ((0 : Nat) < 1)),
  (((!bif !eqGr v.fst.fst u.fst.fst then true else !q_IntS v.fst.snd.fst u.fst.snd.fst) = true) → ((!bif !eqGr v.fst.fst u.fst.fst then true else !q_IntS v.fst.snd.fst u.fst.snd.fst) = true)),
  (((!bif !eqGr v.fst.fst u.fst.fst then true else !q_IntS v.fst.snd.fst u.fst.snd.fst) = true) → ((!bif !eqGr v.fst.fst u.fst.fst then true else !q_IntS v.fst.snd.fst u.fst.snd.fst) = true)),
  (((!bif !eqGr v.fst.fst u.fst.fst then true else !q_IntS v.fst.snd.fst u.fst.snd.fst) = true) → ((!bif !eqGr v.fst.fst u.fst.fst then true else !q_IntS v.fst.snd.fst u.fst.snd.fst) = true)),
  (((bif !eqGr v.fst.fst u.fst.fst then true else !q_IntS v.fst.snd.fst u.fst.snd.fst) = false) → ((!bif !eqGr v.fst.fst u.fst.fst then true else !q_IntS v.fst.snd.fst u.fst.snd.fst) = true)),
  ((bif bif !eqGr v.fst.fst u.fst.fst then true else !q_IntS v.fst.snd.fst u.fst.snd.fst then true else (↑v.snd.fst.fst : Int) != (↑u.snd.fst.fst : Int)) = false),
  (((v.fst.fst.fst) : Int) = (v.fst.fst.fst)),
  (((v.fst.fst.snd.fst.fst) : Nat) = (v.fst.fst.snd.fst.fst)),
  (∀ i : Nat, ((((i) : Nat) < (v.fst.fst.snd.fst.fst)) → (([.int .i64 ((v.fst.fst.snd.fst.snd i).fst), .int .i64 ((v.fst.fst.snd.fst.snd i).snd.fst)] : List PV) = [.int .i64 ((v.fst.fst.snd.fst.snd i).fst), .int .i64 ((v.fst.fst.snd.fst.snd i).snd.fst)]))),
  (((v.fst.snd.fst.fst) : Nat) = (v.fst.snd.fst.fst)),
  (∀ i : Nat, ((((i) : Nat) < (v.fst.snd.fst.fst)) → (([.int .i64 (v.fst.snd.fst.snd i)] : List PV) = [.int .i64 (v.fst.snd.fst.snd i)]))),
  (((v.snd.fst.fst) : Nat) = (v.snd.fst.fst)),
  (∀ i : Nat, ((((i) : Nat) < (v.snd.fst.fst)) → (([.str (v.snd.fst.snd i)] : List PV) = [.str (v.snd.fst.snd i)]))),
  (((u.fst.fst.fst) : Int) = (u.fst.fst.fst)),
  (((u.fst.fst.snd.fst.fst) : Nat) = (u.fst.fst.snd.fst.fst)),
  (∀ i : Nat, ((((i) : Nat) < (u.fst.fst.snd.fst.fst)) → (([.int .i64 ((u.fst.fst.snd.fst.snd i).fst), .int .i64 ((u.fst.fst.snd.fst.snd i).snd.fst)] : List PV) = [.int .i64 ((u.fst.fst.snd.fst.snd i).fst), .int .i64 ((u.fst.fst.snd.fst.snd i).snd.fst)]))),
  (((u.fst.snd.fst.fst) : Nat) = (u.fst.snd.fst.fst)),
  (∀ i : Nat, ((((i) : Nat) < (u.fst.snd.fst.fst)) → (([.int .i64 (u.fst.snd.fst.snd i)] : List PV) = [.int .i64 (u.fst.snd.fst.snd i)]))),
  (((u.snd.fst.fst) : Nat) = (u.snd.fst.fst)),
  (∀ i : Nat, ((((i) : Nat) < (u.snd.fst.fst)) → (([.str (u.snd.fst.snd i)] : List PV) = [.str (u.snd.fst.snd i)]))),
  ((0 : Nat) = 0),
  ((0 : Nat) = 0),
  ((0 : Int) = ((↑0 : Int))),
  ((([AV.p (PV.int IntKind.i64 v.fst.fst.fst), barL v.fst.fst.snd.fst, intL v.fst.snd.fst, strL v.snd.fst].length) : Nat) = 4),
  ((1 : Nat) ≤ 1),
  (∀ i : Nat, ((((i) : Nat) < 1) → (All [] ∧ (([.p (.int .i64 (v.fst.fst.fst)), .p (.seq true 2 (v.fst.fst.snd.fst.fst) (fun i_1 => [.int .i64 ((v.fst.fst.snd.fst.snd i_1).fst), .int .i64 ((v.fst.fst.snd.fst.snd i_1).snd.fst)])), .p (.seq true 1 (v.fst.snd.fst.fst) (fun i_1 => [.int .i64 (v.fst.snd.fst.snd i_1)])), .p (.seq true 1 (v.snd.fst.fst) (fun i_1 => [.str (v.snd.fst.snd i_1)]))] : List AV) = [.p (.int .i64 (v.fst.fst.fst)), .p (.seq true 2 (v.fst.fst.snd.fst.fst) (fun i_1 => [.int .i64 ((v.fst.fst.snd.fst.snd i_1).fst), .int .i64 ((v.fst.fst.snd.fst.snd i_1).snd.fst)])), .p (.seq true 1 (v.fst.snd.fst.fst) (fun i_1 => [.int .i64 (v.fst.snd.fst.snd i_1)])), .p (.seq true 1 (v.snd.fst.fst) (fun i_1 => [.str (v.snd.fst.snd i_1)]))])))),
  ((([AV.p (PV.int IntKind.i64 u.fst.fst.fst), barL u.fst.fst.snd.fst, intL u.fst.snd.fst, strL u.snd.fst].length) : Nat) = 4),
  ((1 : Nat) ≤ 1),
  (∀ i : Nat, ((((i) : Nat) < 1) → (All [] ∧ (([.p (.int .i64 (u.fst.fst.fst)), .p (.seq true 2 (u.fst.fst.snd.fst.fst) (fun i_1 => [.int .i64 ((u.fst.fst.snd.fst.snd i_1).fst), .int .i64 ((u.fst.fst.snd.fst.snd i_1).snd.fst)])), .p (.seq true 1 (u.fst.snd.fst.fst) (fun i_1 => [.int .i64 (u.fst.snd.fst.snd i_1)])), .p (.seq true 1 (u.snd.fst.fst) (fun i_1 => [.str (u.snd.fst.snd i_1)]))] : List AV) = [.p (.int .i64 (u.fst.fst.fst)), .p (.seq true 2 (u.fst.fst.snd.fst.fst) (fun i_1 => [.int .i64 ((u.fst.fst.snd.fst.snd i_1).fst), .int .i64 ((u.fst.fst.snd.fst.snd i_1).snd.fst)])), .p (.seq true 1 (u.fst.snd.fst.fst) (fun i_1 => [.int .i64 (u.fst.snd.fst.snd i_1)])), .p (.seq true 1 (u.snd.fst.fst) (fun i_1 => [.str (u.snd.fst.snd i_1)]))]))))]) := by kernel_rfl
theorem p17b (v u : T_Site) (k : Nat) :
    pieceOb Try.prog 0 [.reg [oT, oT, oT, oT, oT], .dec true, .reg [oT, oT, oT, oT, oT, oT, oT, oT, oT, oT, oT], .dec false, .reg [oT, oT, oT], .head] [.code (cAt (bodyOf Try.f17) [1, 1, 0, 1, 0, 0]), .inLoop (cAt (bodyOf Try.f17) [1, 1, 0, 1, 0, 0]), .inBlock 0, .code (cAt (bodyOf Try.f17) [1, 1, 1])] (S17 v u k) [0, 1] 1 (S17 v u (k + 1)) =
    some ([.code (cAt (bodyOf Try.f17) [1, 1, 0, 1, 0, 0]), .inLoop (cAt (bodyOf Try.f17) [1, 1, 0, 1, 0, 0]), .inBlock 0, .code (cAt (bodyOf Try.f17) [1, 1, 1])], [((0 : Nat) < 1),
  ((decide ((↑k : Int) < (↑v.snd.fst.fst : Int))) = true),
  ((0 : Nat) < 1),
  ((0 : Int) ≤ ((↑k : Int))),
  ((((↑k : Int)) : Int) < ((↑v.snd.fst.fst : Int))),
  ((0 : Nat) < 1),
  ((0 : Int) ≤ ((↑k : Int))),
  ((((↑k : Int)) : Int) < ((↑u.snd.fst.fst : Int))),
  ((!(v.snd.fst.snd k).toList == (u.snd.fst.snd k).toList) = false),
  (((-9223372036854775808) : Int) ≤ ((↑k : Int) + 1)),
  ((((↑k : Int) + 1) : Int) ≤ 9223372036854775807),
  (((v.fst.fst.fst) : Int) = (v.fst.fst.fst)),
  (((v.fst.fst.snd.fst.fst) : Nat) = (v.fst.fst.snd.fst.fst)),
  (∀ i : Nat, ((((i) : Nat) < (v.fst.fst.snd.fst.fst)) → (([.int .i64 ((v.fst.fst.snd.fst.snd i).fst), .int .i64 ((v.fst.fst.snd.fst.snd i).snd.fst)] : List PV) = [.int .i64 ((v.fst.fst.snd.fst.snd i).fst), .int .i64 ((v.fst.fst.snd.fst.snd i).snd.fst)]))),
  (((v.fst.snd.fst.fst) : Nat) = (v.fst.snd.fst.fst)),
  (∀ i : Nat, ((((i) : Nat) < (v.fst.snd.fst.fst)) → (([.int .i64 (v.fst.snd.fst.snd i)] : List PV) = [.int .i64 (v.fst.snd.fst.snd i)]))),
  (((v.snd.fst.fst) : Nat) = (v.snd.fst.fst)),
  (∀ i : Nat, ((((i) : Nat) < (v.snd.fst.fst)) → (([.str (v.snd.fst.snd i)] : List PV) = [.str (v.snd.fst.snd i)]))),
  (((u.fst.fst.fst) : Int) = (u.fst.fst.fst)),
  (((u.fst.fst.snd.fst.fst) : Nat) = (u.fst.fst.snd.fst.fst)),
  (∀ i : Nat, ((((i) : Nat) < (u.fst.fst.snd.fst.fst)) → (([.int .i64 ((u.fst.fst.snd.fst.snd i).fst), .int .i64 ((u.fst.fst.snd.fst.snd i).snd.fst)] : List PV) = [.int .i64 ((u.fst.fst.snd.fst.snd i).fst), .int .i64 ((u.fst.fst.snd.fst.snd i).snd.fst)]))),
  (((u.fst.snd.fst.fst) : Nat) = (u.fst.snd.fst.fst)),
  (∀ i : Nat, ((((i) : Nat) < (u.fst.snd.fst.fst)) → (([.int .i64 (u.fst.snd.fst.snd i)] : List PV) = [.int .i64 (u.fst.snd.fst.snd i)]))),
  (((u.snd.fst.fst) : Nat) = (u.snd.fst.fst)),
  (∀ i : Nat, ((((i) : Nat) < (u.snd.fst.fst)) → (([.str (u.snd.fst.snd i)] : List PV) = [.str (u.snd.fst.snd i)]))),
  ((0 : Nat) = 0),
  ((0 : Nat) = 0),
  ((((↑k : Int) + 1) : Int) = ((↑(k + 1) : Int))),
  ((4 : Nat) = 4),
  ((1 : Nat) ≤ 1),
  (∀ i : Nat, ((((i) : Nat) < 1) → (All [] ∧ (([.p (.int .i64 (v.fst.fst.fst)), .p (.seq true 2 (v.fst.fst.snd.fst.fst) (fun i_1 => [.int .i64 ((v.fst.fst.snd.fst.snd i_1).fst), .int .i64 ((v.fst.fst.snd.fst.snd i_1).snd.fst)])), .p (.seq true 1 (v.fst.snd.fst.fst) (fun i_1 => [.int .i64 (v.fst.snd.fst.snd i_1)])), .p (.seq true 1 (v.snd.fst.fst) (fun i_1 => [.str (v.snd.fst.snd i_1)]))] : List AV) = [.p (.int .i64 (v.fst.fst.fst)), .p (.seq true 2 (v.fst.fst.snd.fst.fst) (fun i_1 => [.int .i64 ((v.fst.fst.snd.fst.snd i_1).fst), .int .i64 ((v.fst.fst.snd.fst.snd i_1).snd.fst)])), .p (.seq true 1 (v.fst.snd.fst.fst) (fun i_1 => [.int .i64 (v.fst.snd.fst.snd i_1)])), .p (.seq true 1 (v.snd.fst.fst) (fun i_1 => [.str (v.snd.fst.snd i_1)]))])))),
  ((4 : Nat) = 4),
  ((1 : Nat) ≤ 1),
  (∀ i : Nat, ((((i) : Nat) < 1) → (All [] ∧ (([.p (.int .i64 (u.fst.fst.fst)), .p (.seq true 2 (u.fst.fst.snd.fst.fst) (fun i_1 => [.int .i64 ((u.fst.fst.snd.fst.snd i_1).fst), .int .i64 ((u.fst.fst.snd.fst.snd i_1).snd.fst)])), .p (.seq true 1 (u.fst.snd.fst.fst) (fun i_1 => [.int .i64 (u.fst.snd.fst.snd i_1)])), .p (.seq true 1 (u.snd.fst.fst) (fun i_1 => [.str (u.snd.fst.snd i_1)]))] : List AV) = [.p (.int .i64 (u.fst.fst.fst)), .p (.seq true 2 (u.fst.fst.snd.fst.fst) (fun i_1 => [.int .i64 ((u.fst.fst.snd.fst.snd i_1).fst), .int .i64 ((u.fst.fst.snd.fst.snd i_1).snd.fst)])), .p (.seq true 1 (u.fst.snd.fst.fst) (fun i_1 => [.int .i64 (u.fst.snd.fst.snd i_1)])), .p (.seq true 1 (u.snd.fst.fst) (fun i_1 => [.str (u.snd.fst.snd i_1)]))]))))]) := by kernel_rfl
theorem p17c (v u : T_Site) (k : Nat) :
    pathOb Try.prog Try.f17 0 [.reg [oT, oT, oT, oT, oT], .dec true, .reg [oT, oT, oT, oT, oT, oT, oT, oT, oT, oT, oT], .dec true, .reg [oT]] [.code (cAt (bodyOf Try.f17) [1, 1, 0, 1, 0, 0]), .inLoop (cAt (bodyOf Try.f17) [1, 1, 0, 1, 0, 0]), .inBlock 0, .code (cAt (bodyOf Try.f17) [1, 1, 1])] (S17 v u k) [] 1 [] (.p (.bool false)) =
    some [((0 : Nat) < 1),
  ((decide ((↑k : Int) < (↑v.snd.fst.fst : Int))) = true),
  ((0 : Nat) < 1),
  ((0 : Int) ≤ ((↑k : Int))),
  ((((↑k : Int)) : Int) < ((↑v.snd.fst.fst : Int))),
  ((0 : Nat) < 1),
  ((0 : Int) ≤ ((↑k : Int))),
  ((((↑k : Int)) : Int) < ((↑u.snd.fst.fst : Int))),
  ((!(v.snd.fst.snd k).toList == (u.snd.fst.snd k).toList) = true),
  (false = false)] := by kernel_rfl
theorem p17d (v u : T_Site) (k : Nat) :
    pathOb Try.prog Try.f17 0 [.reg [oT, oT, oT, oT, oT], .dec false, .reg [oT]] [.code (cAt (bodyOf Try.f17) [1, 1, 0, 1, 0, 0]), .inLoop (cAt (bodyOf Try.f17) [1, 1, 0, 1, 0, 0]), .inBlock 0, .code (cAt (bodyOf Try.f17) [1, 1, 1])] (S17 v u k) [] 1 [] (.p (.bool true)) =
    some [((0 : Nat) < 1),
  ((decide ((↑k : Int) < (↑v.snd.fst.fst : Int))) = false),
  (true = true)] := by kernel_rfl
theorem p19 (v u : T_Site) :
    pathOb Try.prog Try.f19 0 [.reg [oT, oT, oT], .reg [oT, oT, oT, oT, oT, oT, ⟨true, (some ⟨[], [], 1, [], .p (.bool (eqGr v.1.1 u.1.1))⟩)⟩, oT, oT, oT, oT, oT, oT, oT, ⟨true, (some ⟨[], [], 1, [], .p (.bool (q_IntS v.1.2.1 u.1.2.1))⟩)⟩, oT, oT, oT, oT, oT, oT, ⟨true, (some ⟨[], [], 1, [], .p (.bool (q_StringS v.2.1 u.2.1))⟩)⟩, oT, oT]] [.code (bodyOf Try.f19)] (start Try.f19 [] 0 [siteA v, siteA u]) [] 1 [] (.p (.bool (eqSi v u))) =
    some [((0 : Nat) < 1),
  ((0 : Nat) < 1),
  Con (Try.prog) 52 0 [] [.agg [.p (.int .i64 (v.fst.fst.fst)), .p (.seq true 2 (v.fst.fst.snd.fst.fst) (fun i => [.int .i64 ((v.fst.fst.snd.fst.snd i).fst), .int .i64 ((v.fst.fst.snd.fst.snd i).snd.fst)]))], .agg [.p (.int .i64 (u.fst.fst.fst)), .p (.seq true 2 (u.fst.fst.snd.fst.fst) (fun i => [.int .i64 ((u.fst.fst.snd.fst.snd i).fst), .int .i64 ((u.fst.fst.snd.fst.snd i).snd.fst)]))]] [] (.p (.bool (eqGr v.fst.fst u.fst.fst))),
  (((eqGr v.fst.fst u.fst.fst) = true) → ((eqGr v.fst.fst u.fst.fst) = true)),
  (((eqGr v.fst.fst u.fst.fst) = true) → ((eqGr v.fst.fst u.fst.fst) = true)),
  (((eqGr v.fst.fst u.fst.fst) = true) → ((0 : Nat) < 1)),
  (((eqGr v.fst.fst u.fst.fst) = true) → ((eqGr v.fst.fst u.fst.fst) = true)),
  (((eqGr v.fst.fst u.fst.fst) = true) → ((eqGr v.fst.fst u.fst.fst) = true)),
  (((eqGr v.fst.fst u.fst.fst) = true) → ((0 : Nat) < 1)),
  (((eqGr v.fst.fst u.fst.fst) = true) → ((eqGr v.fst.fst u.fst.fst) = true)),
  (((eqGr v.fst.fst u.fst.fst) = true) → ((eqGr v.fst.fst u.fst.fst) = true)),
  (((eqGr v.fst.fst u.fst.fst) = true) → Con (Try.prog) 53 0 [] [.p (.seq true 1 (v.fst.snd.fst.fst) (fun i => [.int .i64 (v.fst.snd.fst.snd i)])), .p (.seq true 1 (u.fst.snd.fst.fst) (fun i => [.int .i64 (u.fst.snd.fst.snd i)]))] [] (.p (.bool (q_IntS v.fst.snd.fst u.fst.snd.fst)))),
  (((eqGr v.fst.fst u.fst.fst) = true) → ((eqGr v.fst.fst u.fst.fst) = true)),
  (((bif eqGr v.fst.fst u.fst.fst then q_IntS v.fst.snd.fst u.fst.snd.fst else false) = true) → ((bif eqGr v.fst.fst u.fst.fst then q_IntS v.fst.snd.fst u.fst.snd.fst else false) = true)),
  (((bif eqGr v.fst.fst u.fst.fst then q_IntS v.fst.snd.fst u.fst.snd.fst else false) = true) → ((0 : Nat) < 1)),
  (((bif eqGr v.fst.fst u.fst.fst then q_IntS v.fst.snd.fst u.fst.snd.fst else false) = true) → ((bif eqGr v.fst.fst u.fst.fst then q_IntS v.fst.snd.fst u.fst.snd.fst else false) = true)),
  (((bif eqGr v.fst.fst u.fst.fst then q_IntS v.fst.snd.fst u.fst.snd.fst else false) = true) → ((0 : Nat) < 1)),
  (((bif eqGr v.fst.fst u.fst.fst then q_IntS v.fst.snd.fst u.fst.snd.fst else false) = true) → ((bif eqGr v.fst.fst u.fst.fst then q_IntS v.fst.snd.fst u.fst.snd.fst else false) = true)),
  (((bif eqGr v.fst.fst u.fst.fst then q_IntS v.fst.snd.fst u.fst.snd.fst else false) = true) → ((bif eqGr v.fst.fst u.fst.fst then q_IntS v.fst.snd.fst u.fst.snd.fst else false) = true)),
  (((bif eqGr v.fst.fst u.fst.fst then q_IntS v.fst.snd.fst u.fst.snd.fst else false) = true) → Con (Try.prog) 54 0 [] [.p (.seq true 1 (v.snd.fst.fst) (fun i => [.str (v.snd.fst.snd i)])), .p (.seq true 1 (u.snd.fst.fst) (fun i => [.str (u.snd.fst.snd i)]))] [] (.p (.bool (q_StringS v.snd.fst u.snd.fst)))),
  (((bif eqGr v.fst.fst u.fst.fst then q_IntS v.fst.snd.fst u.fst.snd.fst else false) = true) → ((bif eqGr v.fst.fst u.fst.fst then q_IntS v.fst.snd.fst u.fst.snd.fst else false) = true)),
  ((bif bif eqGr v.fst.fst u.fst.fst then q_IntS v.fst.snd.fst u.fst.snd.fst else false then q_StringS v.snd.fst u.snd.fst else false) = (eqSi v u))] := by kernel_rfl

theorem con_EqualSites_i (v u : T_Site) (hv : smS s_Site v) : Con Try.prog 19 0 [] [siteA v, siteA u] [] (.p (.bool (eqSi v u))) := by
  refine con_start Try.func19 rfl (by kernel_rfl) rfl (fun c hc => ?_)
  refine path_ok mixed Try.func19 hc (p19 v u) ?_
  simp only [All]
  repeat' (first | exact trivial | with_reducible apply And.intro)
  all_goals (first | omega | rfl | (intros; first | assumption | exact True.intro | rfl | exact absurd (show false = true by assumption) Bool.false_ne_true | ((repeat' (first | assumption | apply anda | apply notf)); done)) | (exact con_EqualGraphs_i v.1.1 u.1.1 hv.1.1.2.1.1) | (intros; exact con_seIntS v.1.2.1 u.1.2.1 hv.1.2.1.1) | (intros; exact con_seStringS v.2.1 u.2.1 hv.2.1.1))

theorem con_EqualSites_s (v u : T_Site) (hv : smS s_Site v) : Con Try.prog 17 0 [] [siteA v, siteA u] [] (.p (.bool (eqSi v u))) := by
  refine con_start Try.func17 rfl (by kernel_rfl) rfl (fun c hc => ?_)
  have hn : v.2.1.1 ≤ 1048576 := hv.2.1.1
  by_cases hz : (eqGr v.1.1 u.1.1 = true ∧ q_IntS v.1.2.1 u.1.2.1 = true) ∧ v.2.1.1 = u.2.1.1
  · rw [show eqSi v u = qT_StringS v.2.1.2 u.2.1.2 v.2.1.1 by simp [eqSi, q_StringS, hz.1.1, hz.1.2, hz.2]]
    have lp : ∀ m k, k + m = v.2.1.1 → qT_StringS v.2.1.2 u.2.1.2 k = true → Run Try.prog c 17 [.code (cAt (bodyOf Try.f17) [1, 1, 0, 1, 0, 0]), .inLoop (cAt (bodyOf Try.f17) [1, 1, 0, 1, 0, 0]), .inBlock 0, .code (cAt (bodyOf Try.f17) [1, 1, 1])] (S17 v u k) (Post c [] (.p (.bool (qT_StringS v.2.1.2 u.2.1.2 v.2.1.1)))) := by
      intro m
      induction m with
      | zero =>
        intro k hk hg
        rw [show qT_StringS v.2.1.2 u.2.1.2 v.2.1.1 = true by rw [show v.2.1.1 = k by omega]; exact hg]
        have hd : decide ((k : Int) < (v.2.1.1 : Int)) = false := by simp; omega
        refine path_ok mixed Try.func17 hc (p17d v u k) ?_
        simp only [All]
        repeat' (first | exact trivial | with_reducible apply And.intro)
        all_goals (first | omega | rfl | (intros; first | assumption | exact True.intro | rfl | exact absurd (show false = true by assumption) Bool.false_ne_true | ((repeat' (first | assumption | apply anda | apply notf)); done)))
      | succ m ih =>
        intro k hk hg
        have hd : decide ((k : Int) < (v.2.1.1 : Int)) = true := by simp; omega
        cases he : q1_StringS (v.2.1.2 k) (u.2.1.2 k) with
        | false =>
          rw [qT_StringS_bad _ _ k he v.2.1.1 (by omega)]
          have he' : (!q1_StringS (v.2.1.2 k) (u.2.1.2 k)) = true := notf he
          refine path_ok mixed Try.func17 hc (p17c v u k) ?_
          simp only [All]
          repeat' (first | exact trivial | with_reducible apply And.intro)
          all_goals (first | omega | rfl | (intros; first | assumption | exact True.intro | rfl | exact absurd (show false = true by assumption) Bool.false_ne_true | ((repeat' (first | assumption | apply anda | apply notf)); done)) | exact he')
        | true =>
          have he' : (!q1_StringS (v.2.1.2 k) (u.2.1.2 k)) = false := nott he
          refine piece_ok mixed hc (p17b v u k) ?_ (ih (k + 1) (by omega) (by simp [qT_StringS, hg, he]))
          simp only [All]
          repeat' (first | exact trivial | with_reducible apply And.intro)
          all_goals (first | omega | rfl | (intros; first | assumption | exact True.intro | rfl | exact absurd (show false = true by assumption) Bool.false_ne_true | ((repeat' (first | assumption | apply anda | apply notf)); done)) | exact he' | (simp [All]))
    have hb : (bif bif !eqGr v.1.1 u.1.1 then true else !q_IntS v.1.2.1 u.1.2.1 then true else (v.2.1.1 : Int) != (u.2.1.1 : Int)) = false := by simp [hz.1.1, hz.1.2, hz.2]
    refine piece_ok mixed hc (p17a v u) ?_ (lp v.2.1.1 0 (by omega) rfl)
    simp only [All]
    repeat' (first | exact trivial | with_reducible apply And.intro)
    all_goals (first | omega | rfl | (intros; first | assumption | exact True.intro | rfl | exact absurd (show false = true by assumption) Bool.false_ne_true | ((repeat' (first | assumption | apply anda | apply notf)); done)) | (exact con_EqualGraphs_s v.1.1 u.1.1 hv.1.1.2.1.1) | (intros; exact con_ls_l6Same_IntS v.1.2.1 u.1.2.1 hv.1.2.1.1) | (exact hb) | (simp [All]))
  · have hr : eqSi v u = false := by
      simp only [eqSi, q_StringS]
      cases h1 : eqGr v.1.1 u.1.1 with
      | false => rfl
      | true =>
        cases h2 : q_IntS v.1.2.1 u.1.2.1 with
        | false => rfl
        | true =>
          have h3 : ¬ v.2.1.1 = u.2.1.1 := fun h => hz ⟨⟨h1, h2⟩, h⟩
          simp [h3]
    rw [hr]
    have hb : (bif bif !eqGr v.1.1 u.1.1 then true else !q_IntS v.1.2.1 u.1.2.1 then true else (v.2.1.1 : Int) != (u.2.1.1 : Int)) = true := by
      cases h1 : eqGr v.1.1 u.1.1 with
      | false => rfl
      | true =>
        cases h2 : q_IntS v.1.2.1 u.1.2.1 with
        | false => rfl
        | true =>
          have h3 : ¬ v.2.1.1 = u.2.1.1 := fun h => hz ⟨⟨h1, h2⟩, h⟩
          simp; omega
    refine path_ok mixed Try.func17 hc (p17z v u) ?_
    simp only [All]
    repeat' (first | exact trivial | with_reducible apply And.intro)
    all_goals (first | omega | rfl | (intros; first | assumption | exact True.intro | rfl | exact absurd (show false = true by assumption) Bool.false_ne_true | ((repeat' (first | assumption | apply anda | apply notf)); done)) | (exact con_EqualGraphs_s v.1.1 u.1.1 hv.1.1.2.1.1) | (intros; exact con_ls_l6Same_IntS v.1.2.1 u.1.2.1 hv.1.2.1.1) | (exact hb))

end Go.Proofs.Ytgddbgmnehkblab.Mach
