/- Contracts of uniform functions: how large, laid anew, equal to itself. Written by our own fam.py. Conditions: as each theorem says. -/
import Derived.Test.YtgddbgmnehkblabFamSite
namespace Go.Proofs.Ytgddbgmnehkblab.Mach
open Go
set_option linter.unusedVariables false
set_option linter.unusedSimpArgs false

def S_markIntS (v : T_IntS) (m : Int) (k : Nat) : St :=
  ⟨[.ar 1 0 0 v.1, .p (.int .i64 (m + (k : Int))), .p .any, .p .any, .p .any, .p (.int .i64 k)] ++ List.replicate 13 anyA, [(0, ⟨false, 1, v.1, fun i => [.p (.int .i64 (if i < k then m + (i : Int) else (v.2 i)))]⟩)], 1⟩
def S_heldIntS (n : Nat) (m : Int) (k : Nat) : St :=
  ⟨[.p (.seq true 1 n (fun i => [.int .i64 (m + (i : Int))])), .p (.int .i64 (m + (k : Int))), .p .any, .p .any, .p .any, .p (.int .i64 k)] ++ List.replicate 15 anyA, [], 0⟩
def S_markBarS (v : T_BarS) (m : Int) (k : Nat) : St :=
  ⟨[.ar 2 0 0 v.1, .p (.int .i64 (m + 2 * (k : Int))), .p .any, .p .any, .p .any, .p (.int .i64 k)] ++ List.replicate 21 anyA, [(0, ⟨false, 2, v.1, fun i => [.p (.int .i64 (if i < k then m + 2 * (i : Int) else (v.2 i).1)), .p (.int .i64 (if i < k then m + 2 * (i : Int) + 1 else (v.2 i).2.1))]⟩)], 1⟩
def S_markBarS_1 (v : T_BarS) (m : Int) (k : Nat) : St :=
  ⟨[.ar 2 0 0 v.1, .p (.int .i64 (m + 2 * (k : Int) + 1)), .p .any, .p .any, .p .any, .p (.int .i64 k)] ++ List.replicate 21 anyA, [(0, ⟨false, 2, v.1, fun i => [.p (.int .i64 (if i < k + 1 then m + 2 * (i : Int) else (v.2 i).1)), .p (.int .i64 (if i < k then m + 2 * (i : Int) + 1 else (v.2 i).2.1))]⟩)], 1⟩
def S_heldBarS (n : Nat) (m : Int) (k : Nat) : St :=
  ⟨[.p (.seq true 2 n (fun i => [.int .i64 (m + 2 * (i : Int)), .int .i64 (m + 2 * (i : Int) + 1)])), .p (.int .i64 (m + 2 * (k : Int))), .p .any, .p .any, .p .any, .p (.int .i64 k)] ++ List.replicate 25 anyA, [], 0⟩

theorem p_markIntS_a (v : T_IntS) (m : Int) :
    pieceOb Try.prog 1 [.reg [oT], .reg [oT], .head] [.code (bodyOf Try.f72)] (start Try.f72 [(0, ⟨false, 1, v.1, fun i => [.p (.int .i64 ((v.2 i)))]⟩)] 1 [.ar 1 0 0 v.1, .p (.int .i64 m)]) [0] 1 (S_markIntS v m 0) =
    some ([.code (cAt (bodyOf Try.f72) [1, 0, 1, 0, 0]), .inLoop (cAt (bodyOf Try.f72) [1, 0, 1, 0, 0]), .inBlock 0, .code (cAt (bodyOf Try.f72) [1, 1])], [((0 : Nat) = 0),
  (((v.fst) : Nat) = (v.fst)),
  (((m) : Int) = (m + (↑0 : Int))),
  ((0 : Int) = ((↑0 : Int))),
  ((1 : Nat) = 1),
  (((v.fst) : Nat) ≤ (v.fst)),
  (∀ i : Nat, ((((i) : Nat) < (v.fst)) → (All [] ∧ (([.p (.int .i64 (v.snd i))] : List AV) = [.p (.int .i64 (if i < 0 then m + (↑i : Int) else v.snd i))]))))]) := by kernel_rfl

theorem p_markIntS_b0 (v : T_IntS) (m : Int) (k : Nat) :
    pieceOb Try.prog 1 [.reg [oT, oT, oT, oT], .dec true, .reg [oT, oT, oT, oT, oT], .reg [oT, oT, oT], .reg [oT, oT, oT], .head] [.code (cAt (bodyOf Try.f72) [1, 0, 1, 0, 0]), .inLoop (cAt (bodyOf Try.f72) [1, 0, 1, 0, 0]), .inBlock 0, .code (cAt (bodyOf Try.f72) [1, 1])] (S_markIntS v m k) [0] 1 (S_markIntS v m (k + 1)) =
    some ([.code (cAt (bodyOf Try.f72) [1, 0, 1, 0, 0]), .inLoop (cAt (bodyOf Try.f72) [1, 0, 1, 0, 0]), .inBlock 0, .code (cAt (bodyOf Try.f72) [1, 1])], [((decide ((↑k : Int) < (↑v.fst : Int))) = true),
  ((0 : Int) ≤ ((↑k : Int))),
  ((((↑k : Int)) : Int) < ((↑v.fst : Int))),
  (((k) : Nat) < (v.fst)),
  (((false) = true) → (((v.fst) : Nat) = 1)),
  (((-9223372036854775808) : Int) ≤ (m + (↑k : Int) + 1)),
  (((m + (↑k : Int) + 1) : Int) ≤ 9223372036854775807),
  (((-9223372036854775808) : Int) ≤ ((↑k : Int) + 1)),
  ((((↑k : Int) + 1) : Int) ≤ 9223372036854775807),
  ((0 : Nat) = 0),
  (((v.fst) : Nat) = (v.fst)),
  (((m + (↑k : Int) + 1) : Int) = (m + (↑(k + 1) : Int))),
  ((((↑k : Int) + 1) : Int) = ((↑(k + 1) : Int))),
  ((1 : Nat) = 1),
  (((v.fst) : Nat) ≤ (v.fst)),
  (∀ i : Nat, ((((i) : Nat) < (v.fst)) → (All (cvtL false [(0, ⟨false, 1, (v.fst), (fun i_1 => (if (i_1 = k) then [.p (.int .i64 (m + (↑k : Int)))] else [.p (.int .i64 (if i_1 < k then m + (↑i_1 : Int) else v.snd i_1))]))⟩)] [0] 1 (if (i = k) then [.p (.int .i64 (m + (↑k : Int)))] else [.p (.int .i64 (if i < k then m + (↑i : Int) else v.snd i))])).2 ∧ (((cvtL false [(0, ⟨false, 1, (v.fst), (fun i_1 => (if (i_1 = k) then [.p (.int .i64 (m + (↑k : Int)))] else [.p (.int .i64 (if i_1 < k then m + (↑i_1 : Int) else v.snd i_1))]))⟩)] [0] 1 (if (i = k) then [.p (.int .i64 (m + (↑k : Int)))] else [.p (.int .i64 (if i < k then m + (↑i : Int) else v.snd i))])).1 : List AV) = [.p (.int .i64 (if i < k + 1 then m + (↑i : Int) else v.snd i))]))))]) := by kernel_rfl

theorem p_markIntS_c (v : T_IntS) (m : Int) (k : Nat) :
    pathOb Try.prog Try.f72 1 [.reg [oT, oT, oT, oT], .dec false, .reg [oT, oT]] [.code (cAt (bodyOf Try.f72) [1, 0, 1, 0, 0]), .inLoop (cAt (bodyOf Try.f72) [1, 0, 1, 0, 0]), .inBlock 0, .code (cAt (bodyOf Try.f72) [1, 1])] (S_markIntS v m k) [0] 1 [(0, ⟨false, 1, v.1, fun i => [.p (.int .i64 (m + (i : Int)))]⟩)] (.p (.int .i64 (m + (v.1 : Int)))) =
    some [((decide ((↑k : Int) < (↑v.fst : Int))) = false),
  (((m + (↑k : Int)) : Int) = (m + (↑v.fst : Int))),
  ((1 : Nat) = 1),
  (((v.fst) : Nat) ≤ (v.fst)),
  (∀ i : Nat, ((((i) : Nat) < (v.fst)) → (All [] ∧ (([.p (.int .i64 (if i < k then m + (↑i : Int) else v.snd i))] : List AV) = [.p (.int .i64 (m + (↑i : Int)))])))),
  (∀ i : Nat, ((((i) : Nat) < (v.fst)) → All []))] := by kernel_rfl

theorem p_heldIntS_a (n : Nat) (m : Int) :
    pieceOb Try.prog 0 [.reg [oT], .reg [oT], .head] [.code (bodyOf Try.f104)] (start Try.f104 [] 0 [.p (.seq true 1 n (fun i => [.int .i64 (m + (i : Int))])), .p (.int .i64 m)]) [] 1 (S_heldIntS n m 0) =
    some ([.code (cAt (bodyOf Try.f104) [1, 0, 1, 0, 0]), .inLoop (cAt (bodyOf Try.f104) [1, 0, 1, 0, 0]), .inBlock 0, .code (cAt (bodyOf Try.f104) [1, 1])], [(((n) : Nat) = (n)),
  (∀ i : Nat, ((((i) : Nat) < (n)) → (([.int .i64 (m + (↑i : Int))] : List PV) = [.int .i64 (m + (↑i : Int))]))),
  (((m) : Int) = (m + (↑0 : Int))),
  ((0 : Int) = ((↑0 : Int)))]) := by kernel_rfl

theorem p_heldIntS_b (n : Nat) (m : Int) (k : Nat) :
    pieceOb Try.prog 0 [.reg [oT, oT, oT, oT], .dec true, .reg [oT, oT, oT, oT, oT, oT], .dec false, .reg [oT, oT, oT], .reg [oT, oT, oT], .head] [.code (cAt (bodyOf Try.f104) [1, 0, 1, 0, 0]), .inLoop (cAt (bodyOf Try.f104) [1, 0, 1, 0, 0]), .inBlock 0, .code (cAt (bodyOf Try.f104) [1, 1])] (S_heldIntS n m k) [] 1 (S_heldIntS n m (k + 1)) =
    some ([.code (cAt (bodyOf Try.f104) [1, 0, 1, 0, 0]), .inLoop (cAt (bodyOf Try.f104) [1, 0, 1, 0, 0]), .inBlock 0, .code (cAt (bodyOf Try.f104) [1, 1])], [((decide ((↑k : Int) < (↑n : Int))) = true),
  ((0 : Int) ≤ ((↑k : Int))),
  ((((↑k : Int)) : Int) < ((↑n : Int))),
  ((m + (↑k : Int) != m + (↑k : Int)) = false),
  (((-9223372036854775808) : Int) ≤ (m + (↑k : Int) + 1)),
  (((m + (↑k : Int) + 1) : Int) ≤ 9223372036854775807),
  (((-9223372036854775808) : Int) ≤ ((↑k : Int) + 1)),
  ((((↑k : Int) + 1) : Int) ≤ 9223372036854775807),
  (((n) : Nat) = (n)),
  (∀ i : Nat, ((((i) : Nat) < (n)) → (([.int .i64 (m + (↑i : Int))] : List PV) = [.int .i64 (m + (↑i : Int))]))),
  (((m + (↑k : Int) + 1) : Int) = (m + (↑(k + 1) : Int))),
  ((((↑k : Int) + 1) : Int) = ((↑(k + 1) : Int)))]) := by kernel_rfl

theorem p_heldIntS_c (n : Nat) (m : Int) (k : Nat) :
    pathOb Try.prog Try.f104 0 [.reg [oT, oT, oT, oT], .dec false, .reg [oT, oT]] [.code (cAt (bodyOf Try.f104) [1, 0, 1, 0, 0]), .inLoop (cAt (bodyOf Try.f104) [1, 0, 1, 0, 0]), .inBlock 0, .code (cAt (bodyOf Try.f104) [1, 1])] (S_heldIntS n m k) [] 1 [] (.p (.int .i64 (m + (n : Int)))) =
    some [((decide ((↑k : Int) < (↑n : Int))) = false),
  (((m + (↑k : Int)) : Int) = (m + (↑n : Int)))] := by kernel_rfl

theorem p_markBarS_a (v : T_BarS) (m : Int) :
    pieceOb Try.prog 1 [.reg [oT], .reg [oT], .head] [.code (bodyOf Try.f101)] (start Try.f101 [(0, ⟨false, 2, v.1, fun i => [.p (.int .i64 ((v.2 i).1)), .p (.int .i64 ((v.2 i).2.1))]⟩)] 1 [.ar 2 0 0 v.1, .p (.int .i64 m)]) [0] 1 (S_markBarS v m 0) =
    some ([.code (cAt (bodyOf Try.f101) [1, 0, 1, 0, 0]), .inLoop (cAt (bodyOf Try.f101) [1, 0, 1, 0, 0]), .inBlock 0, .code (cAt (bodyOf Try.f101) [1, 1])], [((0 : Nat) = 0),
  (((v.fst) : Nat) = (v.fst)),
  (((m) : Int) = (m + 2 * (↑0 : Int))),
  ((0 : Int) = ((↑0 : Int))),
  ((2 : Nat) = 2),
  (((v.fst) : Nat) ≤ (v.fst)),
  (∀ i : Nat, ((((i) : Nat) < (v.fst)) → (All [] ∧ (([.p (.int .i64 ((v.snd i).fst)), .p (.int .i64 ((v.snd i).snd.fst))] : List AV) = [.p (.int .i64 (if i < 0 then m + 2 * (↑i : Int) else (v.snd i).fst)), .p (.int .i64 (if i < 0 then m + 2 * (↑i : Int) + 1 else (v.snd i).snd.fst))]))))]) := by kernel_rfl

theorem p_markBarS_b0 (v : T_BarS) (m : Int) (k : Nat) :
    pieceOb Try.prog 1 [.reg [oT, oT, oT, oT], .dec true, .reg [oT, oT, oT, oT, oT, oT], .reg [oT, oT, oT], .head] [.code (cAt (bodyOf Try.f101) [1, 0, 1, 0, 0]), .inLoop (cAt (bodyOf Try.f101) [1, 0, 1, 0, 0]), .inBlock 0, .code (cAt (bodyOf Try.f101) [1, 1])] (S_markBarS v m k) [0] 1 (S_markBarS_1 v m k) =
    some ([.code (cAt (bodyOf Try.f101) [1, 0, 1, 0, 0, 1, 0, 0, 1, 1, 0]), .code (cAt (bodyOf Try.f101) [1, 0, 1, 0, 0, 1, 0, 0, 1, 1, 1]), .inBlock 1, .code (cAt (bodyOf Try.f101) [1, 0, 1, 0, 0, 1, 1]), .inLoop (cAt (bodyOf Try.f101) [1, 0, 1, 0, 0]), .inBlock 0, .code (cAt (bodyOf Try.f101) [1, 1])], [((decide ((↑k : Int) < (↑v.fst : Int))) = true),
  ((0 : Int) ≤ ((↑k : Int))),
  ((((↑k : Int)) : Int) < ((↑v.fst : Int))),
  (((k) : Nat) < (v.fst)),
  (((false) = true) → (((v.fst) : Nat) = 1)),
  (((-9223372036854775808) : Int) ≤ (m + 2 * (↑k : Int) + 1)),
  (((m + 2 * (↑k : Int) + 1) : Int) ≤ 9223372036854775807),
  ((0 : Nat) = 0),
  (((v.fst) : Nat) = (v.fst)),
  (((m + 2 * (↑k : Int) + 1) : Int) = (m + 2 * (↑k : Int) + 1)),
  ((((↑k : Int)) : Int) = ((↑k : Int))),
  ((2 : Nat) = 2),
  (((v.fst) : Nat) ≤ (v.fst)),
  (∀ i : Nat, ((((i) : Nat) < (v.fst)) → (All (cvtL false [(0, ⟨false, 2, (v.fst), (fun i_1 => (if (i_1 = k) then [.p (.int .i64 (m + 2 * (↑k : Int))), .p (.int .i64 (if (↑k : Int).toNat + 0 < k then m + 2 * (↑k : Int) + 1 else (v.snd k).snd.fst))] else [.p (.int .i64 (if i_1 < k then m + 2 * (↑i_1 : Int) else (v.snd i_1).fst)), .p (.int .i64 (if i_1 < k then m + 2 * (↑i_1 : Int) + 1 else (v.snd i_1).snd.fst))]))⟩)] [0] 1 (if (i = k) then [.p (.int .i64 (m + 2 * (↑k : Int))), .p (.int .i64 (if (↑k : Int).toNat + 0 < k then m + 2 * (↑k : Int) + 1 else (v.snd k).snd.fst))] else [.p (.int .i64 (if i < k then m + 2 * (↑i : Int) else (v.snd i).fst)), .p (.int .i64 (if i < k then m + 2 * (↑i : Int) + 1 else (v.snd i).snd.fst))])).2 ∧ (((cvtL false [(0, ⟨false, 2, (v.fst), (fun i_1 => (if (i_1 = k) then [.p (.int .i64 (m + 2 * (↑k : Int))), .p (.int .i64 (if (↑k : Int).toNat + 0 < k then m + 2 * (↑k : Int) + 1 else (v.snd k).snd.fst))] else [.p (.int .i64 (if i_1 < k then m + 2 * (↑i_1 : Int) else (v.snd i_1).fst)), .p (.int .i64 (if i_1 < k then m + 2 * (↑i_1 : Int) + 1 else (v.snd i_1).snd.fst))]))⟩)] [0] 1 (if (i = k) then [.p (.int .i64 (m + 2 * (↑k : Int))), .p (.int .i64 (if (↑k : Int).toNat + 0 < k then m + 2 * (↑k : Int) + 1 else (v.snd k).snd.fst))] else [.p (.int .i64 (if i < k then m + 2 * (↑i : Int) else (v.snd i).fst)), .p (.int .i64 (if i < k then m + 2 * (↑i : Int) + 1 else (v.snd i).snd.fst))])).1 : List AV) = [.p (.int .i64 (if i < k + 1 then m + 2 * (↑i : Int) else (v.snd i).fst)), .p (.int .i64 (if i < k then m + 2 * (↑i : Int) + 1 else (v.snd i).snd.fst))]))))]) := by kernel_rfl

theorem p_markBarS_b1 (v : T_BarS) (m : Int) (k : Nat) :
    pieceOb Try.prog 1 [.reg [oT, oT, oT, oT, oT, oT], .reg [oT, oT, oT], .reg [oT, oT, oT], .head] [.code (cAt (bodyOf Try.f101) [1, 0, 1, 0, 0, 1, 0, 0, 1, 1, 0]), .code (cAt (bodyOf Try.f101) [1, 0, 1, 0, 0, 1, 0, 0, 1, 1, 1]), .inBlock 1, .code (cAt (bodyOf Try.f101) [1, 0, 1, 0, 0, 1, 1]), .inLoop (cAt (bodyOf Try.f101) [1, 0, 1, 0, 0]), .inBlock 0, .code (cAt (bodyOf Try.f101) [1, 1])] (S_markBarS_1 v m k) [0] 1 (S_markBarS v m (k + 1)) =
    some ([.code (cAt (bodyOf Try.f101) [1, 0, 1, 0, 0]), .inLoop (cAt (bodyOf Try.f101) [1, 0, 1, 0, 0]), .inBlock 0, .code (cAt (bodyOf Try.f101) [1, 1])], [((0 : Int) ≤ ((↑k : Int))),
  ((((↑k : Int)) : Int) < ((↑v.fst : Int))),
  (((k) : Nat) < (v.fst)),
  (((false) = true) → (((v.fst) : Nat) = 1)),
  (((-9223372036854775808) : Int) ≤ (m + 2 * (↑k : Int) + 1 + 1)),
  (((m + 2 * (↑k : Int) + 1 + 1) : Int) ≤ 9223372036854775807),
  (((-9223372036854775808) : Int) ≤ ((↑k : Int) + 1)),
  ((((↑k : Int) + 1) : Int) ≤ 9223372036854775807),
  ((0 : Nat) = 0),
  (((v.fst) : Nat) = (v.fst)),
  (((m + 2 * (↑k : Int) + 1 + 1) : Int) = (m + 2 * (↑(k + 1) : Int))),
  ((((↑k : Int) + 1) : Int) = ((↑(k + 1) : Int))),
  ((2 : Nat) = 2),
  (((v.fst) : Nat) ≤ (v.fst)),
  (∀ i : Nat, ((((i) : Nat) < (v.fst)) → (All (cvtL false [(0, ⟨false, 2, (v.fst), (fun i_1 => (if (i_1 = k) then [.p (.int .i64 (if (↑k : Int).toNat + 0 < k + 1 then m + 2 * (↑k : Int) else (v.snd k).fst)), .p (.int .i64 (m + 2 * (↑k : Int) + 1))] else [.p (.int .i64 (if i_1 < k + 1 then m + 2 * (↑i_1 : Int) else (v.snd i_1).fst)), .p (.int .i64 (if i_1 < k then m + 2 * (↑i_1 : Int) + 1 else (v.snd i_1).snd.fst))]))⟩)] [0] 1 (if (i = k) then [.p (.int .i64 (if (↑k : Int).toNat + 0 < k + 1 then m + 2 * (↑k : Int) else (v.snd k).fst)), .p (.int .i64 (m + 2 * (↑k : Int) + 1))] else [.p (.int .i64 (if i < k + 1 then m + 2 * (↑i : Int) else (v.snd i).fst)), .p (.int .i64 (if i < k then m + 2 * (↑i : Int) + 1 else (v.snd i).snd.fst))])).2 ∧ (((cvtL false [(0, ⟨false, 2, (v.fst), (fun i_1 => (if (i_1 = k) then [.p (.int .i64 (if (↑k : Int).toNat + 0 < k + 1 then m + 2 * (↑k : Int) else (v.snd k).fst)), .p (.int .i64 (m + 2 * (↑k : Int) + 1))] else [.p (.int .i64 (if i_1 < k + 1 then m + 2 * (↑i_1 : Int) else (v.snd i_1).fst)), .p (.int .i64 (if i_1 < k then m + 2 * (↑i_1 : Int) + 1 else (v.snd i_1).snd.fst))]))⟩)] [0] 1 (if (i = k) then [.p (.int .i64 (if (↑k : Int).toNat + 0 < k + 1 then m + 2 * (↑k : Int) else (v.snd k).fst)), .p (.int .i64 (m + 2 * (↑k : Int) + 1))] else [.p (.int .i64 (if i < k + 1 then m + 2 * (↑i : Int) else (v.snd i).fst)), .p (.int .i64 (if i < k then m + 2 * (↑i : Int) + 1 else (v.snd i).snd.fst))])).1 : List AV) = [.p (.int .i64 (if i < k + 1 then m + 2 * (↑i : Int) else (v.snd i).fst)), .p (.int .i64 (if i < k + 1 then m + 2 * (↑i : Int) + 1 else (v.snd i).snd.fst))]))))]) := by kernel_rfl

theorem p_markBarS_c (v : T_BarS) (m : Int) (k : Nat) :
    pathOb Try.prog Try.f101 1 [.reg [oT, oT, oT, oT], .dec false, .reg [oT, oT]] [.code (cAt (bodyOf Try.f101) [1, 0, 1, 0, 0]), .inLoop (cAt (bodyOf Try.f101) [1, 0, 1, 0, 0]), .inBlock 0, .code (cAt (bodyOf Try.f101) [1, 1])] (S_markBarS v m k) [0] 1 [(0, ⟨false, 2, v.1, fun i => [.p (.int .i64 (m + 2 * (i : Int))), .p (.int .i64 (m + 2 * (i : Int) + 1))]⟩)] (.p (.int .i64 (m + 2 * (v.1 : Int)))) =
    some [((decide ((↑k : Int) < (↑v.fst : Int))) = false),
  (((m + 2 * (↑k : Int)) : Int) = (m + 2 * (↑v.fst : Int))),
  ((2 : Nat) = 2),
  (((v.fst) : Nat) ≤ (v.fst)),
  (∀ i : Nat, ((((i) : Nat) < (v.fst)) → (All [] ∧ (([.p (.int .i64 (if i < k then m + 2 * (↑i : Int) else (v.snd i).fst)), .p (.int .i64 (if i < k then m + 2 * (↑i : Int) + 1 else (v.snd i).snd.fst))] : List AV) = [.p (.int .i64 (m + 2 * (↑i : Int))), .p (.int .i64 (m + 2 * (↑i : Int) + 1))])))),
  (∀ i : Nat, ((((i) : Nat) < (v.fst)) → All []))] := by kernel_rfl

theorem p_heldBarS_a (n : Nat) (m : Int) :
    pieceOb Try.prog 0 [.reg [oT], .reg [oT], .head] [.code (bodyOf Try.f116)] (start Try.f116 [] 0 [.p (.seq true 2 n (fun i => [.int .i64 (m + 2 * (i : Int)), .int .i64 (m + 2 * (i : Int) + 1)])), .p (.int .i64 m)]) [] 1 (S_heldBarS n m 0) =
    some ([.code (cAt (bodyOf Try.f116) [1, 0, 1, 0, 0]), .inLoop (cAt (bodyOf Try.f116) [1, 0, 1, 0, 0]), .inBlock 0, .code (cAt (bodyOf Try.f116) [1, 1])], [(((n) : Nat) = (n)),
  (∀ i : Nat, ((((i) : Nat) < (n)) → (([.int .i64 (m + 2 * (↑i : Int)), .int .i64 (m + 2 * (↑i : Int) + 1)] : List PV) = [.int .i64 (m + 2 * (↑i : Int)), .int .i64 (m + 2 * (↑i : Int) + 1)]))),
  (((m) : Int) = (m + 2 * (↑0 : Int))),
  ((0 : Int) = ((↑0 : Int)))]) := by kernel_rfl

theorem p_heldBarS_b (n : Nat) (m : Int) (k : Nat) :
    pieceOb Try.prog 0 [.reg [oT, oT, oT, oT], .dec true, .reg [oT, oT, oT, oT, oT, oT, oT], .dec false, .reg [oT, oT, oT], .reg [oT, oT, oT, oT, oT, oT, oT], .dec false, .reg [oT, oT, oT], .reg [oT, oT, oT], .head] [.code (cAt (bodyOf Try.f116) [1, 0, 1, 0, 0]), .inLoop (cAt (bodyOf Try.f116) [1, 0, 1, 0, 0]), .inBlock 0, .code (cAt (bodyOf Try.f116) [1, 1])] (S_heldBarS n m k) [] 1 (S_heldBarS n m (k + 1)) =
    some ([.code (cAt (bodyOf Try.f116) [1, 0, 1, 0, 0]), .inLoop (cAt (bodyOf Try.f116) [1, 0, 1, 0, 0]), .inBlock 0, .code (cAt (bodyOf Try.f116) [1, 1])], [((decide ((↑k : Int) < (↑n : Int))) = true),
  ((0 : Int) ≤ ((↑k : Int))),
  ((((↑k : Int)) : Int) < ((↑n : Int))),
  ((m + 2 * (↑k : Int) != m + 2 * (↑k : Int)) = false),
  (((-9223372036854775808) : Int) ≤ (m + 2 * (↑k : Int) + 1)),
  (((m + 2 * (↑k : Int) + 1) : Int) ≤ 9223372036854775807),
  ((0 : Int) ≤ ((↑k : Int))),
  ((((↑k : Int)) : Int) < ((↑n : Int))),
  ((m + 2 * (↑k : Int) + 1 != m + 2 * (↑k : Int) + 1) = false),
  (((-9223372036854775808) : Int) ≤ (m + 2 * (↑k : Int) + 1 + 1)),
  (((m + 2 * (↑k : Int) + 1 + 1) : Int) ≤ 9223372036854775807),
  (((-9223372036854775808) : Int) ≤ ((↑k : Int) + 1)),
  ((((↑k : Int) + 1) : Int) ≤ 9223372036854775807),
  (((n) : Nat) = (n)),
  (∀ i : Nat, ((((i) : Nat) < (n)) → (([.int .i64 (m + 2 * (↑i : Int)), .int .i64 (m + 2 * (↑i : Int) + 1)] : List PV) = [.int .i64 (m + 2 * (↑i : Int)), .int .i64 (m + 2 * (↑i : Int) + 1)]))),
  (((m + 2 * (↑k : Int) + 1 + 1) : Int) = (m + 2 * (↑(k + 1) : Int))),
  ((((↑k : Int) + 1) : Int) = ((↑(k + 1) : Int)))]) := by kernel_rfl

theorem p_heldBarS_c (n : Nat) (m : Int) (k : Nat) :
    pathOb Try.prog Try.f116 0 [.reg [oT, oT, oT, oT], .dec false, .reg [oT, oT]] [.code (cAt (bodyOf Try.f116) [1, 0, 1, 0, 0]), .inLoop (cAt (bodyOf Try.f116) [1, 0, 1, 0, 0]), .inBlock 0, .code (cAt (bodyOf Try.f116) [1, 1])] (S_heldBarS n m k) [] 1 [] (.p (.int .i64 (m + 2 * (n : Int)))) =
    some [((decide ((↑k : Int) < (↑n : Int))) = false),
  (((m + 2 * (↑k : Int)) : Int) = (m + 2 * (↑n : Int)))] := by kernel_rfl

theorem p_markStringS_0 (g : Nat → List PV) (m : Int) :
    pathOb Try.prog Try.f73 0 [.reg [oT], .reg [oT], .loop, .reg [oT, oT, oT, oT], .dec false, .reg [oT, oT]] [.code (bodyOf Try.f73)] (start Try.f73 [] 0 [.p (.seq true 1 0 g), .p (.int .i64 m)]) [] 1 [] (.p (.int .i64 m)) =
    some [((decide (0 < (↑0 : Int))) = false),
  (((m) : Int) = (m))] := by kernel_rfl

theorem p_heldStringS_0 (g : Nat → List PV) (m : Int) :
    pathOb Try.prog Try.f75 0 [.reg [oT], .reg [oT], .loop, .reg [oT, oT, oT, oT], .dec false, .reg [oT, oT]] [.code (bodyOf Try.f75)] (start Try.f75 [] 0 [.p (.seq true 1 0 g), .p (.int .i64 m)]) [] 1 [] (.p (.int .i64 m)) =
    some [((decide (0 < (↑0 : Int))) = false),
  (((m) : Int) = (m))] := by kernel_rfl

theorem p_markGraph (v : T_Graph) (m : Int) :
    pathOb Try.prog Try.f71 1 [.reg [oT, oT], .reg [oT, oT, oT, ⟨true, (some ⟨[0], [], 1, [(0, ⟨false, 2, v.2.1.1, fun i => [.p (.int .i64 (m + 2 * (i : Int))), .p (.int .i64 (m + 2 * (i : Int) + 1))]⟩)], .p (.int .i64 (m + 2 * (v.2.1.1 : Int)))⟩)⟩, oT], .reg [oT, oT]] [.code (bodyOf Try.f71)] (start Try.f71 [(0, ⟨false, 2, v.2.1.1, fun i => [.p (.int .i64 ((v.2.1.2 i).1)), .p (.int .i64 ((v.2.1.2 i).2.1))]⟩)] 1 [.agg [.p (.int .i64 (v.1)), .ar 2 0 0 v.2.1.1], .p (.int .i64 m)]) [0] 1 [(0, ⟨false, 2, v.2.1.1, fun i => [.p (.int .i64 (m + 2 * (i : Int))), .p (.int .i64 (m + 2 * (i : Int) + 1))]⟩)] (.p (.int .i64 (m + 2 * (v.2.1.1 : Int)))) =
    some [((0 : Nat) < 1),
  (∀ i : Nat, ((((i) : Nat) < (v.snd.fst.fst)) → All [])),
  Con (Try.prog) 101 1 [(0, ⟨false, 2, (v.snd.fst.fst), (fun i => [.p (.int .i64 ((v.snd.fst.snd i).fst)), .p (.int .i64 ((v.snd.fst.snd i).snd.fst))])⟩)] [.ar 2 0 0 (v.snd.fst.fst), .p (.int .i64 (m))] [(0, ⟨false, 2, (v.snd.fst.fst), (fun i => [.p (.int .i64 (m + 2 * (↑i : Int))), .p (.int .i64 (m + 2 * (↑i : Int) + 1))])⟩)] (.p (.int .i64 (m + 2 * (↑v.snd.fst.fst : Int)))),
  (((m + 2 * (↑v.snd.fst.fst : Int)) : Int) = (m + 2 * (↑v.snd.fst.fst : Int))),
  ((2 : Nat) = 2),
  (((v.snd.fst.fst) : Nat) ≤ (v.snd.fst.fst)),
  (∀ i : Nat, ((((i) : Nat) < (v.snd.fst.fst)) → (All [] ∧ (([.p (.int .i64 (m + 2 * (↑i : Int))), .p (.int .i64 (m + 2 * (↑i : Int) + 1))] : List AV) = [.p (.int .i64 (m + 2 * (↑i : Int))), .p (.int .i64 (m + 2 * (↑i : Int) + 1))])))),
  (∀ i : Nat, ((((i) : Nat) < (v.snd.fst.fst)) → All []))] := by kernel_rfl

theorem p_heldGraph (v : T_Graph) (m : Int) :
    pathOb Try.prog Try.f103 0 [.reg [oT, oT], .reg [oT, oT, oT, ⟨true, (some ⟨[], [], 1, [], .p (.int .i64 (m + 2 * (v.2.1.1 : Int)))⟩)⟩, oT], .reg [oT, oT], .dec false, .reg [oT, oT]] [.code (bodyOf Try.f103)] (start Try.f103 [] 0 [.agg [.p (.int .i64 (v.1)), .p (.seq true 2 v.2.1.1 (fun i => [.int .i64 (m + 2 * (i : Int)), .int .i64 (m + 2 * (i : Int) + 1)]))], .p (.int .i64 m)]) [] 1 [] (.p (.int .i64 (m + 2 * (v.2.1.1 : Int)))) =
    some [((0 : Nat) < 1),
  Con (Try.prog) 116 0 [] [.p (.seq true 2 (v.snd.fst.fst) (fun i => [.int .i64 (m + 2 * (↑i : Int)), .int .i64 (m + 2 * (↑i : Int) + 1)])), .p (.int .i64 (m))] [] (.p (.int .i64 (m + 2 * (↑v.snd.fst.fst : Int)))),
  ((decide (m + 2 * (↑v.snd.fst.fst : Int) < 0)) = false),
  (((m + 2 * (↑v.snd.fst.fst : Int)) : Int) = (m + 2 * (↑v.snd.fst.fst : Int)))] := by kernel_rfl

theorem p_markPinned (v : T_Pinned) (m : Int) :
    pathOb Try.prog Try.f33 2 [.reg [oT, oT], .reg [oT, oT, oT, ⟨true, (some ⟨[0], [], 1, [(0, ⟨false, 2, v.1.2.1.1, fun i => [.p (.int .i64 (m + 2 * (i : Int))), .p (.int .i64 (m + 2 * (i : Int) + 1))]⟩)], .p (.int .i64 (m + 2 * (v.1.2.1.1 : Int)))⟩)⟩, oT], .reg [oT, oT, oT, ⟨true, (some ⟨[1], [], 1, [(0, ⟨false, 1, v.2.1.1, fun i => [.p (.int .i64 (m + 2 * (v.1.2.1.1 : Int) + (i : Int)))]⟩)], .p (.int .i64 (m + 2 * (v.1.2.1.1 : Int) + (v.2.1.1 : Int)))⟩)⟩, oT], .reg [oT, oT]] [.code (bodyOf Try.f33)] (start Try.f33 [(0, ⟨false, 2, v.1.2.1.1, fun i => [.p (.int .i64 ((v.1.2.1.2 i).1)), .p (.int .i64 ((v.1.2.1.2 i).2.1))]⟩), (1, ⟨false, 1, v.2.1.1, fun i => [.p (.int .i64 ((v.2.1.2 i)))]⟩)] 2 [.agg [.p (.int .i64 (v.1.1)), .ar 2 0 0 v.1.2.1.1, .ar 1 1 0 v.2.1.1], .p (.int .i64 m)]) [0, 1] 1 [(0, ⟨false, 2, v.1.2.1.1, fun i => [.p (.int .i64 (m + 2 * (i : Int))), .p (.int .i64 (m + 2 * (i : Int) + 1))]⟩), (1, ⟨false, 1, v.2.1.1, fun i => [.p (.int .i64 (m + 2 * (v.1.2.1.1 : Int) + (i : Int)))]⟩)] (.p (.int .i64 (m + 2 * (v.1.2.1.1 : Int) + (v.2.1.1 : Int)))) =
    some [((0 : Nat) < 1),
  (∀ i : Nat, ((((i) : Nat) < (v.fst.snd.fst.fst)) → All [])),
  Con (Try.prog) 71 1 [(0, ⟨false, 2, (v.fst.snd.fst.fst), (fun i => [.p (.int .i64 ((v.fst.snd.fst.snd i).fst)), .p (.int .i64 ((v.fst.snd.fst.snd i).snd.fst))])⟩)] [.agg [.p (.int .i64 (v.fst.fst)), .ar 2 0 0 (v.fst.snd.fst.fst)], .p (.int .i64 (m))] [(0, ⟨false, 2, (v.fst.snd.fst.fst), (fun i => [.p (.int .i64 (m + 2 * (↑i : Int))), .p (.int .i64 (m + 2 * (↑i : Int) + 1))])⟩)] (.p (.int .i64 (m + 2 * (↑v.fst.snd.fst.fst : Int)))),
  ((0 : Nat) < 1),
  (∀ i : Nat, ((((i) : Nat) < (v.snd.fst.fst)) → All [])),
  Con (Try.prog) 72 1 [(0, ⟨false, 1, (v.snd.fst.fst), (fun i => [.p (.int .i64 (v.snd.fst.snd i))])⟩)] [.ar 1 0 0 (v.snd.fst.fst), .p (.int .i64 (m + 2 * (↑v.fst.snd.fst.fst : Int)))] [(0, ⟨false, 1, (v.snd.fst.fst), (fun i => [.p (.int .i64 (m + 2 * (↑v.fst.snd.fst.fst : Int) + (↑i : Int)))])⟩)] (.p (.int .i64 (m + 2 * (↑v.fst.snd.fst.fst : Int) + (↑v.snd.fst.fst : Int)))),
  (((m + 2 * (↑v.fst.snd.fst.fst : Int) + (↑v.snd.fst.fst : Int)) : Int) = (m + 2 * (↑v.fst.snd.fst.fst : Int) + (↑v.snd.fst.fst : Int))),
  ((2 : Nat) = 2),
  (((v.fst.snd.fst.fst) : Nat) ≤ (v.fst.snd.fst.fst)),
  (∀ i : Nat, ((((i) : Nat) < (v.fst.snd.fst.fst)) → (All [] ∧ (([.p (.int .i64 (m + 2 * (↑i : Int))), .p (.int .i64 (m + 2 * (↑i : Int) + 1))] : List AV) = [.p (.int .i64 (m + 2 * (↑i : Int))), .p (.int .i64 (m + 2 * (↑i : Int) + 1))])))),
  ((1 : Nat) = 1),
  (((v.snd.fst.fst) : Nat) ≤ (v.snd.fst.fst)),
  (∀ i : Nat, ((((i) : Nat) < (v.snd.fst.fst)) → (All [] ∧ (([.p (.int .i64 (m + 2 * (↑v.fst.snd.fst.fst : Int) + (↑i : Int)))] : List AV) = [.p (.int .i64 (m + 2 * (↑v.fst.snd.fst.fst : Int) + (↑i : Int)))])))),
  (∀ i : Nat, ((((i) : Nat) < (v.fst.snd.fst.fst)) → All [])),
  (∀ i : Nat, ((((i) : Nat) < (v.snd.fst.fst)) → All []))] := by kernel_rfl

theorem p_heldPinned (v : T_Pinned) (m : Int) :
    pathOb Try.prog Try.f74 0 [.reg [oT, oT], .reg [oT, oT, oT, ⟨true, (some ⟨[], [], 1, [], .p (.int .i64 (m + 2 * (v.1.2.1.1 : Int)))⟩)⟩, oT], .reg [oT, oT], .dec false, .reg [oT, oT, oT, ⟨true, (some ⟨[], [], 1, [], .p (.int .i64 (m + 2 * (v.1.2.1.1 : Int) + (v.2.1.1 : Int)))⟩)⟩, oT], .reg [oT, oT], .dec false, .reg [oT, oT]] [.code (bodyOf Try.f74)] (start Try.f74 [] 0 [.agg [.p (.int .i64 (v.1.1)), .p (.seq true 2 v.1.2.1.1 (fun i => [.int .i64 (m + 2 * (i : Int)), .int .i64 (m + 2 * (i : Int) + 1)])), .p (.seq true 1 v.2.1.1 (fun i => [.int .i64 (m + 2 * (v.1.2.1.1 : Int) + (i : Int))]))], .p (.int .i64 m)]) [] 1 [] (.p (.int .i64 (m + 2 * (v.1.2.1.1 : Int) + (v.2.1.1 : Int)))) =
    some [((0 : Nat) < 1),
  Con (Try.prog) 103 0 [] [.agg [.p (.int .i64 (v.fst.fst)), .p (.seq true 2 (v.fst.snd.fst.fst) (fun i => [.int .i64 (m + 2 * (↑i : Int)), .int .i64 (m + 2 * (↑i : Int) + 1)]))], .p (.int .i64 (m))] [] (.p (.int .i64 (m + 2 * (↑v.fst.snd.fst.fst : Int)))),
  ((decide (m + 2 * (↑v.fst.snd.fst.fst : Int) < 0)) = false),
  ((0 : Nat) < 1),
  Con (Try.prog) 104 0 [] [.p (.seq true 1 (v.snd.fst.fst) (fun i => [.int .i64 (m + 2 * (↑v.fst.snd.fst.fst : Int) + (↑i : Int))])), .p (.int .i64 (m + 2 * (↑v.fst.snd.fst.fst : Int)))] [] (.p (.int .i64 (m + 2 * (↑v.fst.snd.fst.fst : Int) + (↑v.snd.fst.fst : Int)))),
  ((decide (m + 2 * (↑v.fst.snd.fst.fst : Int) + (↑v.snd.fst.fst : Int) < 0)) = false),
  (((m + 2 * (↑v.fst.snd.fst.fst : Int) + (↑v.snd.fst.fst : Int)) : Int) = (m + 2 * (↑v.fst.snd.fst.fst : Int) + (↑v.snd.fst.fst : Int)))] := by kernel_rfl

theorem p_markSite (v : T_Site) (m : Int) :
    pathOb Try.prog Try.f34 2 [.reg [oT, oT], .reg [oT, oT, oT, ⟨true, (some ⟨[0, 1], [], 1, [(0, ⟨false, 2, v.1.1.2.1.1, fun i => [.p (.int .i64 (m + 2 * (i : Int))), .p (.int .i64 (m + 2 * (i : Int) + 1))]⟩), (1, ⟨false, 1, v.1.2.1.1, fun i => [.p (.int .i64 (m + 2 * (v.1.1.2.1.1 : Int) + (i : Int)))]⟩)], .p (.int .i64 (m + 2 * (v.1.1.2.1.1 : Int) + (v.1.2.1.1 : Int)))⟩)⟩, oT], .reg [oT, oT, oT, ⟨true, (some ⟨[], [], 1, [], .p (.int .i64 (m + 2 * (v.1.1.2.1.1 : Int) + (v.1.2.1.1 : Int)))⟩)⟩, oT], .reg [oT, oT]] [.code (bodyOf Try.f34)] (start Try.f34 [(0, ⟨false, 2, v.1.1.2.1.1, fun i => [.p (.int .i64 ((v.1.1.2.1.2 i).1)), .p (.int .i64 ((v.1.1.2.1.2 i).2.1))]⟩), (1, ⟨false, 1, v.1.2.1.1, fun i => [.p (.int .i64 ((v.1.2.1.2 i)))]⟩)] 2 [.agg [.p (.int .i64 (v.1.1.1)), .ar 2 0 0 v.1.1.2.1.1, .ar 1 1 0 v.1.2.1.1, .p (.seq true 1 0 (fun i => [.str (v.2.1.2 i)]))], .p (.int .i64 m)]) [0, 1] 1 [(0, ⟨false, 2, v.1.1.2.1.1, fun i => [.p (.int .i64 (m + 2 * (i : Int))), .p (.int .i64 (m + 2 * (i : Int) + 1))]⟩), (1, ⟨false, 1, v.1.2.1.1, fun i => [.p (.int .i64 (m + 2 * (v.1.1.2.1.1 : Int) + (i : Int)))]⟩)] (.p (.int .i64 (m + 2 * (v.1.1.2.1.1 : Int) + (v.1.2.1.1 : Int)))) =
    some [((0 : Nat) < 1),
  (∀ i : Nat, ((((i) : Nat) < (v.fst.fst.snd.fst.fst)) → All [])),
  (∀ i : Nat, ((((i) : Nat) < (v.fst.snd.fst.fst)) → All [])),
  Con (Try.prog) 33 2 [(0, ⟨false, 2, (v.fst.fst.snd.fst.fst), (fun i => [.p (.int .i64 ((v.fst.fst.snd.fst.snd i).fst)), .p (.int .i64 ((v.fst.fst.snd.fst.snd i).snd.fst))])⟩), (1, ⟨false, 1, (v.fst.snd.fst.fst), (fun i => [.p (.int .i64 (v.fst.snd.fst.snd i))])⟩)] [.agg [.p (.int .i64 (v.fst.fst.fst)), .ar 2 0 0 (v.fst.fst.snd.fst.fst), .ar 1 1 0 (v.fst.snd.fst.fst)], .p (.int .i64 (m))] [(0, ⟨false, 2, (v.fst.fst.snd.fst.fst), (fun i => [.p (.int .i64 (m + 2 * (↑i : Int))), .p (.int .i64 (m + 2 * (↑i : Int) + 1))])⟩), (1, ⟨false, 1, (v.fst.snd.fst.fst), (fun i => [.p (.int .i64 (m + 2 * (↑v.fst.fst.snd.fst.fst : Int) + (↑i : Int)))])⟩)] (.p (.int .i64 (m + 2 * (↑v.fst.fst.snd.fst.fst : Int) + (↑v.fst.snd.fst.fst : Int)))),
  ((0 : Nat) < 1),
  Con (Try.prog) 73 0 [] [.p (.seq true 1 0 (fun i => [.str (v.snd.fst.snd i)])), .p (.int .i64 (m + 2 * (↑v.fst.fst.snd.fst.fst : Int) + (↑v.fst.snd.fst.fst : Int)))] [] (.p (.int .i64 (m + 2 * (↑v.fst.fst.snd.fst.fst : Int) + (↑v.fst.snd.fst.fst : Int)))),
  (((m + 2 * (↑v.fst.fst.snd.fst.fst : Int) + (↑v.fst.snd.fst.fst : Int)) : Int) = (m + 2 * (↑v.fst.fst.snd.fst.fst : Int) + (↑v.fst.snd.fst.fst : Int))),
  ((2 : Nat) = 2),
  (((v.fst.fst.snd.fst.fst) : Nat) ≤ (v.fst.fst.snd.fst.fst)),
  (∀ i : Nat, ((((i) : Nat) < (v.fst.fst.snd.fst.fst)) → (All [] ∧ (([.p (.int .i64 (m + 2 * (↑i : Int))), .p (.int .i64 (m + 2 * (↑i : Int) + 1))] : List AV) = [.p (.int .i64 (m + 2 * (↑i : Int))), .p (.int .i64 (m + 2 * (↑i : Int) + 1))])))),
  ((1 : Nat) = 1),
  (((v.fst.snd.fst.fst) : Nat) ≤ (v.fst.snd.fst.fst)),
  (∀ i : Nat, ((((i) : Nat) < (v.fst.snd.fst.fst)) → (All [] ∧ (([.p (.int .i64 (m + 2 * (↑v.fst.fst.snd.fst.fst : Int) + (↑i : Int)))] : List AV) = [.p (.int .i64 (m + 2 * (↑v.fst.fst.snd.fst.fst : Int) + (↑i : Int)))])))),
  (∀ i : Nat, ((((i) : Nat) < (v.fst.fst.snd.fst.fst)) → All [])),
  (∀ i : Nat, ((((i) : Nat) < (v.fst.snd.fst.fst)) → All []))] := by kernel_rfl

theorem p_heldSite (v : T_Site) (m : Int) :
    pathOb Try.prog Try.f35 0 [.reg [oT, oT], .reg [oT, oT, oT, ⟨true, (some ⟨[], [], 1, [], .p (.int .i64 (m + 2 * (v.1.1.2.1.1 : Int) + (v.1.2.1.1 : Int)))⟩)⟩, oT], .reg [oT, oT], .dec false, .reg [oT, oT, oT, ⟨true, (some ⟨[], [], 1, [], .p (.int .i64 (m + 2 * (v.1.1.2.1.1 : Int) + (v.1.2.1.1 : Int)))⟩)⟩, oT], .reg [oT, oT], .dec false, .reg [oT, oT]] [.code (bodyOf Try.f35)] (start Try.f35 [] 0 [.agg [.p (.int .i64 (v.1.1.1)), .p (.seq true 2 v.1.1.2.1.1 (fun i => [.int .i64 (m + 2 * (i : Int)), .int .i64 (m + 2 * (i : Int) + 1)])), .p (.seq true 1 v.1.2.1.1 (fun i => [.int .i64 (m + 2 * (v.1.1.2.1.1 : Int) + (i : Int))])), .p (.seq true 1 0 (fun i => [.str (v.2.1.2 i)]))], .p (.int .i64 m)]) [] 1 [] (.p (.int .i64 (m + 2 * (v.1.1.2.1.1 : Int) + (v.1.2.1.1 : Int)))) =
    some [((0 : Nat) < 1),
  Con (Try.prog) 74 0 [] [.agg [.p (.int .i64 (v.fst.fst.fst)), .p (.seq true 2 (v.fst.fst.snd.fst.fst) (fun i => [.int .i64 (m + 2 * (↑i : Int)), .int .i64 (m + 2 * (↑i : Int) + 1)])), .p (.seq true 1 (v.fst.snd.fst.fst) (fun i => [.int .i64 (m + 2 * (↑v.fst.fst.snd.fst.fst : Int) + (↑i : Int))]))], .p (.int .i64 (m))] [] (.p (.int .i64 (m + 2 * (↑v.fst.fst.snd.fst.fst : Int) + (↑v.fst.snd.fst.fst : Int)))),
  ((decide (m + 2 * (↑v.fst.fst.snd.fst.fst : Int) + (↑v.fst.snd.fst.fst : Int) < 0)) = false),
  ((0 : Nat) < 1),
  Con (Try.prog) 75 0 [] [.p (.seq true 1 0 (fun i => [.str (v.snd.fst.snd i)])), .p (.int .i64 (m + 2 * (↑v.fst.fst.snd.fst.fst : Int) + (↑v.fst.snd.fst.fst : Int)))] [] (.p (.int .i64 (m + 2 * (↑v.fst.fst.snd.fst.fst : Int) + (↑v.fst.snd.fst.fst : Int)))),
  ((decide (m + 2 * (↑v.fst.fst.snd.fst.fst : Int) + (↑v.fst.snd.fst.fst : Int) < 0)) = false),
  (((m + 2 * (↑v.fst.fst.snd.fst.fst : Int) + (↑v.fst.snd.fst.fst : Int)) : Int) = (m + 2 * (↑v.fst.fst.snd.fst.fst : Int) + (↑v.fst.snd.fst.fst : Int)))] := by kernel_rfl

theorem con_markIntS (v : T_IntS) (m : Int) (hn : v.1 ≤ 1048576) (h0 : 0 ≤ m) (h1 : m ≤ 1099511627776) : Con Try.prog 72 1 [(0, ⟨false, 1, v.1, fun i => [.p (.int .i64 ((v.2 i)))]⟩)] [.ar 1 0 0 v.1, .p (.int .i64 m)] [(0, ⟨false, 1, v.1, fun i => [.p (.int .i64 (m + (i : Int)))]⟩)] (.p (.int .i64 (m + (v.1 : Int)))) := by
  refine con_start Try.func72 rfl (by kernel_rfl) rfl (fun c hc => ?_)
  have lp : ∀ q j, j + q = v.1 → Run Try.prog c 72 [.code (cAt (bodyOf Try.f72) [1, 0, 1, 0, 0]), .inLoop (cAt (bodyOf Try.f72) [1, 0, 1, 0, 0]), .inBlock 0, .code (cAt (bodyOf Try.f72) [1, 1])] (S_markIntS v m j) (Post c [(0, ⟨false, 1, v.1, fun i => [.p (.int .i64 (m + (i : Int)))]⟩)] (.p (.int .i64 (m + (v.1 : Int))))) := by
    intro q
    induction q with
    | zero =>
      intro j hj
      have e : j = v.1 := by omega
      have hd : decide ((j : Int) < (v.1 : Int)) = false := by simp; omega
      refine path_ok mixed Try.func72 hc (p_markIntS_c v m j) ?_
      simp only [All]
      repeat' (first | exact trivial | with_reducible apply And.intro)
      all_goals (first | omega | rfl | (intros; first | assumption | exact True.intro | rfl | exact absurd (show false = true by assumption) Bool.false_ne_true | ((repeat' (first | assumption | apply anda | apply notf)); done)) | (intro i hi; (have hik : i < j := by omega); simp [hik, All]) | (simp; try omega))
    | succ q ih =>
      intro j hj
      have hlt : decide ((j : Int) < (v.1 : Int)) = true := by simp; omega
      refine piece_ok mixed hc (p_markIntS_b0 v m j) ?_ (ih (j + 1) (by omega))
      ·
        simp only [All]
        repeat' (first | exact trivial | with_reducible apply And.intro)
        all_goals (first | omega | rfl | (intros; first | assumption | exact True.intro | rfl | exact absurd (show false = true by assumption) Bool.false_ne_true | ((repeat' (first | assumption | apply anda | apply notf)); done)) | (intro i hi; by_cases h : i = j <;> simp [h, Nat.lt_succ_iff_lt_or_eq, cvtL, cvt, tg, tru, All]))
  refine piece_ok mixed hc (p_markIntS_a v m) ?_ (lp v.1 0 (by omega))
  simp only [All]
  repeat' (first | exact trivial | with_reducible apply And.intro)
  all_goals (first | omega | rfl | (intros; first | assumption | exact True.intro | rfl | exact absurd (show false = true by assumption) Bool.false_ne_true | ((repeat' (first | assumption | apply anda | apply notf)); done)) | (intro i hi; simp [All]))

theorem con_heldIntS (n : Nat) (m : Int) (hn : n ≤ 1048576) (h0 : 0 ≤ m) (h1 : m ≤ 1099511627776) : Con Try.prog 104 0 [] [.p (.seq true 1 n (fun i => [.int .i64 (m + (i : Int))])), .p (.int .i64 m)] [] (.p (.int .i64 (m + (n : Int)))) := by
  refine con_start Try.func104 rfl (by kernel_rfl) rfl (fun c hc => ?_)
  have lp : ∀ q j, j + q = n → Run Try.prog c 104 [.code (cAt (bodyOf Try.f104) [1, 0, 1, 0, 0]), .inLoop (cAt (bodyOf Try.f104) [1, 0, 1, 0, 0]), .inBlock 0, .code (cAt (bodyOf Try.f104) [1, 1])] (S_heldIntS n m j) (Post c [] (.p (.int .i64 (m + (n : Int))))) := by
    intro q
    induction q with
    | zero =>
      intro j hj
      have hd : decide ((j : Int) < (n : Int)) = false := by simp; omega
      refine path_ok mixed Try.func104 hc (p_heldIntS_c n m j) ?_
      simp only [All]
      repeat' (first | exact trivial | with_reducible apply And.intro)
      all_goals (first | omega | rfl | (intros; first | assumption | exact True.intro | rfl | exact absurd (show false = true by assumption) Bool.false_ne_true | ((repeat' (first | assumption | apply anda | apply notf)); done)) | (simp; try omega))
    | succ q ih =>
      intro j hj
      have hlt : decide ((j : Int) < (n : Int)) = true := by simp; omega
      refine piece_ok mixed hc (p_heldIntS_b n m j) ?_ (ih (j + 1) (by omega))
      simp only [All]
      repeat' (first | exact trivial | with_reducible apply And.intro)
      all_goals (first | omega | rfl | (intros; first | assumption | exact True.intro | rfl | exact absurd (show false = true by assumption) Bool.false_ne_true | ((repeat' (first | assumption | apply anda | apply notf)); done)) | simp)
  refine piece_ok mixed hc (p_heldIntS_a n m) ?_ (lp n 0 (by omega))
  simp only [All]
  repeat' (first | exact trivial | with_reducible apply And.intro)
  all_goals (first | omega | rfl | (intros; first | assumption | exact True.intro | rfl | exact absurd (show false = true by assumption) Bool.false_ne_true | ((repeat' (first | assumption | apply anda | apply notf)); done)) | simp)

theorem con_markBarS (v : T_BarS) (m : Int) (hn : v.1 ≤ 1048576) (h0 : 0 ≤ m) (h1 : m ≤ 1099511627776) : Con Try.prog 101 1 [(0, ⟨false, 2, v.1, fun i => [.p (.int .i64 ((v.2 i).1)), .p (.int .i64 ((v.2 i).2.1))]⟩)] [.ar 2 0 0 v.1, .p (.int .i64 m)] [(0, ⟨false, 2, v.1, fun i => [.p (.int .i64 (m + 2 * (i : Int))), .p (.int .i64 (m + 2 * (i : Int) + 1))]⟩)] (.p (.int .i64 (m + 2 * (v.1 : Int)))) := by
  refine con_start Try.func101 rfl (by kernel_rfl) rfl (fun c hc => ?_)
  have lp : ∀ q j, j + q = v.1 → Run Try.prog c 101 [.code (cAt (bodyOf Try.f101) [1, 0, 1, 0, 0]), .inLoop (cAt (bodyOf Try.f101) [1, 0, 1, 0, 0]), .inBlock 0, .code (cAt (bodyOf Try.f101) [1, 1])] (S_markBarS v m j) (Post c [(0, ⟨false, 2, v.1, fun i => [.p (.int .i64 (m + 2 * (i : Int))), .p (.int .i64 (m + 2 * (i : Int) + 1))]⟩)] (.p (.int .i64 (m + 2 * (v.1 : Int))))) := by
    intro q
    induction q with
    | zero =>
      intro j hj
      have e : j = v.1 := by omega
      have hd : decide ((j : Int) < (v.1 : Int)) = false := by simp; omega
      refine path_ok mixed Try.func101 hc (p_markBarS_c v m j) ?_
      simp only [All]
      repeat' (first | exact trivial | with_reducible apply And.intro)
      all_goals (first | omega | rfl | (intros; first | assumption | exact True.intro | rfl | exact absurd (show false = true by assumption) Bool.false_ne_true | ((repeat' (first | assumption | apply anda | apply notf)); done)) | (intro i hi; (have hik : i < j := by omega); simp [hik, All]) | (simp; try omega))
    | succ q ih =>
      intro j hj
      have hlt : decide ((j : Int) < (v.1 : Int)) = true := by simp; omega
      refine piece_ok mixed hc (p_markBarS_b0 v m j) ?_ ?_
      ·
        simp only [All]
        repeat' (first | exact trivial | with_reducible apply And.intro)
        all_goals (first | omega | rfl | (intros; first | assumption | exact True.intro | rfl | exact absurd (show false = true by assumption) Bool.false_ne_true | ((repeat' (first | assumption | apply anda | apply notf)); done)) | (intro i hi; by_cases h : i = j <;> simp [h, Nat.lt_succ_iff_lt_or_eq, cvtL, cvt, tg, tru, All]))
      refine piece_ok mixed hc (p_markBarS_b1 v m j) ?_ (ih (j + 1) (by omega))
      ·
        simp only [All]
        repeat' (first | exact trivial | with_reducible apply And.intro)
        all_goals (first | omega | rfl | (intros; first | assumption | exact True.intro | rfl | exact absurd (show false = true by assumption) Bool.false_ne_true | ((repeat' (first | assumption | apply anda | apply notf)); done)) | (intro i hi; by_cases h : i = j <;> simp [h, Nat.lt_succ_iff_lt_or_eq, cvtL, cvt, tg, tru, All]))
  refine piece_ok mixed hc (p_markBarS_a v m) ?_ (lp v.1 0 (by omega))
  simp only [All]
  repeat' (first | exact trivial | with_reducible apply And.intro)
  all_goals (first | omega | rfl | (intros; first | assumption | exact True.intro | rfl | exact absurd (show false = true by assumption) Bool.false_ne_true | ((repeat' (first | assumption | apply anda | apply notf)); done)) | (intro i hi; simp [All]))

theorem con_heldBarS (n : Nat) (m : Int) (hn : n ≤ 1048576) (h0 : 0 ≤ m) (h1 : m ≤ 1099511627776) : Con Try.prog 116 0 [] [.p (.seq true 2 n (fun i => [.int .i64 (m + 2 * (i : Int)), .int .i64 (m + 2 * (i : Int) + 1)])), .p (.int .i64 m)] [] (.p (.int .i64 (m + 2 * (n : Int)))) := by
  refine con_start Try.func116 rfl (by kernel_rfl) rfl (fun c hc => ?_)
  have lp : ∀ q j, j + q = n → Run Try.prog c 116 [.code (cAt (bodyOf Try.f116) [1, 0, 1, 0, 0]), .inLoop (cAt (bodyOf Try.f116) [1, 0, 1, 0, 0]), .inBlock 0, .code (cAt (bodyOf Try.f116) [1, 1])] (S_heldBarS n m j) (Post c [] (.p (.int .i64 (m + 2 * (n : Int))))) := by
    intro q
    induction q with
    | zero =>
      intro j hj
      have hd : decide ((j : Int) < (n : Int)) = false := by simp; omega
      refine path_ok mixed Try.func116 hc (p_heldBarS_c n m j) ?_
      simp only [All]
      repeat' (first | exact trivial | with_reducible apply And.intro)
      all_goals (first | omega | rfl | (intros; first | assumption | exact True.intro | rfl | exact absurd (show false = true by assumption) Bool.false_ne_true | ((repeat' (first | assumption | apply anda | apply notf)); done)) | (simp; try omega))
    | succ q ih =>
      intro j hj
      have hlt : decide ((j : Int) < (n : Int)) = true := by simp; omega
      refine piece_ok mixed hc (p_heldBarS_b n m j) ?_ (ih (j + 1) (by omega))
      simp only [All]
      repeat' (first | exact trivial | with_reducible apply And.intro)
      all_goals (first | omega | rfl | (intros; first | assumption | exact True.intro | rfl | exact absurd (show false = true by assumption) Bool.false_ne_true | ((repeat' (first | assumption | apply anda | apply notf)); done)) | simp)
  refine piece_ok mixed hc (p_heldBarS_a n m) ?_ (lp n 0 (by omega))
  simp only [All]
  repeat' (first | exact trivial | with_reducible apply And.intro)
  all_goals (first | omega | rfl | (intros; first | assumption | exact True.intro | rfl | exact absurd (show false = true by assumption) Bool.false_ne_true | ((repeat' (first | assumption | apply anda | apply notf)); done)) | simp)

theorem con_markStringS0 (g : Nat → List PV) (m : Int) (h0 : 0 ≤ m) (h1 : m ≤ 1099511627776) : Con Try.prog 73 0 [] [.p (.seq true 1 0 g), .p (.int .i64 m)] [] (.p (.int .i64 m)) := by
  refine con_start Try.func73 rfl (by kernel_rfl) rfl (fun c hc => ?_)
  refine path_ok mixed Try.func73 hc (p_markStringS_0 g m) ?_
  simp only [All]
  repeat' (first | exact trivial | with_reducible apply And.intro)
  all_goals (first | omega | rfl | (intros; first | assumption | exact True.intro | rfl | exact absurd (show false = true by assumption) Bool.false_ne_true | ((repeat' (first | assumption | apply anda | apply notf)); done)) | simp)

theorem con_heldStringS0 (g : Nat → List PV) (m : Int) (h0 : 0 ≤ m) (h1 : m ≤ 1099511627776) : Con Try.prog 75 0 [] [.p (.seq true 1 0 g), .p (.int .i64 m)] [] (.p (.int .i64 m)) := by
  refine con_start Try.func75 rfl (by kernel_rfl) rfl (fun c hc => ?_)
  refine path_ok mixed Try.func75 hc (p_heldStringS_0 g m) ?_
  simp only [All]
  repeat' (first | exact trivial | with_reducible apply And.intro)
  all_goals (first | omega | rfl | (intros; first | assumption | exact True.intro | rfl | exact absurd (show false = true by assumption) Bool.false_ne_true | ((repeat' (first | assumption | apply anda | apply notf)); done)) | simp)

theorem con_markGraph (v : T_Graph) (m : Int) (h_0 : v.2.1.1 ≤ 1048576) (h0 : 0 ≤ m) (h1 : m ≤ 1099494850560) : Con Try.prog 71 1 [(0, ⟨false, 2, v.2.1.1, fun i => [.p (.int .i64 ((v.2.1.2 i).1)), .p (.int .i64 ((v.2.1.2 i).2.1))]⟩)] [.agg [.p (.int .i64 (v.1)), .ar 2 0 0 v.2.1.1], .p (.int .i64 m)] [(0, ⟨false, 2, v.2.1.1, fun i => [.p (.int .i64 (m + 2 * (i : Int))), .p (.int .i64 (m + 2 * (i : Int) + 1))]⟩)] (.p (.int .i64 (m + 2 * (v.2.1.1 : Int)))) := by
  refine con_start Try.func71 rfl (by kernel_rfl) rfl (fun c hc => ?_)
  refine path_ok mixed Try.func71 hc (p_markGraph v m) ?_
  simp only [All]
  repeat' (first | exact trivial | with_reducible apply And.intro)
  all_goals (first | omega | rfl | (intros; first | assumption | exact True.intro | rfl | exact absurd (show false = true by assumption) Bool.false_ne_true | ((repeat' (first | assumption | apply anda | apply notf)); done)) | (exact con_markBarS v.2.1 _ h_0 (by omega) (by omega)) | (intro i hi; simp [All]))

theorem con_heldGraph (v : T_Graph) (m : Int) (h_0 : v.2.1.1 ≤ 1048576) (h0 : 0 ≤ m) (h1 : m ≤ 1099494850560) : Con Try.prog 103 0 [] [.agg [.p (.int .i64 (v.1)), .p (.seq true 2 v.2.1.1 (fun i => [.int .i64 (m + 2 * (i : Int)), .int .i64 (m + 2 * (i : Int) + 1)]))], .p (.int .i64 m)] [] (.p (.int .i64 (m + 2 * (v.2.1.1 : Int)))) := by
  refine con_start Try.func103 rfl (by kernel_rfl) rfl (fun c hc => ?_)
  refine path_ok mixed Try.func103 hc (p_heldGraph v m) ?_
  simp only [All]
  repeat' (first | exact trivial | with_reducible apply And.intro)
  all_goals (first | omega | rfl | (intros; first | assumption | exact True.intro | rfl | exact absurd (show false = true by assumption) Bool.false_ne_true | ((repeat' (first | assumption | apply anda | apply notf)); done)) | (exact con_heldBarS v.2.1.1 _ h_0 (by omega) (by omega)) | (simp; omega))

theorem con_markPinned (v : T_Pinned) (m : Int) (h_0 : v.1.2.1.1 ≤ 1048576) (h_1 : v.2.1.1 ≤ 1048576) (h0 : 0 ≤ m) (h1 : m ≤ 1099478073344) : Con Try.prog 33 2 [(0, ⟨false, 2, v.1.2.1.1, fun i => [.p (.int .i64 ((v.1.2.1.2 i).1)), .p (.int .i64 ((v.1.2.1.2 i).2.1))]⟩), (1, ⟨false, 1, v.2.1.1, fun i => [.p (.int .i64 ((v.2.1.2 i)))]⟩)] [.agg [.p (.int .i64 (v.1.1)), .ar 2 0 0 v.1.2.1.1, .ar 1 1 0 v.2.1.1], .p (.int .i64 m)] [(0, ⟨false, 2, v.1.2.1.1, fun i => [.p (.int .i64 (m + 2 * (i : Int))), .p (.int .i64 (m + 2 * (i : Int) + 1))]⟩), (1, ⟨false, 1, v.2.1.1, fun i => [.p (.int .i64 (m + 2 * (v.1.2.1.1 : Int) + (i : Int)))]⟩)] (.p (.int .i64 (m + 2 * (v.1.2.1.1 : Int) + (v.2.1.1 : Int)))) := by
  refine con_start Try.func33 rfl (by kernel_rfl) rfl (fun c hc => ?_)
  refine path_ok mixed Try.func33 hc (p_markPinned v m) ?_
  simp only [All]
  repeat' (first | exact trivial | with_reducible apply And.intro)
  all_goals (first | omega | rfl | (intros; first | assumption | exact True.intro | rfl | exact absurd (show false = true by assumption) Bool.false_ne_true | ((repeat' (first | assumption | apply anda | apply notf)); done)) | (exact con_markGraph v.1 _ h_0 (by omega) (by omega)) | (exact con_markIntS v.2.1 _ h_1 (by omega) (by omega)) | (intro i hi; simp [All]))

theorem con_heldPinned (v : T_Pinned) (m : Int) (h_0 : v.1.2.1.1 ≤ 1048576) (h_1 : v.2.1.1 ≤ 1048576) (h0 : 0 ≤ m) (h1 : m ≤ 1099478073344) : Con Try.prog 74 0 [] [.agg [.p (.int .i64 (v.1.1)), .p (.seq true 2 v.1.2.1.1 (fun i => [.int .i64 (m + 2 * (i : Int)), .int .i64 (m + 2 * (i : Int) + 1)])), .p (.seq true 1 v.2.1.1 (fun i => [.int .i64 (m + 2 * (v.1.2.1.1 : Int) + (i : Int))]))], .p (.int .i64 m)] [] (.p (.int .i64 (m + 2 * (v.1.2.1.1 : Int) + (v.2.1.1 : Int)))) := by
  refine con_start Try.func74 rfl (by kernel_rfl) rfl (fun c hc => ?_)
  refine path_ok mixed Try.func74 hc (p_heldPinned v m) ?_
  simp only [All]
  repeat' (first | exact trivial | with_reducible apply And.intro)
  all_goals (first | omega | rfl | (intros; first | assumption | exact True.intro | rfl | exact absurd (show false = true by assumption) Bool.false_ne_true | ((repeat' (first | assumption | apply anda | apply notf)); done)) | (exact con_heldGraph v.1 _ h_0 (by omega) (by omega)) | (exact con_heldIntS v.2.1.1 _ h_1 (by omega) (by omega)) | (simp; omega))

theorem con_markSite (v : T_Site) (m : Int) (h_0 : v.1.1.2.1.1 ≤ 1048576) (h_1 : v.1.2.1.1 ≤ 1048576) (h0 : 0 ≤ m) (h1 : m ≤ 1099461296128) : Con Try.prog 34 2 [(0, ⟨false, 2, v.1.1.2.1.1, fun i => [.p (.int .i64 ((v.1.1.2.1.2 i).1)), .p (.int .i64 ((v.1.1.2.1.2 i).2.1))]⟩), (1, ⟨false, 1, v.1.2.1.1, fun i => [.p (.int .i64 ((v.1.2.1.2 i)))]⟩)] [.agg [.p (.int .i64 (v.1.1.1)), .ar 2 0 0 v.1.1.2.1.1, .ar 1 1 0 v.1.2.1.1, .p (.seq true 1 0 (fun i => [.str (v.2.1.2 i)]))], .p (.int .i64 m)] [(0, ⟨false, 2, v.1.1.2.1.1, fun i => [.p (.int .i64 (m + 2 * (i : Int))), .p (.int .i64 (m + 2 * (i : Int) + 1))]⟩), (1, ⟨false, 1, v.1.2.1.1, fun i => [.p (.int .i64 (m + 2 * (v.1.1.2.1.1 : Int) + (i : Int)))]⟩)] (.p (.int .i64 (m + 2 * (v.1.1.2.1.1 : Int) + (v.1.2.1.1 : Int)))) := by
  refine con_start Try.func34 rfl (by kernel_rfl) rfl (fun c hc => ?_)
  refine path_ok mixed Try.func34 hc (p_markSite v m) ?_
  simp only [All]
  repeat' (first | exact trivial | with_reducible apply And.intro)
  all_goals (first | omega | rfl | (intros; first | assumption | exact True.intro | rfl | exact absurd (show false = true by assumption) Bool.false_ne_true | ((repeat' (first | assumption | apply anda | apply notf)); done)) | (exact con_markPinned v.1 _ h_0 h_1 (by omega) (by omega)) | (exact con_markStringS0 _ _ (by omega) (by omega)) | (intro i hi; simp [All]))

theorem con_heldSite (v : T_Site) (m : Int) (h_0 : v.1.1.2.1.1 ≤ 1048576) (h_1 : v.1.2.1.1 ≤ 1048576) (h0 : 0 ≤ m) (h1 : m ≤ 1099461296128) : Con Try.prog 35 0 [] [.agg [.p (.int .i64 (v.1.1.1)), .p (.seq true 2 v.1.1.2.1.1 (fun i => [.int .i64 (m + 2 * (i : Int)), .int .i64 (m + 2 * (i : Int) + 1)])), .p (.seq true 1 v.1.2.1.1 (fun i => [.int .i64 (m + 2 * (v.1.1.2.1.1 : Int) + (i : Int))])), .p (.seq true 1 0 (fun i => [.str (v.2.1.2 i)]))], .p (.int .i64 m)] [] (.p (.int .i64 (m + 2 * (v.1.1.2.1.1 : Int) + (v.1.2.1.1 : Int)))) := by
  refine con_start Try.func35 rfl (by kernel_rfl) rfl (fun c hc => ?_)
  refine path_ok mixed Try.func35 hc (p_heldSite v m) ?_
  simp only [All]
  repeat' (first | exact trivial | with_reducible apply And.intro)
  all_goals (first | omega | rfl | (intros; first | assumption | exact True.intro | rfl | exact absurd (show false = true by assumption) Bool.false_ne_true | ((repeat' (first | assumption | apply anda | apply notf)); done)) | (exact con_heldPinned v.1 _ h_0 h_1 (by omega) (by omega)) | (exact con_heldStringS0 _ _ (by omega) (by omega)) | (simp; omega))

end Go.Proofs.Ytgddbgmnehkblab.Mach
