/- Contracts of uniform functions: how large, laid anew, equal to itself. Written by our own fam.py. Conditions: as each theorem says. -/
import Derived.Test.YtgddbgmnehkblaaFamGain
namespace Go.Proofs.Ytgddbgmnehkblaa.Mach
open Go
set_option linter.unusedVariables false
set_option linter.unusedSimpArgs false

def S_markGainBarS (v : T_GainBarS) (m : Int) (k : Nat) : St :=
  ⟨[.ar 4 0 0 v.1, .p (.int .i64 (m + 4 * (k : Int))), .p .any, .p .any, .p .any, .p (.int .i64 k)] ++ List.replicate 35 anyA, [(0, ⟨false, 4, v.1, fun i => [.p (.int .i64 (if i < k then m + 4 * (i : Int) else (v.2 i).1)), .p (.int .i64 (if i < k then m + 4 * (i : Int) + 1 else (v.2 i).2.1)), .p (.int .i64 (if i < k then m + 4 * (i : Int) + 2 else (v.2 i).2.2.1)), .p (.int .i64 (if i < k then m + 4 * (i : Int) + 3 else (v.2 i).2.2.2.1))]⟩)], 1⟩
def S_markGainBarS_1 (v : T_GainBarS) (m : Int) (k : Nat) : St :=
  ⟨[.ar 4 0 0 v.1, .p (.int .i64 (m + 4 * (k : Int) + 1)), .p .any, .p .any, .p .any, .p (.int .i64 k)] ++ List.replicate 35 anyA, [(0, ⟨false, 4, v.1, fun i => [.p (.int .i64 (if i < k + 1 then m + 4 * (i : Int) else (v.2 i).1)), .p (.int .i64 (if i < k then m + 4 * (i : Int) + 1 else (v.2 i).2.1)), .p (.int .i64 (if i < k then m + 4 * (i : Int) + 2 else (v.2 i).2.2.1)), .p (.int .i64 (if i < k then m + 4 * (i : Int) + 3 else (v.2 i).2.2.2.1))]⟩)], 1⟩
def S_markGainBarS_2 (v : T_GainBarS) (m : Int) (k : Nat) : St :=
  ⟨[.ar 4 0 0 v.1, .p (.int .i64 (m + 4 * (k : Int) + 2)), .p .any, .p .any, .p .any, .p (.int .i64 k)] ++ List.replicate 35 anyA, [(0, ⟨false, 4, v.1, fun i => [.p (.int .i64 (if i < k + 1 then m + 4 * (i : Int) else (v.2 i).1)), .p (.int .i64 (if i < k + 1 then m + 4 * (i : Int) + 1 else (v.2 i).2.1)), .p (.int .i64 (if i < k then m + 4 * (i : Int) + 2 else (v.2 i).2.2.1)), .p (.int .i64 (if i < k then m + 4 * (i : Int) + 3 else (v.2 i).2.2.2.1))]⟩)], 1⟩
def S_markGainBarS_3 (v : T_GainBarS) (m : Int) (k : Nat) : St :=
  ⟨[.ar 4 0 0 v.1, .p (.int .i64 (m + 4 * (k : Int) + 3)), .p .any, .p .any, .p .any, .p (.int .i64 k)] ++ List.replicate 35 anyA, [(0, ⟨false, 4, v.1, fun i => [.p (.int .i64 (if i < k + 1 then m + 4 * (i : Int) else (v.2 i).1)), .p (.int .i64 (if i < k + 1 then m + 4 * (i : Int) + 1 else (v.2 i).2.1)), .p (.int .i64 (if i < k + 1 then m + 4 * (i : Int) + 2 else (v.2 i).2.2.1)), .p (.int .i64 (if i < k then m + 4 * (i : Int) + 3 else (v.2 i).2.2.2.1))]⟩)], 1⟩
def S_heldGainBarS (n : Nat) (m : Int) (k : Nat) : St :=
  ⟨[.p (.seq true 4 n (fun i => [.int .i64 (m + 4 * (i : Int)), .int .i64 (m + 4 * (i : Int) + 1), .int .i64 (m + 4 * (i : Int) + 2), .int .i64 (m + 4 * (i : Int) + 3)])), .p (.int .i64 (m + 4 * (k : Int))), .p .any, .p .any, .p .any, .p (.int .i64 k)] ++ List.replicate 43 anyA, [], 0⟩

theorem p_markGainBarS_a (v : T_GainBarS) (m : Int) :
    pieceOb Try.prog 1 [.reg [oT], .reg [oT], .head] [.code (bodyOf Try.f45)] (start Try.f45 [(0, ⟨false, 4, v.1, fun i => [.p (.int .i64 ((v.2 i).1)), .p (.int .i64 ((v.2 i).2.1)), .p (.int .i64 ((v.2 i).2.2.1)), .p (.int .i64 ((v.2 i).2.2.2.1))]⟩)] 1 [.ar 4 0 0 v.1, .p (.int .i64 m)]) [0] 1 (S_markGainBarS v m 0) =
    some ([.code (cAt (bodyOf Try.f45) [1, 0, 1, 0, 0]), .inLoop (cAt (bodyOf Try.f45) [1, 0, 1, 0, 0]), .inBlock 0, .code (cAt (bodyOf Try.f45) [1, 1])], [((0 : Nat) = 0),
  (((v.fst) : Nat) = (v.fst)),
  (((m) : Int) = (m + 4 * (↑0 : Int))),
  ((0 : Int) = ((↑0 : Int))),
  ((4 : Nat) = 4),
  (((v.fst) : Nat) ≤ (v.fst)),
  (∀ i : Nat, ((((i) : Nat) < (v.fst)) → (All [] ∧ (([.p (.int .i64 ((v.snd i).fst)), .p (.int .i64 ((v.snd i).snd.fst)), .p (.int .i64 ((v.snd i).snd.snd.fst)), .p (.int .i64 ((v.snd i).snd.snd.snd.fst))] : List AV) = [.p (.int .i64 (if i < 0 then m + 4 * (↑i : Int) else (v.snd i).fst)), .p (.int .i64 (if i < 0 then m + 4 * (↑i : Int) + 1 else (v.snd i).snd.fst)), .p (.int .i64 (if i < 0 then m + 4 * (↑i : Int) + 2 else (v.snd i).snd.snd.fst)), .p (.int .i64 (if i < 0 then m + 4 * (↑i : Int) + 3 else (v.snd i).snd.snd.snd.fst))]))))]) := by kernel_rfl

theorem p_markGainBarS_b0 (v : T_GainBarS) (m : Int) (k : Nat) :
    pieceOb Try.prog 1 [.reg [oT, oT, oT, oT], .dec true, .reg [oT, oT, oT, oT, oT, oT], .reg [oT, oT, oT], .head] [.code (cAt (bodyOf Try.f45) [1, 0, 1, 0, 0]), .inLoop (cAt (bodyOf Try.f45) [1, 0, 1, 0, 0]), .inBlock 0, .code (cAt (bodyOf Try.f45) [1, 1])] (S_markGainBarS v m k) [0] 1 (S_markGainBarS_1 v m k) =
    some ([.code (cAt (bodyOf Try.f45) [1, 0, 1, 0, 0, 1, 0, 0, 1, 1, 0]), .code (cAt (bodyOf Try.f45) [1, 0, 1, 0, 0, 1, 0, 0, 1, 1, 1]), .inBlock 1, .code (cAt (bodyOf Try.f45) [1, 0, 1, 0, 0, 1, 1]), .inLoop (cAt (bodyOf Try.f45) [1, 0, 1, 0, 0]), .inBlock 0, .code (cAt (bodyOf Try.f45) [1, 1])], [((decide ((↑k : Int) < (↑v.fst : Int))) = true),
  ((0 : Int) ≤ ((↑k : Int))),
  ((((↑k : Int)) : Int) < ((↑v.fst : Int))),
  (((k) : Nat) < (v.fst)),
  (((false) = true) → (((v.fst) : Nat) = 1)),
  (((-9223372036854775808) : Int) ≤ (m + 4 * (↑k : Int) + 1)),
  (((m + 4 * (↑k : Int) + 1) : Int) ≤ 9223372036854775807),
  ((0 : Nat) = 0),
  (((v.fst) : Nat) = (v.fst)),
  (((m + 4 * (↑k : Int) + 1) : Int) = (m + 4 * (↑k : Int) + 1)),
  ((((↑k : Int)) : Int) = ((↑k : Int))),
  ((4 : Nat) = 4),
  (((v.fst) : Nat) ≤ (v.fst)),
  (∀ i : Nat, ((((i) : Nat) < (v.fst)) → (All (cvtL false [(0, ⟨false, 4, (v.fst), (fun i_1 => (if (i_1 = k) then [.p (.int .i64 (m + 4 * (↑k : Int))), .p (.int .i64 (if (↑k : Int).toNat + 0 < k then m + 4 * (↑k : Int) + 1 else (v.snd k).snd.fst)), .p (.int .i64 (if (↑k : Int).toNat + 0 < k then m + 4 * (↑k : Int) + 2 else (v.snd k).snd.snd.fst)), .p (.int .i64 (if (↑k : Int).toNat + 0 < k then m + 4 * (↑k : Int) + 3 else (v.snd k).snd.snd.snd.fst))] else [.p (.int .i64 (if i_1 < k then m + 4 * (↑i_1 : Int) else (v.snd i_1).fst)), .p (.int .i64 (if i_1 < k then m + 4 * (↑i_1 : Int) + 1 else (v.snd i_1).snd.fst)), .p (.int .i64 (if i_1 < k then m + 4 * (↑i_1 : Int) + 2 else (v.snd i_1).snd.snd.fst)), .p (.int .i64 (if i_1 < k then m + 4 * (↑i_1 : Int) + 3 else (v.snd i_1).snd.snd.snd.fst))]))⟩)] [0] 1 (if (i = k) then [.p (.int .i64 (m + 4 * (↑k : Int))), .p (.int .i64 (if (↑k : Int).toNat + 0 < k then m + 4 * (↑k : Int) + 1 else (v.snd k).snd.fst)), .p (.int .i64 (if (↑k : Int).toNat + 0 < k then m + 4 * (↑k : Int) + 2 else (v.snd k).snd.snd.fst)), .p (.int .i64 (if (↑k : Int).toNat + 0 < k then m + 4 * (↑k : Int) + 3 else (v.snd k).snd.snd.snd.fst))] else [.p (.int .i64 (if i < k then m + 4 * (↑i : Int) else (v.snd i).fst)), .p (.int .i64 (if i < k then m + 4 * (↑i : Int) + 1 else (v.snd i).snd.fst)), .p (.int .i64 (if i < k then m + 4 * (↑i : Int) + 2 else (v.snd i).snd.snd.fst)), .p (.int .i64 (if i < k then m + 4 * (↑i : Int) + 3 else (v.snd i).snd.snd.snd.fst))])).2 ∧ (((cvtL false [(0, ⟨false, 4, (v.fst), (fun i_1 => (if (i_1 = k) then [.p (.int .i64 (m + 4 * (↑k : Int))), .p (.int .i64 (if (↑k : Int).toNat + 0 < k then m + 4 * (↑k : Int) + 1 else (v.snd k).snd.fst)), .p (.int .i64 (if (↑k : Int).toNat + 0 < k then m + 4 * (↑k : Int) + 2 else (v.snd k).snd.snd.fst)), .p (.int .i64 (if (↑k : Int).toNat + 0 < k then m + 4 * (↑k : Int) + 3 else (v.snd k).snd.snd.snd.fst))] else [.p (.int .i64 (if i_1 < k then m + 4 * (↑i_1 : Int) else (v.snd i_1).fst)), .p (.int .i64 (if i_1 < k then m + 4 * (↑i_1 : Int) + 1 else (v.snd i_1).snd.fst)), .p (.int .i64 (if i_1 < k then m + 4 * (↑i_1 : Int) + 2 else (v.snd i_1).snd.snd.fst)), .p (.int .i64 (if i_1 < k then m + 4 * (↑i_1 : Int) + 3 else (v.snd i_1).snd.snd.snd.fst))]))⟩)] [0] 1 (if (i = k) then [.p (.int .i64 (m + 4 * (↑k : Int))), .p (.int .i64 (if (↑k : Int).toNat + 0 < k then m + 4 * (↑k : Int) + 1 else (v.snd k).snd.fst)), .p (.int .i64 (if (↑k : Int).toNat + 0 < k then m + 4 * (↑k : Int) + 2 else (v.snd k).snd.snd.fst)), .p (.int .i64 (if (↑k : Int).toNat + 0 < k then m + 4 * (↑k : Int) + 3 else (v.snd k).snd.snd.snd.fst))] else [.p (.int .i64 (if i < k then m + 4 * (↑i : Int) else (v.snd i).fst)), .p (.int .i64 (if i < k then m + 4 * (↑i : Int) + 1 else (v.snd i).snd.fst)), .p (.int .i64 (if i < k then m + 4 * (↑i : Int) + 2 else (v.snd i).snd.snd.fst)), .p (.int .i64 (if i < k then m + 4 * (↑i : Int) + 3 else (v.snd i).snd.snd.snd.fst))])).1 : List AV) = [.p (.int .i64 (if i < k + 1 then m + 4 * (↑i : Int) else (v.snd i).fst)), .p (.int .i64 (if i < k then m + 4 * (↑i : Int) + 1 else (v.snd i).snd.fst)), .p (.int .i64 (if i < k then m + 4 * (↑i : Int) + 2 else (v.snd i).snd.snd.fst)), .p (.int .i64 (if i < k then m + 4 * (↑i : Int) + 3 else (v.snd i).snd.snd.snd.fst))]))))]) := by kernel_rfl

theorem p_markGainBarS_b1 (v : T_GainBarS) (m : Int) (k : Nat) :
    pieceOb Try.prog 1 [.reg [oT, oT, oT, oT, oT, oT], .reg [oT, oT, oT], .head] [.code (cAt (bodyOf Try.f45) [1, 0, 1, 0, 0, 1, 0, 0, 1, 1, 0]), .code (cAt (bodyOf Try.f45) [1, 0, 1, 0, 0, 1, 0, 0, 1, 1, 1]), .inBlock 1, .code (cAt (bodyOf Try.f45) [1, 0, 1, 0, 0, 1, 1]), .inLoop (cAt (bodyOf Try.f45) [1, 0, 1, 0, 0]), .inBlock 0, .code (cAt (bodyOf Try.f45) [1, 1])] (S_markGainBarS_1 v m k) [0] 1 (S_markGainBarS_2 v m k) =
    some ([.code (cAt (bodyOf Try.f45) [1, 0, 1, 0, 0, 1, 0, 0, 1, 1, 1, 1, 0]), .code (cAt (bodyOf Try.f45) [1, 0, 1, 0, 0, 1, 0, 0, 1, 1, 1, 1, 1]), .inBlock 1, .code (cAt (bodyOf Try.f45) [1, 0, 1, 0, 0, 1, 1]), .inLoop (cAt (bodyOf Try.f45) [1, 0, 1, 0, 0]), .inBlock 0, .code (cAt (bodyOf Try.f45) [1, 1])], [((0 : Int) ≤ ((↑k : Int))),
  ((((↑k : Int)) : Int) < ((↑v.fst : Int))),
  (((k) : Nat) < (v.fst)),
  (((false) = true) → (((v.fst) : Nat) = 1)),
  (((-9223372036854775808) : Int) ≤ (m + 4 * (↑k : Int) + 1 + 1)),
  (((m + 4 * (↑k : Int) + 1 + 1) : Int) ≤ 9223372036854775807),
  ((0 : Nat) = 0),
  (((v.fst) : Nat) = (v.fst)),
  (((m + 4 * (↑k : Int) + 1 + 1) : Int) = (m + 4 * (↑k : Int) + 2)),
  ((((↑k : Int)) : Int) = ((↑k : Int))),
  ((4 : Nat) = 4),
  (((v.fst) : Nat) ≤ (v.fst)),
  (∀ i : Nat, ((((i) : Nat) < (v.fst)) → (All (cvtL false [(0, ⟨false, 4, (v.fst), (fun i_1 => (if (i_1 = k) then [.p (.int .i64 (if (↑k : Int).toNat + 0 < k + 1 then m + 4 * (↑k : Int) else (v.snd k).fst)), .p (.int .i64 (m + 4 * (↑k : Int) + 1)), .p (.int .i64 (if (↑k : Int).toNat + 0 < k then m + 4 * (↑k : Int) + 2 else (v.snd k).snd.snd.fst)), .p (.int .i64 (if (↑k : Int).toNat + 0 < k then m + 4 * (↑k : Int) + 3 else (v.snd k).snd.snd.snd.fst))] else [.p (.int .i64 (if i_1 < k + 1 then m + 4 * (↑i_1 : Int) else (v.snd i_1).fst)), .p (.int .i64 (if i_1 < k then m + 4 * (↑i_1 : Int) + 1 else (v.snd i_1).snd.fst)), .p (.int .i64 (if i_1 < k then m + 4 * (↑i_1 : Int) + 2 else (v.snd i_1).snd.snd.fst)), .p (.int .i64 (if i_1 < k then m + 4 * (↑i_1 : Int) + 3 else (v.snd i_1).snd.snd.snd.fst))]))⟩)] [0] 1 (if (i = k) then [.p (.int .i64 (if (↑k : Int).toNat + 0 < k + 1 then m + 4 * (↑k : Int) else (v.snd k).fst)), .p (.int .i64 (m + 4 * (↑k : Int) + 1)), .p (.int .i64 (if (↑k : Int).toNat + 0 < k then m + 4 * (↑k : Int) + 2 else (v.snd k).snd.snd.fst)), .p (.int .i64 (if (↑k : Int).toNat + 0 < k then m + 4 * (↑k : Int) + 3 else (v.snd k).snd.snd.snd.fst))] else [.p (.int .i64 (if i < k + 1 then m + 4 * (↑i : Int) else (v.snd i).fst)), .p (.int .i64 (if i < k then m + 4 * (↑i : Int) + 1 else (v.snd i).snd.fst)), .p (.int .i64 (if i < k then m + 4 * (↑i : Int) + 2 else (v.snd i).snd.snd.fst)), .p (.int .i64 (if i < k then m + 4 * (↑i : Int) + 3 else (v.snd i).snd.snd.snd.fst))])).2 ∧ (((cvtL false [(0, ⟨false, 4, (v.fst), (fun i_1 => (if (i_1 = k) then [.p (.int .i64 (if (↑k : Int).toNat + 0 < k + 1 then m + 4 * (↑k : Int) else (v.snd k).fst)), .p (.int .i64 (m + 4 * (↑k : Int) + 1)), .p (.int .i64 (if (↑k : Int).toNat + 0 < k then m + 4 * (↑k : Int) + 2 else (v.snd k).snd.snd.fst)), .p (.int .i64 (if (↑k : Int).toNat + 0 < k then m + 4 * (↑k : Int) + 3 else (v.snd k).snd.snd.snd.fst))] else [.p (.int .i64 (if i_1 < k + 1 then m + 4 * (↑i_1 : Int) else (v.snd i_1).fst)), .p (.int .i64 (if i_1 < k then m + 4 * (↑i_1 : Int) + 1 else (v.snd i_1).snd.fst)), .p (.int .i64 (if i_1 < k then m + 4 * (↑i_1 : Int) + 2 else (v.snd i_1).snd.snd.fst)), .p (.int .i64 (if i_1 < k then m + 4 * (↑i_1 : Int) + 3 else (v.snd i_1).snd.snd.snd.fst))]))⟩)] [0] 1 (if (i = k) then [.p (.int .i64 (if (↑k : Int).toNat + 0 < k + 1 then m + 4 * (↑k : Int) else (v.snd k).fst)), .p (.int .i64 (m + 4 * (↑k : Int) + 1)), .p (.int .i64 (if (↑k : Int).toNat + 0 < k then m + 4 * (↑k : Int) + 2 else (v.snd k).snd.snd.fst)), .p (.int .i64 (if (↑k : Int).toNat + 0 < k then m + 4 * (↑k : Int) + 3 else (v.snd k).snd.snd.snd.fst))] else [.p (.int .i64 (if i < k + 1 then m + 4 * (↑i : Int) else (v.snd i).fst)), .p (.int .i64 (if i < k then m + 4 * (↑i : Int) + 1 else (v.snd i).snd.fst)), .p (.int .i64 (if i < k then m + 4 * (↑i : Int) + 2 else (v.snd i).snd.snd.fst)), .p (.int .i64 (if i < k then m + 4 * (↑i : Int) + 3 else (v.snd i).snd.snd.snd.fst))])).1 : List AV) = [.p (.int .i64 (if i < k + 1 then m + 4 * (↑i : Int) else (v.snd i).fst)), .p (.int .i64 (if i < k + 1 then m + 4 * (↑i : Int) + 1 else (v.snd i).snd.fst)), .p (.int .i64 (if i < k then m + 4 * (↑i : Int) + 2 else (v.snd i).snd.snd.fst)), .p (.int .i64 (if i < k then m + 4 * (↑i : Int) + 3 else (v.snd i).snd.snd.snd.fst))]))))]) := by kernel_rfl

theorem p_markGainBarS_b2 (v : T_GainBarS) (m : Int) (k : Nat) :
    pieceOb Try.prog 1 [.reg [oT, oT, oT, oT, oT, oT], .reg [oT, oT, oT], .head] [.code (cAt (bodyOf Try.f45) [1, 0, 1, 0, 0, 1, 0, 0, 1, 1, 1, 1, 0]), .code (cAt (bodyOf Try.f45) [1, 0, 1, 0, 0, 1, 0, 0, 1, 1, 1, 1, 1]), .inBlock 1, .code (cAt (bodyOf Try.f45) [1, 0, 1, 0, 0, 1, 1]), .inLoop (cAt (bodyOf Try.f45) [1, 0, 1, 0, 0]), .inBlock 0, .code (cAt (bodyOf Try.f45) [1, 1])] (S_markGainBarS_2 v m k) [0] 1 (S_markGainBarS_3 v m k) =
    some ([.code (cAt (bodyOf Try.f45) [1, 0, 1, 0, 0, 1, 0, 0, 1, 1, 1, 1, 1, 1, 0]), .code (cAt (bodyOf Try.f45) [1, 0, 1, 0, 0, 1, 0, 0, 1, 1, 1, 1, 1, 1, 1]), .inBlock 1, .code (cAt (bodyOf Try.f45) [1, 0, 1, 0, 0, 1, 1]), .inLoop (cAt (bodyOf Try.f45) [1, 0, 1, 0, 0]), .inBlock 0, .code (cAt (bodyOf Try.f45) [1, 1])], [((0 : Int) ≤ ((↑k : Int))),
  ((((↑k : Int)) : Int) < ((↑v.fst : Int))),
  (((k) : Nat) < (v.fst)),
  (((false) = true) → (((v.fst) : Nat) = 1)),
  (((-9223372036854775808) : Int) ≤ (m + 4 * (↑k : Int) + 2 + 1)),
  (((m + 4 * (↑k : Int) + 2 + 1) : Int) ≤ 9223372036854775807),
  ((0 : Nat) = 0),
  (((v.fst) : Nat) = (v.fst)),
  (((m + 4 * (↑k : Int) + 2 + 1) : Int) = (m + 4 * (↑k : Int) + 3)),
  ((((↑k : Int)) : Int) = ((↑k : Int))),
  ((4 : Nat) = 4),
  (((v.fst) : Nat) ≤ (v.fst)),
  (∀ i : Nat, ((((i) : Nat) < (v.fst)) → (All (cvtL false [(0, ⟨false, 4, (v.fst), (fun i_1 => (if (i_1 = k) then [.p (.int .i64 (if (↑k : Int).toNat + 0 < k + 1 then m + 4 * (↑k : Int) else (v.snd k).fst)), .p (.int .i64 (if (↑k : Int).toNat + 0 < k + 1 then m + 4 * (↑k : Int) + 1 else (v.snd k).snd.fst)), .p (.int .i64 (m + 4 * (↑k : Int) + 2)), .p (.int .i64 (if (↑k : Int).toNat + 0 < k then m + 4 * (↑k : Int) + 3 else (v.snd k).snd.snd.snd.fst))] else [.p (.int .i64 (if i_1 < k + 1 then m + 4 * (↑i_1 : Int) else (v.snd i_1).fst)), .p (.int .i64 (if i_1 < k + 1 then m + 4 * (↑i_1 : Int) + 1 else (v.snd i_1).snd.fst)), .p (.int .i64 (if i_1 < k then m + 4 * (↑i_1 : Int) + 2 else (v.snd i_1).snd.snd.fst)), .p (.int .i64 (if i_1 < k then m + 4 * (↑i_1 : Int) + 3 else (v.snd i_1).snd.snd.snd.fst))]))⟩)] [0] 1 (if (i = k) then [.p (.int .i64 (if (↑k : Int).toNat + 0 < k + 1 then m + 4 * (↑k : Int) else (v.snd k).fst)), .p (.int .i64 (if (↑k : Int).toNat + 0 < k + 1 then m + 4 * (↑k : Int) + 1 else (v.snd k).snd.fst)), .p (.int .i64 (m + 4 * (↑k : Int) + 2)), .p (.int .i64 (if (↑k : Int).toNat + 0 < k then m + 4 * (↑k : Int) + 3 else (v.snd k).snd.snd.snd.fst))] else [.p (.int .i64 (if i < k + 1 then m + 4 * (↑i : Int) else (v.snd i).fst)), .p (.int .i64 (if i < k + 1 then m + 4 * (↑i : Int) + 1 else (v.snd i).snd.fst)), .p (.int .i64 (if i < k then m + 4 * (↑i : Int) + 2 else (v.snd i).snd.snd.fst)), .p (.int .i64 (if i < k then m + 4 * (↑i : Int) + 3 else (v.snd i).snd.snd.snd.fst))])).2 ∧ (((cvtL false [(0, ⟨false, 4, (v.fst), (fun i_1 => (if (i_1 = k) then [.p (.int .i64 (if (↑k : Int).toNat + 0 < k + 1 then m + 4 * (↑k : Int) else (v.snd k).fst)), .p (.int .i64 (if (↑k : Int).toNat + 0 < k + 1 then m + 4 * (↑k : Int) + 1 else (v.snd k).snd.fst)), .p (.int .i64 (m + 4 * (↑k : Int) + 2)), .p (.int .i64 (if (↑k : Int).toNat + 0 < k then m + 4 * (↑k : Int) + 3 else (v.snd k).snd.snd.snd.fst))] else [.p (.int .i64 (if i_1 < k + 1 then m + 4 * (↑i_1 : Int) else (v.snd i_1).fst)), .p (.int .i64 (if i_1 < k + 1 then m + 4 * (↑i_1 : Int) + 1 else (v.snd i_1).snd.fst)), .p (.int .i64 (if i_1 < k then m + 4 * (↑i_1 : Int) + 2 else (v.snd i_1).snd.snd.fst)), .p (.int .i64 (if i_1 < k then m + 4 * (↑i_1 : Int) + 3 else (v.snd i_1).snd.snd.snd.fst))]))⟩)] [0] 1 (if (i = k) then [.p (.int .i64 (if (↑k : Int).toNat + 0 < k + 1 then m + 4 * (↑k : Int) else (v.snd k).fst)), .p (.int .i64 (if (↑k : Int).toNat + 0 < k + 1 then m + 4 * (↑k : Int) + 1 else (v.snd k).snd.fst)), .p (.int .i64 (m + 4 * (↑k : Int) + 2)), .p (.int .i64 (if (↑k : Int).toNat + 0 < k then m + 4 * (↑k : Int) + 3 else (v.snd k).snd.snd.snd.fst))] else [.p (.int .i64 (if i < k + 1 then m + 4 * (↑i : Int) else (v.snd i).fst)), .p (.int .i64 (if i < k + 1 then m + 4 * (↑i : Int) + 1 else (v.snd i).snd.fst)), .p (.int .i64 (if i < k then m + 4 * (↑i : Int) + 2 else (v.snd i).snd.snd.fst)), .p (.int .i64 (if i < k then m + 4 * (↑i : Int) + 3 else (v.snd i).snd.snd.snd.fst))])).1 : List AV) = [.p (.int .i64 (if i < k + 1 then m + 4 * (↑i : Int) else (v.snd i).fst)), .p (.int .i64 (if i < k + 1 then m + 4 * (↑i : Int) + 1 else (v.snd i).snd.fst)), .p (.int .i64 (if i < k + 1 then m + 4 * (↑i : Int) + 2 else (v.snd i).snd.snd.fst)), .p (.int .i64 (if i < k then m + 4 * (↑i : Int) + 3 else (v.snd i).snd.snd.snd.fst))]))))]) := by kernel_rfl

theorem p_markGainBarS_b3 (v : T_GainBarS) (m : Int) (k : Nat) :
    pieceOb Try.prog 1 [.reg [oT, oT, oT, oT, oT, oT], .reg [oT, oT, oT], .reg [oT, oT, oT], .head] [.code (cAt (bodyOf Try.f45) [1, 0, 1, 0, 0, 1, 0, 0, 1, 1, 1, 1, 1, 1, 0]), .code (cAt (bodyOf Try.f45) [1, 0, 1, 0, 0, 1, 0, 0, 1, 1, 1, 1, 1, 1, 1]), .inBlock 1, .code (cAt (bodyOf Try.f45) [1, 0, 1, 0, 0, 1, 1]), .inLoop (cAt (bodyOf Try.f45) [1, 0, 1, 0, 0]), .inBlock 0, .code (cAt (bodyOf Try.f45) [1, 1])] (S_markGainBarS_3 v m k) [0] 1 (S_markGainBarS v m (k + 1)) =
    some ([.code (cAt (bodyOf Try.f45) [1, 0, 1, 0, 0]), .inLoop (cAt (bodyOf Try.f45) [1, 0, 1, 0, 0]), .inBlock 0, .code (cAt (bodyOf Try.f45) [1, 1])], [((0 : Int) ≤ ((↑k : Int))),
  ((((↑k : Int)) : Int) < ((↑v.fst : Int))),
  (((k) : Nat) < (v.fst)),
  (((false) = true) → (((v.fst) : Nat) = 1)),
  (((-9223372036854775808) : Int) ≤ (m + 4 * (↑k : Int) + 3 + 1)),
  (((m + 4 * (↑k : Int) + 3 + 1) : Int) ≤ 9223372036854775807),
  (((-9223372036854775808) : Int) ≤ ((↑k : Int) + 1)),
  ((((↑k : Int) + 1) : Int) ≤ 9223372036854775807),
  ((0 : Nat) = 0),
  (((v.fst) : Nat) = (v.fst)),
  (((m + 4 * (↑k : Int) + 3 + 1) : Int) = (m + 4 * (↑(k + 1) : Int))),
  ((((↑k : Int) + 1) : Int) = ((↑(k + 1) : Int))),
  ((4 : Nat) = 4),
  (((v.fst) : Nat) ≤ (v.fst)),
  (∀ i : Nat, ((((i) : Nat) < (v.fst)) → (All (cvtL false [(0, ⟨false, 4, (v.fst), (fun i_1 => (if (i_1 = k) then [.p (.int .i64 (if (↑k : Int).toNat + 0 < k + 1 then m + 4 * (↑k : Int) else (v.snd k).fst)), .p (.int .i64 (if (↑k : Int).toNat + 0 < k + 1 then m + 4 * (↑k : Int) + 1 else (v.snd k).snd.fst)), .p (.int .i64 (if (↑k : Int).toNat + 0 < k + 1 then m + 4 * (↑k : Int) + 2 else (v.snd k).snd.snd.fst)), .p (.int .i64 (m + 4 * (↑k : Int) + 3))] else [.p (.int .i64 (if i_1 < k + 1 then m + 4 * (↑i_1 : Int) else (v.snd i_1).fst)), .p (.int .i64 (if i_1 < k + 1 then m + 4 * (↑i_1 : Int) + 1 else (v.snd i_1).snd.fst)), .p (.int .i64 (if i_1 < k + 1 then m + 4 * (↑i_1 : Int) + 2 else (v.snd i_1).snd.snd.fst)), .p (.int .i64 (if i_1 < k then m + 4 * (↑i_1 : Int) + 3 else (v.snd i_1).snd.snd.snd.fst))]))⟩)] [0] 1 (if (i = k) then [.p (.int .i64 (if (↑k : Int).toNat + 0 < k + 1 then m + 4 * (↑k : Int) else (v.snd k).fst)), .p (.int .i64 (if (↑k : Int).toNat + 0 < k + 1 then m + 4 * (↑k : Int) + 1 else (v.snd k).snd.fst)), .p (.int .i64 (if (↑k : Int).toNat + 0 < k + 1 then m + 4 * (↑k : Int) + 2 else (v.snd k).snd.snd.fst)), .p (.int .i64 (m + 4 * (↑k : Int) + 3))] else [.p (.int .i64 (if i < k + 1 then m + 4 * (↑i : Int) else (v.snd i).fst)), .p (.int .i64 (if i < k + 1 then m + 4 * (↑i : Int) + 1 else (v.snd i).snd.fst)), .p (.int .i64 (if i < k + 1 then m + 4 * (↑i : Int) + 2 else (v.snd i).snd.snd.fst)), .p (.int .i64 (if i < k then m + 4 * (↑i : Int) + 3 else (v.snd i).snd.snd.snd.fst))])).2 ∧ (((cvtL false [(0, ⟨false, 4, (v.fst), (fun i_1 => (if (i_1 = k) then [.p (.int .i64 (if (↑k : Int).toNat + 0 < k + 1 then m + 4 * (↑k : Int) else (v.snd k).fst)), .p (.int .i64 (if (↑k : Int).toNat + 0 < k + 1 then m + 4 * (↑k : Int) + 1 else (v.snd k).snd.fst)), .p (.int .i64 (if (↑k : Int).toNat + 0 < k + 1 then m + 4 * (↑k : Int) + 2 else (v.snd k).snd.snd.fst)), .p (.int .i64 (m + 4 * (↑k : Int) + 3))] else [.p (.int .i64 (if i_1 < k + 1 then m + 4 * (↑i_1 : Int) else (v.snd i_1).fst)), .p (.int .i64 (if i_1 < k + 1 then m + 4 * (↑i_1 : Int) + 1 else (v.snd i_1).snd.fst)), .p (.int .i64 (if i_1 < k + 1 then m + 4 * (↑i_1 : Int) + 2 else (v.snd i_1).snd.snd.fst)), .p (.int .i64 (if i_1 < k then m + 4 * (↑i_1 : Int) + 3 else (v.snd i_1).snd.snd.snd.fst))]))⟩)] [0] 1 (if (i = k) then [.p (.int .i64 (if (↑k : Int).toNat + 0 < k + 1 then m + 4 * (↑k : Int) else (v.snd k).fst)), .p (.int .i64 (if (↑k : Int).toNat + 0 < k + 1 then m + 4 * (↑k : Int) + 1 else (v.snd k).snd.fst)), .p (.int .i64 (if (↑k : Int).toNat + 0 < k + 1 then m + 4 * (↑k : Int) + 2 else (v.snd k).snd.snd.fst)), .p (.int .i64 (m + 4 * (↑k : Int) + 3))] else [.p (.int .i64 (if i < k + 1 then m + 4 * (↑i : Int) else (v.snd i).fst)), .p (.int .i64 (if i < k + 1 then m + 4 * (↑i : Int) + 1 else (v.snd i).snd.fst)), .p (.int .i64 (if i < k + 1 then m + 4 * (↑i : Int) + 2 else (v.snd i).snd.snd.fst)), .p (.int .i64 (if i < k then m + 4 * (↑i : Int) + 3 else (v.snd i).snd.snd.snd.fst))])).1 : List AV) = [.p (.int .i64 (if i < k + 1 then m + 4 * (↑i : Int) else (v.snd i).fst)), .p (.int .i64 (if i < k + 1 then m + 4 * (↑i : Int) + 1 else (v.snd i).snd.fst)), .p (.int .i64 (if i < k + 1 then m + 4 * (↑i : Int) + 2 else (v.snd i).snd.snd.fst)), .p (.int .i64 (if i < k + 1 then m + 4 * (↑i : Int) + 3 else (v.snd i).snd.snd.snd.fst))]))))]) := by kernel_rfl

theorem p_markGainBarS_c (v : T_GainBarS) (m : Int) (k : Nat) :
    pathOb Try.prog Try.f45 1 [.reg [oT, oT, oT, oT], .dec false, .reg [oT, oT]] [.code (cAt (bodyOf Try.f45) [1, 0, 1, 0, 0]), .inLoop (cAt (bodyOf Try.f45) [1, 0, 1, 0, 0]), .inBlock 0, .code (cAt (bodyOf Try.f45) [1, 1])] (S_markGainBarS v m k) [0] 1 [(0, ⟨false, 4, v.1, fun i => [.p (.int .i64 (m + 4 * (i : Int))), .p (.int .i64 (m + 4 * (i : Int) + 1)), .p (.int .i64 (m + 4 * (i : Int) + 2)), .p (.int .i64 (m + 4 * (i : Int) + 3))]⟩)] (.p (.int .i64 (m + 4 * (v.1 : Int)))) =
    some [((decide ((↑k : Int) < (↑v.fst : Int))) = false),
  (((m + 4 * (↑k : Int)) : Int) = (m + 4 * (↑v.fst : Int))),
  ((4 : Nat) = 4),
  (((v.fst) : Nat) ≤ (v.fst)),
  (∀ i : Nat, ((((i) : Nat) < (v.fst)) → (All [] ∧ (([.p (.int .i64 (if i < k then m + 4 * (↑i : Int) else (v.snd i).fst)), .p (.int .i64 (if i < k then m + 4 * (↑i : Int) + 1 else (v.snd i).snd.fst)), .p (.int .i64 (if i < k then m + 4 * (↑i : Int) + 2 else (v.snd i).snd.snd.fst)), .p (.int .i64 (if i < k then m + 4 * (↑i : Int) + 3 else (v.snd i).snd.snd.snd.fst))] : List AV) = [.p (.int .i64 (m + 4 * (↑i : Int))), .p (.int .i64 (m + 4 * (↑i : Int) + 1)), .p (.int .i64 (m + 4 * (↑i : Int) + 2)), .p (.int .i64 (m + 4 * (↑i : Int) + 3))])))),
  (∀ i : Nat, ((((i) : Nat) < (v.fst)) → All []))] := by kernel_rfl

theorem p_heldGainBarS_a (n : Nat) (m : Int) :
    pieceOb Try.prog 0 [.reg [oT], .reg [oT], .head] [.code (bodyOf Try.f46)] (start Try.f46 [] 0 [.p (.seq true 4 n (fun i => [.int .i64 (m + 4 * (i : Int)), .int .i64 (m + 4 * (i : Int) + 1), .int .i64 (m + 4 * (i : Int) + 2), .int .i64 (m + 4 * (i : Int) + 3)])), .p (.int .i64 m)]) [] 1 (S_heldGainBarS n m 0) =
    some ([.code (cAt (bodyOf Try.f46) [1, 0, 1, 0, 0]), .inLoop (cAt (bodyOf Try.f46) [1, 0, 1, 0, 0]), .inBlock 0, .code (cAt (bodyOf Try.f46) [1, 1])], [(((n) : Nat) = (n)),
  (∀ i : Nat, ((((i) : Nat) < (n)) → (([.int .i64 (m + 4 * (↑i : Int)), .int .i64 (m + 4 * (↑i : Int) + 1), .int .i64 (m + 4 * (↑i : Int) + 2), .int .i64 (m + 4 * (↑i : Int) + 3)] : List PV) = [.int .i64 (m + 4 * (↑i : Int)), .int .i64 (m + 4 * (↑i : Int) + 1), .int .i64 (m + 4 * (↑i : Int) + 2), .int .i64 (m + 4 * (↑i : Int) + 3)]))),
  (((m) : Int) = (m + 4 * (↑0 : Int))),
  ((0 : Int) = ((↑0 : Int)))]) := by kernel_rfl

theorem p_heldGainBarS_b (n : Nat) (m : Int) (k : Nat) :
    pieceOb Try.prog 0 [.reg [oT, oT, oT, oT], .dec true, .reg [oT, oT, oT, oT, oT, oT, oT], .dec false, .reg [oT, oT, oT], .reg [oT, oT, oT, oT, oT, oT, oT], .dec false, .reg [oT, oT, oT], .reg [oT, oT, oT, oT, oT, oT, oT], .dec false, .reg [oT, oT, oT], .reg [oT, oT, oT, oT, oT, oT, oT], .dec false, .reg [oT, oT, oT], .reg [oT, oT, oT], .head] [.code (cAt (bodyOf Try.f46) [1, 0, 1, 0, 0]), .inLoop (cAt (bodyOf Try.f46) [1, 0, 1, 0, 0]), .inBlock 0, .code (cAt (bodyOf Try.f46) [1, 1])] (S_heldGainBarS n m k) [] 1 (S_heldGainBarS n m (k + 1)) =
    some ([.code (cAt (bodyOf Try.f46) [1, 0, 1, 0, 0]), .inLoop (cAt (bodyOf Try.f46) [1, 0, 1, 0, 0]), .inBlock 0, .code (cAt (bodyOf Try.f46) [1, 1])], [((decide ((↑k : Int) < (↑n : Int))) = true),
  ((0 : Int) ≤ ((↑k : Int))),
  ((((↑k : Int)) : Int) < ((↑n : Int))),
  ((m + 4 * (↑k : Int) != m + 4 * (↑k : Int)) = false),
  (((-9223372036854775808) : Int) ≤ (m + 4 * (↑k : Int) + 1)),
  (((m + 4 * (↑k : Int) + 1) : Int) ≤ 9223372036854775807),
  ((0 : Int) ≤ ((↑k : Int))),
  ((((↑k : Int)) : Int) < ((↑n : Int))),
  ((m + 4 * (↑k : Int) + 1 != m + 4 * (↑k : Int) + 1) = false),
  (((-9223372036854775808) : Int) ≤ (m + 4 * (↑k : Int) + 1 + 1)),
  (((m + 4 * (↑k : Int) + 1 + 1) : Int) ≤ 9223372036854775807),
  ((0 : Int) ≤ ((↑k : Int))),
  ((((↑k : Int)) : Int) < ((↑n : Int))),
  ((m + 4 * (↑k : Int) + 2 != m + 4 * (↑k : Int) + 1 + 1) = false),
  (((-9223372036854775808) : Int) ≤ (m + 4 * (↑k : Int) + 1 + 1 + 1)),
  (((m + 4 * (↑k : Int) + 1 + 1 + 1) : Int) ≤ 9223372036854775807),
  ((0 : Int) ≤ ((↑k : Int))),
  ((((↑k : Int)) : Int) < ((↑n : Int))),
  ((m + 4 * (↑k : Int) + 3 != m + 4 * (↑k : Int) + 1 + 1 + 1) = false),
  (((-9223372036854775808) : Int) ≤ (m + 4 * (↑k : Int) + 1 + 1 + 1 + 1)),
  (((m + 4 * (↑k : Int) + 1 + 1 + 1 + 1) : Int) ≤ 9223372036854775807),
  (((-9223372036854775808) : Int) ≤ ((↑k : Int) + 1)),
  ((((↑k : Int) + 1) : Int) ≤ 9223372036854775807),
  (((n) : Nat) = (n)),
  (∀ i : Nat, ((((i) : Nat) < (n)) → (([.int .i64 (m + 4 * (↑i : Int)), .int .i64 (m + 4 * (↑i : Int) + 1), .int .i64 (m + 4 * (↑i : Int) + 2), .int .i64 (m + 4 * (↑i : Int) + 3)] : List PV) = [.int .i64 (m + 4 * (↑i : Int)), .int .i64 (m + 4 * (↑i : Int) + 1), .int .i64 (m + 4 * (↑i : Int) + 2), .int .i64 (m + 4 * (↑i : Int) + 3)]))),
  (((m + 4 * (↑k : Int) + 1 + 1 + 1 + 1) : Int) = (m + 4 * (↑(k + 1) : Int))),
  ((((↑k : Int) + 1) : Int) = ((↑(k + 1) : Int)))]) := by kernel_rfl

theorem p_heldGainBarS_c (n : Nat) (m : Int) (k : Nat) :
    pathOb Try.prog Try.f46 0 [.reg [oT, oT, oT, oT], .dec false, .reg [oT, oT]] [.code (cAt (bodyOf Try.f46) [1, 0, 1, 0, 0]), .inLoop (cAt (bodyOf Try.f46) [1, 0, 1, 0, 0]), .inBlock 0, .code (cAt (bodyOf Try.f46) [1, 1])] (S_heldGainBarS n m k) [] 1 [] (.p (.int .i64 (m + 4 * (n : Int)))) =
    some [((decide ((↑k : Int) < (↑n : Int))) = false),
  (((m + 4 * (↑k : Int)) : Int) = (m + 4 * (↑n : Int)))] := by kernel_rfl

theorem p_markGainGraph (v : T_GainGraph) (m : Int) :
    pathOb Try.prog Try.f25 1 [.reg [oT, oT], .reg [oT, oT, oT, ⟨true, (some ⟨[0], [], 1, [(0, ⟨false, 4, v.2.1.1, fun i => [.p (.int .i64 (m + 4 * (i : Int))), .p (.int .i64 (m + 4 * (i : Int) + 1)), .p (.int .i64 (m + 4 * (i : Int) + 2)), .p (.int .i64 (m + 4 * (i : Int) + 3))]⟩)], .p (.int .i64 (m + 4 * (v.2.1.1 : Int)))⟩)⟩, oT], .reg [oT, oT]] [.code (bodyOf Try.f25)] (start Try.f25 [(0, ⟨false, 4, v.2.1.1, fun i => [.p (.int .i64 ((v.2.1.2 i).1)), .p (.int .i64 ((v.2.1.2 i).2.1)), .p (.int .i64 ((v.2.1.2 i).2.2.1)), .p (.int .i64 ((v.2.1.2 i).2.2.2.1))]⟩)] 1 [.agg [.p (.int .i64 (v.1)), .ar 4 0 0 v.2.1.1], .p (.int .i64 m)]) [0] 1 [(0, ⟨false, 4, v.2.1.1, fun i => [.p (.int .i64 (m + 4 * (i : Int))), .p (.int .i64 (m + 4 * (i : Int) + 1)), .p (.int .i64 (m + 4 * (i : Int) + 2)), .p (.int .i64 (m + 4 * (i : Int) + 3))]⟩)] (.p (.int .i64 (m + 4 * (v.2.1.1 : Int)))) =
    some [((0 : Nat) < 1),
  (∀ i : Nat, ((((i) : Nat) < (v.snd.fst.fst)) → All [])),
  Con (Try.prog) 45 1 [(0, ⟨false, 4, (v.snd.fst.fst), (fun i => [.p (.int .i64 ((v.snd.fst.snd i).fst)), .p (.int .i64 ((v.snd.fst.snd i).snd.fst)), .p (.int .i64 ((v.snd.fst.snd i).snd.snd.fst)), .p (.int .i64 ((v.snd.fst.snd i).snd.snd.snd.fst))])⟩)] [.ar 4 0 0 (v.snd.fst.fst), .p (.int .i64 (m))] [(0, ⟨false, 4, (v.snd.fst.fst), (fun i => [.p (.int .i64 (m + 4 * (↑i : Int))), .p (.int .i64 (m + 4 * (↑i : Int) + 1)), .p (.int .i64 (m + 4 * (↑i : Int) + 2)), .p (.int .i64 (m + 4 * (↑i : Int) + 3))])⟩)] (.p (.int .i64 (m + 4 * (↑v.snd.fst.fst : Int)))),
  (((m + 4 * (↑v.snd.fst.fst : Int)) : Int) = (m + 4 * (↑v.snd.fst.fst : Int))),
  ((4 : Nat) = 4),
  (((v.snd.fst.fst) : Nat) ≤ (v.snd.fst.fst)),
  (∀ i : Nat, ((((i) : Nat) < (v.snd.fst.fst)) → (All [] ∧ (([.p (.int .i64 (m + 4 * (↑i : Int))), .p (.int .i64 (m + 4 * (↑i : Int) + 1)), .p (.int .i64 (m + 4 * (↑i : Int) + 2)), .p (.int .i64 (m + 4 * (↑i : Int) + 3))] : List AV) = [.p (.int .i64 (m + 4 * (↑i : Int))), .p (.int .i64 (m + 4 * (↑i : Int) + 1)), .p (.int .i64 (m + 4 * (↑i : Int) + 2)), .p (.int .i64 (m + 4 * (↑i : Int) + 3))])))),
  (∀ i : Nat, ((((i) : Nat) < (v.snd.fst.fst)) → All []))] := by kernel_rfl

theorem p_heldGainGraph (v : T_GainGraph) (m : Int) :
    pathOb Try.prog Try.f26 0 [.reg [oT, oT], .reg [oT, oT, oT, ⟨true, (some ⟨[], [], 1, [], .p (.int .i64 (m + 4 * (v.2.1.1 : Int)))⟩)⟩, oT], .reg [oT, oT], .dec false, .reg [oT, oT]] [.code (bodyOf Try.f26)] (start Try.f26 [] 0 [.agg [.p (.int .i64 (v.1)), .p (.seq true 4 v.2.1.1 (fun i => [.int .i64 (m + 4 * (i : Int)), .int .i64 (m + 4 * (i : Int) + 1), .int .i64 (m + 4 * (i : Int) + 2), .int .i64 (m + 4 * (i : Int) + 3)]))], .p (.int .i64 m)]) [] 1 [] (.p (.int .i64 (m + 4 * (v.2.1.1 : Int)))) =
    some [((0 : Nat) < 1),
  Con (Try.prog) 46 0 [] [.p (.seq true 4 (v.snd.fst.fst) (fun i => [.int .i64 (m + 4 * (↑i : Int)), .int .i64 (m + 4 * (↑i : Int) + 1), .int .i64 (m + 4 * (↑i : Int) + 2), .int .i64 (m + 4 * (↑i : Int) + 3)])), .p (.int .i64 (m))] [] (.p (.int .i64 (m + 4 * (↑v.snd.fst.fst : Int)))),
  ((decide (m + 4 * (↑v.snd.fst.fst : Int) < 0)) = false),
  (((m + 4 * (↑v.snd.fst.fst : Int)) : Int) = (m + 4 * (↑v.snd.fst.fst : Int)))] := by kernel_rfl

theorem con_markGainBarS (v : T_GainBarS) (m : Int) (hn : v.1 ≤ 1048576) (h0 : 0 ≤ m) (h1 : m ≤ 1099511627776) : Con Try.prog 45 1 [(0, ⟨false, 4, v.1, fun i => [.p (.int .i64 ((v.2 i).1)), .p (.int .i64 ((v.2 i).2.1)), .p (.int .i64 ((v.2 i).2.2.1)), .p (.int .i64 ((v.2 i).2.2.2.1))]⟩)] [.ar 4 0 0 v.1, .p (.int .i64 m)] [(0, ⟨false, 4, v.1, fun i => [.p (.int .i64 (m + 4 * (i : Int))), .p (.int .i64 (m + 4 * (i : Int) + 1)), .p (.int .i64 (m + 4 * (i : Int) + 2)), .p (.int .i64 (m + 4 * (i : Int) + 3))]⟩)] (.p (.int .i64 (m + 4 * (v.1 : Int)))) := by
  refine con_start Try.func45 rfl (by kernel_rfl) rfl (fun c hc => ?_)
  have lp : ∀ q j, j + q = v.1 → Run Try.prog c 45 [.code (cAt (bodyOf Try.f45) [1, 0, 1, 0, 0]), .inLoop (cAt (bodyOf Try.f45) [1, 0, 1, 0, 0]), .inBlock 0, .code (cAt (bodyOf Try.f45) [1, 1])] (S_markGainBarS v m j) (Post c [(0, ⟨false, 4, v.1, fun i => [.p (.int .i64 (m + 4 * (i : Int))), .p (.int .i64 (m + 4 * (i : Int) + 1)), .p (.int .i64 (m + 4 * (i : Int) + 2)), .p (.int .i64 (m + 4 * (i : Int) + 3))]⟩)] (.p (.int .i64 (m + 4 * (v.1 : Int))))) := by
    intro q
    induction q with
    | zero =>
      intro j hj
      have e : j = v.1 := by omega
      have hd : decide ((j : Int) < (v.1 : Int)) = false := by simp; omega
      refine path_ok mixed Try.func45 hc (p_markGainBarS_c v m j) ?_
      simp only [All]
      repeat' (first | exact trivial | with_reducible apply And.intro)
      all_goals (first | omega | rfl | (intros; first | assumption | exact True.intro | rfl | exact absurd (show false = true by assumption) Bool.false_ne_true | ((repeat' (first | assumption | apply anda | apply notf)); done)) | (intro i hi; (have hik : i < j := by omega); simp [hik, All]) | (simp; try omega))
    | succ q ih =>
      intro j hj
      have hlt : decide ((j : Int) < (v.1 : Int)) = true := by simp; omega
      refine piece_ok mixed hc (p_markGainBarS_b0 v m j) ?_ ?_
      ·
        simp only [All]
        repeat' (first | exact trivial | with_reducible apply And.intro)
        all_goals (first | omega | rfl | (intros; first | assumption | exact True.intro | rfl | exact absurd (show false = true by assumption) Bool.false_ne_true | ((repeat' (first | assumption | apply anda | apply notf)); done)) | (intro i hi; by_cases h : i = j <;> simp [h, Nat.lt_succ_iff_lt_or_eq, cvtL, cvt, tg, tru, All]))
      refine piece_ok mixed hc (p_markGainBarS_b1 v m j) ?_ ?_
      ·
        simp only [All]
        repeat' (first | exact trivial | with_reducible apply And.intro)
        all_goals (first | omega | rfl | (intros; first | assumption | exact True.intro | rfl | exact absurd (show false = true by assumption) Bool.false_ne_true | ((repeat' (first | assumption | apply anda | apply notf)); done)) | (intro i hi; by_cases h : i = j <;> simp [h, Nat.lt_succ_iff_lt_or_eq, cvtL, cvt, tg, tru, All]))
      refine piece_ok mixed hc (p_markGainBarS_b2 v m j) ?_ ?_
      ·
        simp only [All]
        repeat' (first | exact trivial | with_reducible apply And.intro)
        all_goals (first | omega | rfl | (intros; first | assumption | exact True.intro | rfl | exact absurd (show false = true by assumption) Bool.false_ne_true | ((repeat' (first | assumption | apply anda | apply notf)); done)) | (intro i hi; by_cases h : i = j <;> simp [h, Nat.lt_succ_iff_lt_or_eq, cvtL, cvt, tg, tru, All]))
      refine piece_ok mixed hc (p_markGainBarS_b3 v m j) ?_ (ih (j + 1) (by omega))
      ·
        simp only [All]
        repeat' (first | exact trivial | with_reducible apply And.intro)
        all_goals (first | omega | rfl | (intros; first | assumption | exact True.intro | rfl | exact absurd (show false = true by assumption) Bool.false_ne_true | ((repeat' (first | assumption | apply anda | apply notf)); done)) | (intro i hi; by_cases h : i = j <;> simp [h, Nat.lt_succ_iff_lt_or_eq, cvtL, cvt, tg, tru, All]))
  refine piece_ok mixed hc (p_markGainBarS_a v m) ?_ (lp v.1 0 (by omega))
  simp only [All]
  repeat' (first | exact trivial | with_reducible apply And.intro)
  all_goals (first | omega | rfl | (intros; first | assumption | exact True.intro | rfl | exact absurd (show false = true by assumption) Bool.false_ne_true | ((repeat' (first | assumption | apply anda | apply notf)); done)) | (intro i hi; simp [All]))

theorem con_heldGainBarS (n : Nat) (m : Int) (hn : n ≤ 1048576) (h0 : 0 ≤ m) (h1 : m ≤ 1099511627776) : Con Try.prog 46 0 [] [.p (.seq true 4 n (fun i => [.int .i64 (m + 4 * (i : Int)), .int .i64 (m + 4 * (i : Int) + 1), .int .i64 (m + 4 * (i : Int) + 2), .int .i64 (m + 4 * (i : Int) + 3)])), .p (.int .i64 m)] [] (.p (.int .i64 (m + 4 * (n : Int)))) := by
  refine con_start Try.func46 rfl (by kernel_rfl) rfl (fun c hc => ?_)
  have lp : ∀ q j, j + q = n → Run Try.prog c 46 [.code (cAt (bodyOf Try.f46) [1, 0, 1, 0, 0]), .inLoop (cAt (bodyOf Try.f46) [1, 0, 1, 0, 0]), .inBlock 0, .code (cAt (bodyOf Try.f46) [1, 1])] (S_heldGainBarS n m j) (Post c [] (.p (.int .i64 (m + 4 * (n : Int))))) := by
    intro q
    induction q with
    | zero =>
      intro j hj
      have hd : decide ((j : Int) < (n : Int)) = false := by simp; omega
      refine path_ok mixed Try.func46 hc (p_heldGainBarS_c n m j) ?_
      simp only [All]
      repeat' (first | exact trivial | with_reducible apply And.intro)
      all_goals (first | omega | rfl | (intros; first | assumption | exact True.intro | rfl | exact absurd (show false = true by assumption) Bool.false_ne_true | ((repeat' (first | assumption | apply anda | apply notf)); done)) | (simp; try omega))
    | succ q ih =>
      intro j hj
      have hlt : decide ((j : Int) < (n : Int)) = true := by simp; omega
      refine piece_ok mixed hc (p_heldGainBarS_b n m j) ?_ (ih (j + 1) (by omega))
      simp only [All]
      repeat' (first | exact trivial | with_reducible apply And.intro)
      all_goals (first | omega | rfl | (intros; first | assumption | exact True.intro | rfl | exact absurd (show false = true by assumption) Bool.false_ne_true | ((repeat' (first | assumption | apply anda | apply notf)); done)) | (simp; done) | (simp; omega))
  refine piece_ok mixed hc (p_heldGainBarS_a n m) ?_ (lp n 0 (by omega))
  simp only [All]
  repeat' (first | exact trivial | with_reducible apply And.intro)
  all_goals (first | omega | rfl | (intros; first | assumption | exact True.intro | rfl | exact absurd (show false = true by assumption) Bool.false_ne_true | ((repeat' (first | assumption | apply anda | apply notf)); done)) | simp)

theorem con_markGainGraph (v : T_GainGraph) (m : Int) (h_0 : v.2.1.1 ≤ 1048576) (h0 : 0 ≤ m) (h1 : m ≤ 1099494850560) : Con Try.prog 25 1 [(0, ⟨false, 4, v.2.1.1, fun i => [.p (.int .i64 ((v.2.1.2 i).1)), .p (.int .i64 ((v.2.1.2 i).2.1)), .p (.int .i64 ((v.2.1.2 i).2.2.1)), .p (.int .i64 ((v.2.1.2 i).2.2.2.1))]⟩)] [.agg [.p (.int .i64 (v.1)), .ar 4 0 0 v.2.1.1], .p (.int .i64 m)] [(0, ⟨false, 4, v.2.1.1, fun i => [.p (.int .i64 (m + 4 * (i : Int))), .p (.int .i64 (m + 4 * (i : Int) + 1)), .p (.int .i64 (m + 4 * (i : Int) + 2)), .p (.int .i64 (m + 4 * (i : Int) + 3))]⟩)] (.p (.int .i64 (m + 4 * (v.2.1.1 : Int)))) := by
  refine con_start Try.func25 rfl (by kernel_rfl) rfl (fun c hc => ?_)
  refine path_ok mixed Try.func25 hc (p_markGainGraph v m) ?_
  simp only [All]
  repeat' (first | exact trivial | with_reducible apply And.intro)
  all_goals (first | omega | rfl | (intros; first | assumption | exact True.intro | rfl | exact absurd (show false = true by assumption) Bool.false_ne_true | ((repeat' (first | assumption | apply anda | apply notf)); done)) | (exact con_markGainBarS v.2.1 _ h_0 (by omega) (by omega)) | (intro i hi; simp [All]))

theorem con_heldGainGraph (v : T_GainGraph) (m : Int) (h_0 : v.2.1.1 ≤ 1048576) (h0 : 0 ≤ m) (h1 : m ≤ 1099494850560) : Con Try.prog 26 0 [] [.agg [.p (.int .i64 (v.1)), .p (.seq true 4 v.2.1.1 (fun i => [.int .i64 (m + 4 * (i : Int)), .int .i64 (m + 4 * (i : Int) + 1), .int .i64 (m + 4 * (i : Int) + 2), .int .i64 (m + 4 * (i : Int) + 3)]))], .p (.int .i64 m)] [] (.p (.int .i64 (m + 4 * (v.2.1.1 : Int)))) := by
  refine con_start Try.func26 rfl (by kernel_rfl) rfl (fun c hc => ?_)
  refine path_ok mixed Try.func26 hc (p_heldGainGraph v m) ?_
  simp only [All]
  repeat' (first | exact trivial | with_reducible apply And.intro)
  all_goals (first | omega | rfl | (intros; first | assumption | exact True.intro | rfl | exact absurd (show false = true by assumption) Bool.false_ne_true | ((repeat' (first | assumption | apply anda | apply notf)); done)) | (exact con_heldGainBarS v.2.1.1 _ h_0 (by omega) (by omega)) | (simp; omega))

end Go.Proofs.Ytgddbgmnehkblaa.Mach
