/- Contracts of uniform functions: how large, laid anew, equal to itself. Written by our own fam.py. Conditions: as each theorem says. -/
import Derived.Test.YtgddbgmnehkblabMachV
namespace Go.Proofs.Ytgddbgmnehkblab.Mach
open Go
set_option linter.unusedVariables false
set_option linter.unusedSimpArgs false

def s_GainBarS : Sh := (.sl (.st [(.int .i64), (.int .i64), (.int .i64), (.int .i64)]))
abbrev T_GainBar := (Int) × (Int) × (Int) × (Int) × Unit
abbrev T_GainBarS := Nat × (Nat → T_GainBar)
def f_szGainBarS (v : T_GainBarS) (m : Int) : Int := if m - v.1 < 0 then -1 else m - v.1
def s_GainGraph : Sh := (.st [(.int .i64), (.sl (.st [(.int .i64), (.int .i64), (.int .i64), (.int .i64)]))])
abbrev T_GainGraph := (Int) × (T_GainBarS) × Unit
def f_szGainGraph (v : T_GainGraph) (m : Int) : Int := if (f_szGainBarS v.2.1 m) < 0 then -1 else ((f_szGainBarS v.2.1 m))
def s_GainBar : Sh := (.st [(.int .i64), (.int .i64), (.int .i64), (.int .i64)])
def S_toGainBarS (v : T_GainBarS) (k : Nat) : St :=
  ⟨[.p (.seq true 4 (v.1) (fun i => [.int .i64 ((v.2 i).1), .int .i64 ((v.2 i).2.1), .int .i64 ((v.2 i).2.2.1), .int .i64 ((v.2 i).2.2.2.1)])), .p .any, .p .any, .ar 4 0 0 v.1, .p (.int .i64 k)] ++ List.replicate 18 anyA, [(0, ⟨false, 4, v.1, fun i => [.p (.int .i64 (if i < k then (v.2 i).1 else 0)), .p (.int .i64 (if i < k then (v.2 i).2.1 else 0)), .p (.int .i64 (if i < k then (v.2 i).2.2.1 else 0)), .p (.int .i64 (if i < k then (v.2 i).2.2.2.1 else 0))]⟩)], 1⟩
def s_IntS : Sh := (.sl (.int .i64))
abbrev T_IntS := Nat × (Nat → Int)
def S_toIntS (v : T_IntS) (k : Nat) : St :=
  ⟨[.p (.seq true 1 (v.1) (fun i => [.int .i64 ((v.2 i))])), .p .any, .p .any, .ar 1 0 0 v.1, .p (.int .i64 k)] ++ List.replicate 17 anyA, [(0, ⟨false, 1, v.1, fun i => [.p (.int .i64 (if i < k then (v.2 i) else 0))]⟩)], 1⟩
def S_eqGainBarS (v : T_GainBarS) (k : Nat) : St :=
  ⟨[.p (.seq true 4 (v.1) (fun i => [.int .i64 ((v.2 i).1), .int .i64 ((v.2 i).2.1), .int .i64 ((v.2 i).2.2.1), .int .i64 ((v.2 i).2.2.2.1)])), .p (.seq true 4 (v.1) (fun i => [.int .i64 ((v.2 i).1), .int .i64 ((v.2 i).2.1), .int .i64 ((v.2 i).2.2.1), .int .i64 ((v.2 i).2.2.2.1)])), .p .any, .p .any, .p .any, .p (.int .i64 k)] ++ List.replicate 21 anyA, [], 0⟩
def S_eqIntS (v : T_IntS) (k : Nat) : St :=
  ⟨[.p (.seq true 1 (v.1) (fun i => [.int .i64 ((v.2 i))])), .p (.seq true 1 (v.1) (fun i => [.int .i64 ((v.2 i))])), .p .any, .p .any, .p .any, .p (.int .i64 k)] ++ List.replicate 20 anyA, [], 0⟩

theorem p_szGainBarS_a (v : T_GainBarS) (m : Int) :
    pathOb Try.prog Try.f41 0 [.reg [oT], .reg [oT, oT, oT, oT, oT], .reg [oT, oT], .dec true, .reg [oT]] [.code (bodyOf Try.f41)] (start Try.f41 [] 0 [.p (.seq true 4 (v.1) (fun i => [.int .i64 ((v.2 i).1), .int .i64 ((v.2 i).2.1), .int .i64 ((v.2 i).2.2.1), .int .i64 ((v.2 i).2.2.2.1)])), .p (.int .i64 m)]) [] 1 [] (.p (.int .i64 (-1))) =
    some [(((-9223372036854775808) : Int) ≤ (m - (↑v.fst : Int))),
  (((m - (↑v.fst : Int)) : Int) ≤ 9223372036854775807),
  ((decide (m - (↑v.fst : Int) < 0)) = true),
  (((-1) : Int) = (-1))] := by kernel_rfl

theorem p_szGainBarS_b (v : T_GainBarS) (m : Int) :
    pathOb Try.prog Try.f41 0 [.reg [oT], .reg [oT, oT, oT, oT, oT], .reg [oT, oT], .dec false, .reg [oT, oT]] [.code (bodyOf Try.f41)] (start Try.f41 [] 0 [.p (.seq true 4 (v.1) (fun i => [.int .i64 ((v.2 i).1), .int .i64 ((v.2 i).2.1), .int .i64 ((v.2 i).2.2.1), .int .i64 ((v.2 i).2.2.2.1)])), .p (.int .i64 m)]) [] 1 [] (.p (.int .i64 (m - v.1))) =
    some [(((-9223372036854775808) : Int) ≤ (m - (↑v.fst : Int))),
  (((m - (↑v.fst : Int)) : Int) ≤ 9223372036854775807),
  ((decide (m - (↑v.fst : Int) < 0)) = false),
  (((m - (↑v.fst : Int)) : Int) = (m - (↑v.fst : Int)))] := by kernel_rfl

theorem p_szGainGraph_0 (v : T_GainGraph) (m : Int) :
    pathOb Try.prog Try.f9 0 [.reg [oT, oT], .reg [oT, oT, oT, ⟨true, (some ⟨[], [], 1, [], .p (.int .i64 (f_szGainBarS v.2.1 m))⟩), none⟩, oT], .reg [oT, oT], .dec true, .reg [oT]] [.code (bodyOf Try.f9)] (start Try.f9 [] 0 [.agg [.p (.int .i64 (v.1)), .p (.seq true 4 (v.2.1.1) (fun i => [.int .i64 ((v.2.1.2 i).1), .int .i64 ((v.2.1.2 i).2.1), .int .i64 ((v.2.1.2 i).2.2.1), .int .i64 ((v.2.1.2 i).2.2.2.1)]))], .p (.int .i64 m)]) [] 1 [] (.p (.int .i64 (-1))) =
    some [((0 : Nat) < 1),
  Con (Try.prog) 41 0 [] [.p (.seq true 4 (v.snd.fst.fst) (fun i => [.int .i64 ((v.snd.fst.snd i).fst), .int .i64 ((v.snd.fst.snd i).snd.fst), .int .i64 ((v.snd.fst.snd i).snd.snd.fst), .int .i64 ((v.snd.fst.snd i).snd.snd.snd.fst)])), .p (.int .i64 (m))] [] (.p (.int .i64 (f_szGainBarS v.snd.fst m))),
  ((decide (f_szGainBarS v.snd.fst m < 0)) = true),
  (((-1) : Int) = (-1))] := by kernel_rfl

theorem p_szGainGraph_e (v : T_GainGraph) (m : Int) :
    pathOb Try.prog Try.f9 0 [.reg [oT, oT], .reg [oT, oT, oT, ⟨true, (some ⟨[], [], 1, [], .p (.int .i64 (f_szGainBarS v.2.1 m))⟩), none⟩, oT], .reg [oT, oT], .dec false, .reg [oT, oT]] [.code (bodyOf Try.f9)] (start Try.f9 [] 0 [.agg [.p (.int .i64 (v.1)), .p (.seq true 4 (v.2.1.1) (fun i => [.int .i64 ((v.2.1.2 i).1), .int .i64 ((v.2.1.2 i).2.1), .int .i64 ((v.2.1.2 i).2.2.1), .int .i64 ((v.2.1.2 i).2.2.2.1)]))], .p (.int .i64 m)]) [] 1 [] (.p (.int .i64 (f_szGainBarS v.2.1 m))) =
    some [((0 : Nat) < 1),
  Con (Try.prog) 41 0 [] [.p (.seq true 4 (v.snd.fst.fst) (fun i => [.int .i64 ((v.snd.fst.snd i).fst), .int .i64 ((v.snd.fst.snd i).snd.fst), .int .i64 ((v.snd.fst.snd i).snd.snd.fst), .int .i64 ((v.snd.fst.snd i).snd.snd.snd.fst)])), .p (.int .i64 (m))] [] (.p (.int .i64 (f_szGainBarS v.snd.fst m))),
  ((decide (f_szGainBarS v.snd.fst m < 0)) = false),
  (((f_szGainBarS v.snd.fst m) : Int) = (f_szGainBarS v.snd.fst m))] := by kernel_rfl

theorem p_toGainBar (v : T_GainBar) :
    pathOb Try.prog Try.f82 0 [.reg [oT, oT], .reg [oT], .reg [oT, oT, oT, oT], .reg [oT, oT, oT, oT], .reg [oT, oT, oT, oT], .reg [oT, oT, oT, oT], .reg [oT, oT]] [.code (bodyOf Try.f82)] (start Try.f82 [] 0 [.agg [.p (.int .i64 (v.1)), .p (.int .i64 (v.2.1)), .p (.int .i64 (v.2.2.1)), .p (.int .i64 (v.2.2.2.1))]]) [] 1 [] (.agg [.p (.int .i64 (v.1)), .p (.int .i64 (v.2.1)), .p (.int .i64 (v.2.2.1)), .p (.int .i64 (v.2.2.2.1))]) =
    some [((0 : Nat) < 1),
  ((0 : Nat) < 1),
  (((true) = true) → ((1 : Nat) = 1)),
  ((0 : Nat) < 1),
  ((0 : Nat) < 1),
  (((true) = true) → ((1 : Nat) = 1)),
  ((0 : Nat) < 1),
  ((0 : Nat) < 1),
  (((true) = true) → ((1 : Nat) = 1)),
  ((0 : Nat) < 1),
  ((0 : Nat) < 1),
  (((true) = true) → ((1 : Nat) = 1)),
  ((0 : Nat) < 1),
  ((0 : Nat) < 1),
  (((true) = true) → ((1 : Nat) = 1)),
  ((0 : Nat) < 1),
  (((v.fst) : Int) = (v.fst)),
  (((v.snd.fst) : Int) = (v.snd.fst)),
  (((v.snd.snd.fst) : Int) = (v.snd.snd.fst)),
  (((v.snd.snd.snd.fst) : Int) = (v.snd.snd.snd.fst))] := by kernel_rfl

theorem p_toGainBarS_a (v : T_GainBarS) :
    pieceOb Try.prog 0 [.reg [oT], .reg [oT, oT, oT, oT], .reg [oT], .head] [.code (bodyOf Try.f43)] (start Try.f43 [] 0 [.p (.seq true 4 (v.1) (fun i => [.int .i64 ((v.2 i).1), .int .i64 ((v.2 i).2.1), .int .i64 ((v.2 i).2.2.1), .int .i64 ((v.2 i).2.2.2.1)]))]) [96] 1 (S_toGainBarS v 0) =
    some ([.code (cAt (bodyOf Try.f43) [1, 1, 0, 1, 0, 0]), .inLoop (cAt (bodyOf Try.f43) [1, 1, 0, 1, 0, 0]), .inBlock 0, .code (cAt (bodyOf Try.f43) [1, 1, 1])], [((0 : Int) ≤ ((↑v.fst : Int))),
  ((((↑v.fst : Int)) : Int) ≤ ((↑v.fst : Int))),
  ((((↑v.fst : Int) * (↑32 : Int)) : Int) ≤ 281474976710656),
  ((((↑v.fst : Int)) : Int) ≤ 9223372036854775807),
  (((v.fst) : Nat) = (v.fst)),
  (∀ i : Nat, ((((i) : Nat) < (v.fst)) → (([.int .i64 ((v.snd i).fst), .int .i64 ((v.snd i).snd.fst), .int .i64 ((v.snd i).snd.snd.fst), .int .i64 ((v.snd i).snd.snd.snd.fst)] : List PV) = [.int .i64 ((v.snd i).fst), .int .i64 ((v.snd i).snd.fst), .int .i64 ((v.snd i).snd.snd.fst), .int .i64 ((v.snd i).snd.snd.snd.fst)]))),
  ((0 : Nat) = 0),
  (((v.fst) : Nat) = (v.fst)),
  ((0 : Int) = ((↑0 : Int))),
  ((4 : Nat) = 4),
  (((v.fst) : Nat) ≤ (v.fst)),
  (∀ i : Nat, ((((i) : Nat) < (v.fst)) → (All [] ∧ (([.p (.int .i64 0), .p (.int .i64 0), .p (.int .i64 0), .p (.int .i64 0)] : List AV) = [.p (.int .i64 (if i < 0 then (v.snd i).fst else 0)), .p (.int .i64 (if i < 0 then (v.snd i).snd.fst else 0)), .p (.int .i64 (if i < 0 then (v.snd i).snd.snd.fst else 0)), .p (.int .i64 (if i < 0 then (v.snd i).snd.snd.snd.fst else 0))]))))]) := by kernel_rfl

theorem p_toGainBarS_b (v : T_GainBarS) (k : Nat) :
    pieceOb Try.prog 0 [.reg [oT, oT, oT, oT], .dec true, .reg [oT, oT, oT, oT, oT, oT, ⟨true, (some ⟨[], [], 1, [], .agg [.p (.int .i64 ((v.2 k).1)), .p (.int .i64 ((v.2 k).2.1)), .p (.int .i64 ((v.2 k).2.2.1)), .p (.int .i64 ((v.2 k).2.2.2.1))]⟩), none⟩, oT, oT], .reg [oT, oT, oT], .head] [.code (cAt (bodyOf Try.f43) [1, 1, 0, 1, 0, 0]), .inLoop (cAt (bodyOf Try.f43) [1, 1, 0, 1, 0, 0]), .inBlock 0, .code (cAt (bodyOf Try.f43) [1, 1, 1])] (S_toGainBarS v k) [0] 1 (S_toGainBarS v (k + 1)) =
    some ([.code (cAt (bodyOf Try.f43) [1, 1, 0, 1, 0, 0]), .inLoop (cAt (bodyOf Try.f43) [1, 1, 0, 1, 0, 0]), .inBlock 0, .code (cAt (bodyOf Try.f43) [1, 1, 1])], [((decide ((↑k : Int) < (↑v.fst : Int))) = true),
  ((0 : Int) ≤ ((↑k : Int))),
  ((((↑k : Int)) : Int) < ((↑v.fst : Int))),
  Con (Try.prog) 82 0 [] [.agg [.p (.int .i64 ((v.snd k).fst)), .p (.int .i64 ((v.snd k).snd.fst)), .p (.int .i64 ((v.snd k).snd.snd.fst)), .p (.int .i64 ((v.snd k).snd.snd.snd.fst))]] [] (.agg [.p (.int .i64 ((v.snd k).fst)), .p (.int .i64 ((v.snd k).snd.fst)), .p (.int .i64 ((v.snd k).snd.snd.fst)), .p (.int .i64 ((v.snd k).snd.snd.snd.fst))]),
  ((0 : Int) ≤ ((↑k : Int))),
  ((((↑k : Int)) : Int) < ((↑v.fst : Int))),
  (((k) : Nat) < (v.fst)),
  (((false) = true) → (((v.fst) : Nat) = 1)),
  (((-9223372036854775808) : Int) ≤ ((↑k : Int) + 1)),
  ((((↑k : Int) + 1) : Int) ≤ 9223372036854775807),
  (((v.fst) : Nat) = (v.fst)),
  (∀ i : Nat, ((((i) : Nat) < (v.fst)) → (([.int .i64 ((v.snd i).fst), .int .i64 ((v.snd i).snd.fst), .int .i64 ((v.snd i).snd.snd.fst), .int .i64 ((v.snd i).snd.snd.snd.fst)] : List PV) = [.int .i64 ((v.snd i).fst), .int .i64 ((v.snd i).snd.fst), .int .i64 ((v.snd i).snd.snd.fst), .int .i64 ((v.snd i).snd.snd.snd.fst)]))),
  ((0 : Nat) = 0),
  (((v.fst) : Nat) = (v.fst)),
  ((((↑k : Int) + 1) : Int) = ((↑(k + 1) : Int))),
  ((4 : Nat) = 4),
  (((v.fst) : Nat) ≤ (v.fst)),
  (∀ i : Nat, ((((i) : Nat) < (v.fst)) → (All (cvtL false [(0, ⟨false, 4, (v.fst), (fun i_1 => (if (i_1 = k) then [.p (.int .i64 ((v.snd k).fst)), .p (.int .i64 ((v.snd k).snd.fst)), .p (.int .i64 ((v.snd k).snd.snd.fst)), .p (.int .i64 ((v.snd k).snd.snd.snd.fst))] else [.p (.int .i64 (if i_1 < k then (v.snd i_1).fst else 0)), .p (.int .i64 (if i_1 < k then (v.snd i_1).snd.fst else 0)), .p (.int .i64 (if i_1 < k then (v.snd i_1).snd.snd.fst else 0)), .p (.int .i64 (if i_1 < k then (v.snd i_1).snd.snd.snd.fst else 0))]))⟩)] [0] 1 (if (i = k) then [.p (.int .i64 ((v.snd k).fst)), .p (.int .i64 ((v.snd k).snd.fst)), .p (.int .i64 ((v.snd k).snd.snd.fst)), .p (.int .i64 ((v.snd k).snd.snd.snd.fst))] else [.p (.int .i64 (if i < k then (v.snd i).fst else 0)), .p (.int .i64 (if i < k then (v.snd i).snd.fst else 0)), .p (.int .i64 (if i < k then (v.snd i).snd.snd.fst else 0)), .p (.int .i64 (if i < k then (v.snd i).snd.snd.snd.fst else 0))])).2 ∧ (((cvtL false [(0, ⟨false, 4, (v.fst), (fun i_1 => (if (i_1 = k) then [.p (.int .i64 ((v.snd k).fst)), .p (.int .i64 ((v.snd k).snd.fst)), .p (.int .i64 ((v.snd k).snd.snd.fst)), .p (.int .i64 ((v.snd k).snd.snd.snd.fst))] else [.p (.int .i64 (if i_1 < k then (v.snd i_1).fst else 0)), .p (.int .i64 (if i_1 < k then (v.snd i_1).snd.fst else 0)), .p (.int .i64 (if i_1 < k then (v.snd i_1).snd.snd.fst else 0)), .p (.int .i64 (if i_1 < k then (v.snd i_1).snd.snd.snd.fst else 0))]))⟩)] [0] 1 (if (i = k) then [.p (.int .i64 ((v.snd k).fst)), .p (.int .i64 ((v.snd k).snd.fst)), .p (.int .i64 ((v.snd k).snd.snd.fst)), .p (.int .i64 ((v.snd k).snd.snd.snd.fst))] else [.p (.int .i64 (if i < k then (v.snd i).fst else 0)), .p (.int .i64 (if i < k then (v.snd i).snd.fst else 0)), .p (.int .i64 (if i < k then (v.snd i).snd.snd.fst else 0)), .p (.int .i64 (if i < k then (v.snd i).snd.snd.snd.fst else 0))])).1 : List AV) = [.p (.int .i64 (if i < k + 1 then (v.snd i).fst else 0)), .p (.int .i64 (if i < k + 1 then (v.snd i).snd.fst else 0)), .p (.int .i64 (if i < k + 1 then (v.snd i).snd.snd.fst else 0)), .p (.int .i64 (if i < k + 1 then (v.snd i).snd.snd.snd.fst else 0))]))))]) := by kernel_rfl

theorem p_toGainBarS_c (v : T_GainBarS) (k : Nat) :
    pathOb Try.prog Try.f43 0 [.reg [oT, oT, oT, oT], .dec false, .reg [oT, oT]] [.code (cAt (bodyOf Try.f43) [1, 1, 0, 1, 0, 0]), .inLoop (cAt (bodyOf Try.f43) [1, 1, 0, 1, 0, 0]), .inBlock 0, .code (cAt (bodyOf Try.f43) [1, 1, 1])] (S_toGainBarS v k) [0] 1 [(0, ⟨false, 4, v.1, fun i => [.p (.int .i64 ((v.2 i).1)), .p (.int .i64 ((v.2 i).2.1)), .p (.int .i64 ((v.2 i).2.2.1)), .p (.int .i64 ((v.2 i).2.2.2.1))]⟩)] (.ar 4 0 0 (v.1)) =
    some [((decide ((↑k : Int) < (↑v.fst : Int))) = false),
  ((0 : Nat) = 0),
  (((v.fst) : Nat) = (v.fst)),
  ((4 : Nat) = 4),
  (((v.fst) : Nat) ≤ (v.fst)),
  (∀ i : Nat, ((((i) : Nat) < (v.fst)) → (All [] ∧ (([.p (.int .i64 (if i < k then (v.snd i).fst else 0)), .p (.int .i64 (if i < k then (v.snd i).snd.fst else 0)), .p (.int .i64 (if i < k then (v.snd i).snd.snd.fst else 0)), .p (.int .i64 (if i < k then (v.snd i).snd.snd.snd.fst else 0))] : List AV) = [.p (.int .i64 ((v.snd i).fst)), .p (.int .i64 ((v.snd i).snd.fst)), .p (.int .i64 ((v.snd i).snd.snd.fst)), .p (.int .i64 ((v.snd i).snd.snd.snd.fst))])))),
  (∀ i : Nat, ((((i) : Nat) < (v.fst)) → All []))] := by kernel_rfl

theorem p_toGainGraph (v : T_GainGraph) :
    pathOb Try.prog Try.f11 0 [.reg [oT, oT], .reg [oT], .reg [oT, oT, oT, oT], .reg [oT, oT, ⟨true, (some ⟨[], [], 1, [(0, ⟨false, 4, v.2.1.1, fun i => [.p (.int .i64 ((v.2.1.2 i).1)), .p (.int .i64 ((v.2.1.2 i).2.1)), .p (.int .i64 ((v.2.1.2 i).2.2.1)), .p (.int .i64 ((v.2.1.2 i).2.2.2.1))]⟩)], .ar 4 0 0 (v.2.1.1)⟩), none⟩, oT, oT], .reg [oT, oT]] [.code (bodyOf Try.f11)] (start Try.f11 [] 0 [.agg [.p (.int .i64 (v.1)), .p (.seq true 4 (v.2.1.1) (fun i => [.int .i64 ((v.2.1.2 i).1), .int .i64 ((v.2.1.2 i).2.1), .int .i64 ((v.2.1.2 i).2.2.1), .int .i64 ((v.2.1.2 i).2.2.2.1)]))]]) [288] 1 [(0, ⟨false, 4, v.2.1.1, fun i => [.p (.int .i64 ((v.2.1.2 i).1)), .p (.int .i64 ((v.2.1.2 i).2.1)), .p (.int .i64 ((v.2.1.2 i).2.2.1)), .p (.int .i64 ((v.2.1.2 i).2.2.2.1))]⟩)] (.agg [.p (.int .i64 (v.1)), .ar 4 0 0 (v.2.1.1)]) =
    some [((0 : Nat) < 1),
  ((0 : Nat) < 1),
  (((true) = true) → ((1 : Nat) = 1)),
  ((0 : Nat) < 1),
  Con (Try.prog) 43 0 [] [.p (.seq true 4 (v.snd.fst.fst) (fun i => [.int .i64 ((v.snd.fst.snd i).fst), .int .i64 ((v.snd.fst.snd i).snd.fst), .int .i64 ((v.snd.fst.snd i).snd.snd.fst), .int .i64 ((v.snd.fst.snd i).snd.snd.snd.fst)]))] [(0, ⟨false, 4, (v.snd.fst.fst), (fun i => [.p (.int .i64 ((v.snd.fst.snd i).fst)), .p (.int .i64 ((v.snd.fst.snd i).snd.fst)), .p (.int .i64 ((v.snd.fst.snd i).snd.snd.fst)), .p (.int .i64 ((v.snd.fst.snd i).snd.snd.snd.fst))])⟩)] (.ar 4 0 0 (v.snd.fst.fst)),
  ((0 : Nat) < 1),
  (((true) = true) → ((1 : Nat) = 1)),
  ((0 : Nat) < 1),
  ((0 : Nat) < 1),
  (((true) = true) → ((1 : Nat) = 1)),
  ((0 : Nat) < 1),
  (((v.fst) : Int) = (v.fst)),
  ((0 : Nat) = 0),
  (((v.snd.fst.fst) : Nat) = (v.snd.fst.fst)),
  ((4 : Nat) = 4),
  (((v.snd.fst.fst) : Nat) ≤ (v.snd.fst.fst)),
  (∀ i : Nat, ((((i) : Nat) < (v.snd.fst.fst)) → (All [] ∧ (([.p (.int .i64 ((v.snd.fst.snd i).fst)), .p (.int .i64 ((v.snd.fst.snd i).snd.fst)), .p (.int .i64 ((v.snd.fst.snd i).snd.snd.fst)), .p (.int .i64 ((v.snd.fst.snd i).snd.snd.snd.fst))] : List AV) = [.p (.int .i64 ((v.snd.fst.snd i).fst)), .p (.int .i64 ((v.snd.fst.snd i).snd.fst)), .p (.int .i64 ((v.snd.fst.snd i).snd.snd.fst)), .p (.int .i64 ((v.snd.fst.snd i).snd.snd.snd.fst))])))),
  (∀ i : Nat, ((((i) : Nat) < (v.snd.fst.fst)) → All []))] := by kernel_rfl

theorem p_toIntS_a (v : T_IntS) :
    pieceOb Try.prog 0 [.reg [oT], .reg [oT, oT, oT, oT], .reg [oT], .head] [.code (bodyOf Try.f12)] (start Try.f12 [] 0 [.p (.seq true 1 (v.1) (fun i => [.int .i64 ((v.2 i))]))]) [96] 1 (S_toIntS v 0) =
    some ([.code (cAt (bodyOf Try.f12) [1, 1, 0, 1, 0, 0]), .inLoop (cAt (bodyOf Try.f12) [1, 1, 0, 1, 0, 0]), .inBlock 0, .code (cAt (bodyOf Try.f12) [1, 1, 1])], [((0 : Int) ≤ ((↑v.fst : Int))),
  ((((↑v.fst : Int)) : Int) ≤ ((↑v.fst : Int))),
  ((((↑v.fst : Int) * (↑8 : Int)) : Int) ≤ 281474976710656),
  ((((↑v.fst : Int)) : Int) ≤ 9223372036854775807),
  (((v.fst) : Nat) = (v.fst)),
  (∀ i : Nat, ((((i) : Nat) < (v.fst)) → (([.int .i64 (v.snd i)] : List PV) = [.int .i64 (v.snd i)]))),
  ((0 : Nat) = 0),
  (((v.fst) : Nat) = (v.fst)),
  ((0 : Int) = ((↑0 : Int))),
  ((1 : Nat) = 1),
  (((v.fst) : Nat) ≤ (v.fst)),
  (∀ i : Nat, ((((i) : Nat) < (v.fst)) → (All [] ∧ (([.p (.int .i64 0)] : List AV) = [.p (.int .i64 (if i < 0 then v.snd i else 0))]))))]) := by kernel_rfl

theorem p_toIntS_b (v : T_IntS) (k : Nat) :
    pieceOb Try.prog 0 [.reg [oT, oT, oT, oT], .dec true, .reg [oT, oT, oT, oT, oT, oT, oT, oT], .reg [oT, oT, oT], .head] [.code (cAt (bodyOf Try.f12) [1, 1, 0, 1, 0, 0]), .inLoop (cAt (bodyOf Try.f12) [1, 1, 0, 1, 0, 0]), .inBlock 0, .code (cAt (bodyOf Try.f12) [1, 1, 1])] (S_toIntS v k) [0] 1 (S_toIntS v (k + 1)) =
    some ([.code (cAt (bodyOf Try.f12) [1, 1, 0, 1, 0, 0]), .inLoop (cAt (bodyOf Try.f12) [1, 1, 0, 1, 0, 0]), .inBlock 0, .code (cAt (bodyOf Try.f12) [1, 1, 1])], [((decide ((↑k : Int) < (↑v.fst : Int))) = true),
  ((0 : Int) ≤ ((↑k : Int))),
  ((((↑k : Int)) : Int) < ((↑v.fst : Int))),
  ((0 : Int) ≤ ((↑k : Int))),
  ((((↑k : Int)) : Int) < ((↑v.fst : Int))),
  (((k) : Nat) < (v.fst)),
  (((false) = true) → (((v.fst) : Nat) = 1)),
  (((-9223372036854775808) : Int) ≤ ((↑k : Int) + 1)),
  ((((↑k : Int) + 1) : Int) ≤ 9223372036854775807),
  (((v.fst) : Nat) = (v.fst)),
  (∀ i : Nat, ((((i) : Nat) < (v.fst)) → (([.int .i64 (v.snd i)] : List PV) = [.int .i64 (v.snd i)]))),
  ((0 : Nat) = 0),
  (((v.fst) : Nat) = (v.fst)),
  ((((↑k : Int) + 1) : Int) = ((↑(k + 1) : Int))),
  ((1 : Nat) = 1),
  (((v.fst) : Nat) ≤ (v.fst)),
  (∀ i : Nat, ((((i) : Nat) < (v.fst)) → (All (cvtL false [(0, ⟨false, 1, (v.fst), (fun i_1 => (if (i_1 = k) then [.p (.int .i64 (v.snd k))] else [.p (.int .i64 (if i_1 < k then v.snd i_1 else 0))]))⟩)] [0] 1 (if (i = k) then [.p (.int .i64 (v.snd k))] else [.p (.int .i64 (if i < k then v.snd i else 0))])).2 ∧ (((cvtL false [(0, ⟨false, 1, (v.fst), (fun i_1 => (if (i_1 = k) then [.p (.int .i64 (v.snd k))] else [.p (.int .i64 (if i_1 < k then v.snd i_1 else 0))]))⟩)] [0] 1 (if (i = k) then [.p (.int .i64 (v.snd k))] else [.p (.int .i64 (if i < k then v.snd i else 0))])).1 : List AV) = [.p (.int .i64 (if i < k + 1 then v.snd i else 0))]))))]) := by kernel_rfl

theorem p_toIntS_c (v : T_IntS) (k : Nat) :
    pathOb Try.prog Try.f12 0 [.reg [oT, oT, oT, oT], .dec false, .reg [oT, oT]] [.code (cAt (bodyOf Try.f12) [1, 1, 0, 1, 0, 0]), .inLoop (cAt (bodyOf Try.f12) [1, 1, 0, 1, 0, 0]), .inBlock 0, .code (cAt (bodyOf Try.f12) [1, 1, 1])] (S_toIntS v k) [0] 1 [(0, ⟨false, 1, v.1, fun i => [.p (.int .i64 ((v.2 i)))]⟩)] (.ar 1 0 0 (v.1)) =
    some [((decide ((↑k : Int) < (↑v.fst : Int))) = false),
  ((0 : Nat) = 0),
  (((v.fst) : Nat) = (v.fst)),
  ((1 : Nat) = 1),
  (((v.fst) : Nat) ≤ (v.fst)),
  (∀ i : Nat, ((((i) : Nat) < (v.fst)) → (All [] ∧ (([.p (.int .i64 (if i < k then v.snd i else 0))] : List AV) = [.p (.int .i64 (v.snd i))])))),
  (∀ i : Nat, ((((i) : Nat) < (v.fst)) → All []))] := by kernel_rfl

theorem p_eqGainBar (v : T_GainBar) :
    pathOb Try.prog Try.f83 0 [.reg [oT, oT, oT], .reg [oT, oT, oT, oT, oT], .dec false, .reg [oT, oT, oT, oT, oT], .dec false, .reg [oT, oT, oT, oT, oT], .dec false, .reg [oT, oT, oT, oT, oT], .dec false, .reg [oT]] [.code (bodyOf Try.f83)] (start Try.f83 [] 0 [.agg [.p (.int .i64 (v.1)), .p (.int .i64 (v.2.1)), .p (.int .i64 (v.2.2.1)), .p (.int .i64 (v.2.2.2.1))], .agg [.p (.int .i64 (v.1)), .p (.int .i64 (v.2.1)), .p (.int .i64 (v.2.2.1)), .p (.int .i64 (v.2.2.2.1))]]) [] 1 [] (.p (.bool true)) =
    some [((0 : Nat) < 1),
  ((0 : Nat) < 1),
  ((v.fst != v.fst) = false),
  ((0 : Nat) < 1),
  ((0 : Nat) < 1),
  ((v.snd.fst != v.snd.fst) = false),
  ((0 : Nat) < 1),
  ((0 : Nat) < 1),
  ((v.snd.snd.fst != v.snd.snd.fst) = false),
  ((0 : Nat) < 1),
  ((0 : Nat) < 1),
  ((v.snd.snd.snd.fst != v.snd.snd.snd.fst) = false),
  (true = true)] := by kernel_rfl

theorem p_eqGainBarS_a (v : T_GainBarS) :
    pieceOb Try.prog 0 [.reg [oT], .reg [oT, oT, oT, oT, oT], .dec false, .reg [oT], .head] [.code (bodyOf Try.f47)] (start Try.f47 [] 0 [.p (.seq true 4 (v.1) (fun i => [.int .i64 ((v.2 i).1), .int .i64 ((v.2 i).2.1), .int .i64 ((v.2 i).2.2.1), .int .i64 ((v.2 i).2.2.2.1)])), .p (.seq true 4 (v.1) (fun i => [.int .i64 ((v.2 i).1), .int .i64 ((v.2 i).2.1), .int .i64 ((v.2 i).2.2.1), .int .i64 ((v.2 i).2.2.2.1)]))]) [] 1 (S_eqGainBarS v 0) =
    some ([.code (cAt (bodyOf Try.f47) [1, 1, 0, 1, 0, 0]), .inLoop (cAt (bodyOf Try.f47) [1, 1, 0, 1, 0, 0]), .inBlock 0, .code (cAt (bodyOf Try.f47) [1, 1, 1])], [(((↑v.fst : Int) != (↑v.fst : Int)) = false),
  (((v.fst) : Nat) = (v.fst)),
  (∀ i : Nat, ((((i) : Nat) < (v.fst)) → (([.int .i64 ((v.snd i).fst), .int .i64 ((v.snd i).snd.fst), .int .i64 ((v.snd i).snd.snd.fst), .int .i64 ((v.snd i).snd.snd.snd.fst)] : List PV) = [.int .i64 ((v.snd i).fst), .int .i64 ((v.snd i).snd.fst), .int .i64 ((v.snd i).snd.snd.fst), .int .i64 ((v.snd i).snd.snd.snd.fst)]))),
  (((v.fst) : Nat) = (v.fst)),
  (∀ i : Nat, ((((i) : Nat) < (v.fst)) → (([.int .i64 ((v.snd i).fst), .int .i64 ((v.snd i).snd.fst), .int .i64 ((v.snd i).snd.snd.fst), .int .i64 ((v.snd i).snd.snd.snd.fst)] : List PV) = [.int .i64 ((v.snd i).fst), .int .i64 ((v.snd i).snd.fst), .int .i64 ((v.snd i).snd.snd.fst), .int .i64 ((v.snd i).snd.snd.snd.fst)]))),
  ((0 : Int) = ((↑0 : Int)))]) := by kernel_rfl

theorem p_eqGainBarS_b (v : T_GainBarS) (k : Nat) :
    pieceOb Try.prog 0 [.reg [oT, oT, oT, oT], .dec true, .reg [oT, oT, oT, oT, oT, oT, oT, oT, ⟨true, (some ⟨[], [], 1, [], .p (.bool true)⟩), none⟩, oT], .dec false, .reg [oT, oT, oT], .head] [.code (cAt (bodyOf Try.f47) [1, 1, 0, 1, 0, 0]), .inLoop (cAt (bodyOf Try.f47) [1, 1, 0, 1, 0, 0]), .inBlock 0, .code (cAt (bodyOf Try.f47) [1, 1, 1])] (S_eqGainBarS v k) [] 1 (S_eqGainBarS v (k + 1)) =
    some ([.code (cAt (bodyOf Try.f47) [1, 1, 0, 1, 0, 0]), .inLoop (cAt (bodyOf Try.f47) [1, 1, 0, 1, 0, 0]), .inBlock 0, .code (cAt (bodyOf Try.f47) [1, 1, 1])], [((decide ((↑k : Int) < (↑v.fst : Int))) = true),
  ((0 : Int) ≤ ((↑k : Int))),
  ((((↑k : Int)) : Int) < ((↑v.fst : Int))),
  ((0 : Int) ≤ ((↑k : Int))),
  ((((↑k : Int)) : Int) < ((↑v.fst : Int))),
  Con (Try.prog) 83 0 [] [.agg [.p (.int .i64 ((v.snd k).fst)), .p (.int .i64 ((v.snd k).snd.fst)), .p (.int .i64 ((v.snd k).snd.snd.fst)), .p (.int .i64 ((v.snd k).snd.snd.snd.fst))], .agg [.p (.int .i64 ((v.snd k).fst)), .p (.int .i64 ((v.snd k).snd.fst)), .p (.int .i64 ((v.snd k).snd.snd.fst)), .p (.int .i64 ((v.snd k).snd.snd.snd.fst))]] [] (.p (.bool true)),
  ((!true) = false),
  (((-9223372036854775808) : Int) ≤ ((↑k : Int) + 1)),
  ((((↑k : Int) + 1) : Int) ≤ 9223372036854775807),
  (((v.fst) : Nat) = (v.fst)),
  (∀ i : Nat, ((((i) : Nat) < (v.fst)) → (([.int .i64 ((v.snd i).fst), .int .i64 ((v.snd i).snd.fst), .int .i64 ((v.snd i).snd.snd.fst), .int .i64 ((v.snd i).snd.snd.snd.fst)] : List PV) = [.int .i64 ((v.snd i).fst), .int .i64 ((v.snd i).snd.fst), .int .i64 ((v.snd i).snd.snd.fst), .int .i64 ((v.snd i).snd.snd.snd.fst)]))),
  (((v.fst) : Nat) = (v.fst)),
  (∀ i : Nat, ((((i) : Nat) < (v.fst)) → (([.int .i64 ((v.snd i).fst), .int .i64 ((v.snd i).snd.fst), .int .i64 ((v.snd i).snd.snd.fst), .int .i64 ((v.snd i).snd.snd.snd.fst)] : List PV) = [.int .i64 ((v.snd i).fst), .int .i64 ((v.snd i).snd.fst), .int .i64 ((v.snd i).snd.snd.fst), .int .i64 ((v.snd i).snd.snd.snd.fst)]))),
  ((((↑k : Int) + 1) : Int) = ((↑(k + 1) : Int)))]) := by kernel_rfl

theorem p_eqGainBarS_c (v : T_GainBarS) (k : Nat) :
    pathOb Try.prog Try.f47 0 [.reg [oT, oT, oT, oT], .dec false, .reg [oT]] [.code (cAt (bodyOf Try.f47) [1, 1, 0, 1, 0, 0]), .inLoop (cAt (bodyOf Try.f47) [1, 1, 0, 1, 0, 0]), .inBlock 0, .code (cAt (bodyOf Try.f47) [1, 1, 1])] (S_eqGainBarS v k) [] 1 [] (.p (.bool true)) =
    some [((decide ((↑k : Int) < (↑v.fst : Int))) = false),
  (true = true)] := by kernel_rfl

theorem p_eqGainGraph (v : T_GainGraph) :
    pathOb Try.prog Try.f14 0 [.reg [oT, oT, oT], .reg [oT, oT, oT, oT, oT], .dec false, .reg [oT, oT, oT, oT, ⟨true, (some ⟨[], [], 1, [], .p (.bool true)⟩), none⟩, oT], .dec false, .reg [oT]] [.code (bodyOf Try.f14)] (start Try.f14 [] 0 [.agg [.p (.int .i64 (v.1)), .p (.seq true 4 (v.2.1.1) (fun i => [.int .i64 ((v.2.1.2 i).1), .int .i64 ((v.2.1.2 i).2.1), .int .i64 ((v.2.1.2 i).2.2.1), .int .i64 ((v.2.1.2 i).2.2.2.1)]))], .agg [.p (.int .i64 (v.1)), .p (.seq true 4 (v.2.1.1) (fun i => [.int .i64 ((v.2.1.2 i).1), .int .i64 ((v.2.1.2 i).2.1), .int .i64 ((v.2.1.2 i).2.2.1), .int .i64 ((v.2.1.2 i).2.2.2.1)]))]]) [] 1 [] (.p (.bool true)) =
    some [((0 : Nat) < 1),
  ((0 : Nat) < 1),
  ((v.fst != v.fst) = false),
  ((0 : Nat) < 1),
  ((0 : Nat) < 1),
  Con (Try.prog) 47 0 [] [.p (.seq true 4 (v.snd.fst.fst) (fun i => [.int .i64 ((v.snd.fst.snd i).fst), .int .i64 ((v.snd.fst.snd i).snd.fst), .int .i64 ((v.snd.fst.snd i).snd.snd.fst), .int .i64 ((v.snd.fst.snd i).snd.snd.snd.fst)])), .p (.seq true 4 (v.snd.fst.fst) (fun i => [.int .i64 ((v.snd.fst.snd i).fst), .int .i64 ((v.snd.fst.snd i).snd.fst), .int .i64 ((v.snd.fst.snd i).snd.snd.fst), .int .i64 ((v.snd.fst.snd i).snd.snd.snd.fst)]))] [] (.p (.bool true)),
  ((!true) = false),
  (true = true)] := by kernel_rfl

theorem p_eqIntS_a (v : T_IntS) :
    pieceOb Try.prog 0 [.reg [oT], .reg [oT, oT, oT, oT, oT], .dec false, .reg [oT], .head] [.code (bodyOf Try.f15)] (start Try.f15 [] 0 [.p (.seq true 1 (v.1) (fun i => [.int .i64 ((v.2 i))])), .p (.seq true 1 (v.1) (fun i => [.int .i64 ((v.2 i))]))]) [] 1 (S_eqIntS v 0) =
    some ([.code (cAt (bodyOf Try.f15) [1, 1, 0, 1, 0, 0]), .inLoop (cAt (bodyOf Try.f15) [1, 1, 0, 1, 0, 0]), .inBlock 0, .code (cAt (bodyOf Try.f15) [1, 1, 1])], [(((↑v.fst : Int) != (↑v.fst : Int)) = false),
  (((v.fst) : Nat) = (v.fst)),
  (∀ i : Nat, ((((i) : Nat) < (v.fst)) → (([.int .i64 (v.snd i)] : List PV) = [.int .i64 (v.snd i)]))),
  (((v.fst) : Nat) = (v.fst)),
  (∀ i : Nat, ((((i) : Nat) < (v.fst)) → (([.int .i64 (v.snd i)] : List PV) = [.int .i64 (v.snd i)]))),
  ((0 : Int) = ((↑0 : Int)))]) := by kernel_rfl

theorem p_eqIntS_b (v : T_IntS) (k : Nat) :
    pieceOb Try.prog 0 [.reg [oT, oT, oT, oT], .dec true, .reg [oT, oT, oT, oT, oT, oT, oT, oT, oT], .dec false, .reg [oT, oT, oT], .head] [.code (cAt (bodyOf Try.f15) [1, 1, 0, 1, 0, 0]), .inLoop (cAt (bodyOf Try.f15) [1, 1, 0, 1, 0, 0]), .inBlock 0, .code (cAt (bodyOf Try.f15) [1, 1, 1])] (S_eqIntS v k) [] 1 (S_eqIntS v (k + 1)) =
    some ([.code (cAt (bodyOf Try.f15) [1, 1, 0, 1, 0, 0]), .inLoop (cAt (bodyOf Try.f15) [1, 1, 0, 1, 0, 0]), .inBlock 0, .code (cAt (bodyOf Try.f15) [1, 1, 1])], [((decide ((↑k : Int) < (↑v.fst : Int))) = true),
  ((0 : Int) ≤ ((↑k : Int))),
  ((((↑k : Int)) : Int) < ((↑v.fst : Int))),
  ((0 : Int) ≤ ((↑k : Int))),
  ((((↑k : Int)) : Int) < ((↑v.fst : Int))),
  ((v.snd k != v.snd k) = false),
  (((-9223372036854775808) : Int) ≤ ((↑k : Int) + 1)),
  ((((↑k : Int) + 1) : Int) ≤ 9223372036854775807),
  (((v.fst) : Nat) = (v.fst)),
  (∀ i : Nat, ((((i) : Nat) < (v.fst)) → (([.int .i64 (v.snd i)] : List PV) = [.int .i64 (v.snd i)]))),
  (((v.fst) : Nat) = (v.fst)),
  (∀ i : Nat, ((((i) : Nat) < (v.fst)) → (([.int .i64 (v.snd i)] : List PV) = [.int .i64 (v.snd i)]))),
  ((((↑k : Int) + 1) : Int) = ((↑(k + 1) : Int)))]) := by kernel_rfl

theorem p_eqIntS_c (v : T_IntS) (k : Nat) :
    pathOb Try.prog Try.f15 0 [.reg [oT, oT, oT, oT], .dec false, .reg [oT]] [.code (cAt (bodyOf Try.f15) [1, 1, 0, 1, 0, 0]), .inLoop (cAt (bodyOf Try.f15) [1, 1, 0, 1, 0, 0]), .inBlock 0, .code (cAt (bodyOf Try.f15) [1, 1, 1])] (S_eqIntS v k) [] 1 [] (.p (.bool true)) =
    some [((decide ((↑k : Int) < (↑v.fst : Int))) = false),
  (true = true)] := by kernel_rfl

theorem con_szGainBarS (v : T_GainBarS) (k : okS s_GainBarS v) (m : Int) (h0 : 0 ≤ m) (h1 : m ≤ 1048576) : Con Try.prog 41 0 [] [.p (.seq true 4 (v.1) (fun i => [.int .i64 ((v.2 i).1), .int .i64 ((v.2 i).2.1), .int .i64 ((v.2 i).2.2.1), .int .i64 ((v.2 i).2.2.2.1)])), .p (.int .i64 m)] [] (.p (.int .i64 (f_szGainBarS v m))) := by
  refine con_start Try.func41 rfl (by kernel_rfl) rfl (fun c hc => ?_)
  have hn := k.1
  by_cases h : m - v.1 < 0
  · rw [show f_szGainBarS v m = -1 by simp [f_szGainBarS, h]]
    refine path_ok mixed Try.func41 hc (p_szGainBarS_a v m) ?_
    simp only [All]
    repeat' (first | exact trivial | with_reducible apply And.intro)
    all_goals (first | omega | rfl | (intros; first | assumption | exact True.intro | rfl | exact absurd (show false = true by assumption) Bool.false_ne_true | ((repeat' (first | assumption | apply anda | apply notf)); done)) | (simp; omega))
  · rw [show f_szGainBarS v m = m - v.1 by simp [f_szGainBarS, h]]
    refine path_ok mixed Try.func41 hc (p_szGainBarS_b v m) ?_
    simp only [All]
    repeat' (first | exact trivial | with_reducible apply And.intro)
    all_goals (first | omega | rfl | (intros; first | assumption | exact True.intro | rfl | exact absurd (show false = true by assumption) Bool.false_ne_true | ((repeat' (first | assumption | apply anda | apply notf)); done)) | (simp; omega))

theorem le_szGainBarS (v : T_GainBarS) (m : Int) (h0 : 0 ≤ m) : f_szGainBarS v m ≤ m := by
  unfold f_szGainBarS; split <;> omega

theorem sm_szGainBarS (v : T_GainBarS) (m : Int) (h1 : m ≤ 1048576) (h : ¬ f_szGainBarS v m < 0) : smS s_GainBarS v := by
  unfold f_szGainBarS at h
  split at h
  · omega
  · exact ⟨by omega, fun i hi => by simp [smS, smL]⟩

theorem con_szGainGraph (v : T_GainGraph) (k : okS s_GainGraph v) (m : Int) (h0 : 0 ≤ m) (h1 : m ≤ 1048576) : Con Try.prog 9 0 [] [.agg [.p (.int .i64 (v.1)), .p (.seq true 4 (v.2.1.1) (fun i => [.int .i64 ((v.2.1.2 i).1), .int .i64 ((v.2.1.2 i).2.1), .int .i64 ((v.2.1.2 i).2.2.1), .int .i64 ((v.2.1.2 i).2.2.2.1)]))], .p (.int .i64 m)] [] (.p (.int .i64 (f_szGainGraph v m))) := by
  refine con_start Try.func9 rfl (by kernel_rfl) rfl (fun c hc => ?_)
  have l0 := le_szGainBarS v.2.1 m (by omega)
  by_cases g0 : (f_szGainBarS v.2.1 m) < 0
  · rw [show f_szGainGraph v m = -1 by simp [f_szGainGraph, g0]]
    refine path_ok mixed Try.func9 hc (p_szGainGraph_0 v m) ?_
    simp only [All]
    repeat' (first | exact trivial | with_reducible apply And.intro)
    all_goals (first | omega | rfl | (intros; first | assumption | exact True.intro | rfl | exact absurd (show false = true by assumption) Bool.false_ne_true | ((repeat' (first | assumption | apply anda | apply notf)); done)) | (exact con_szGainBarS v.2.1 k.2.1 m (by omega) (by omega)) | (simp; omega))
  rw [show f_szGainGraph v m = (f_szGainBarS v.2.1 m) by simp [f_szGainGraph, g0]]
  refine path_ok mixed Try.func9 hc (p_szGainGraph_e v m) ?_
  simp only [All]
  repeat' (first | exact trivial | with_reducible apply And.intro)
  all_goals (first | omega | rfl | (intros; first | assumption | exact True.intro | rfl | exact absurd (show false = true by assumption) Bool.false_ne_true | ((repeat' (first | assumption | apply anda | apply notf)); done)) | (exact con_szGainBarS v.2.1 k.2.1 m (by omega) (by omega)) | (simp; omega))

theorem le_szGainGraph (v : T_GainGraph) (m : Int) (h0 : 0 ≤ m) : f_szGainGraph v m ≤ m := by
  have l0 := le_szGainBarS v.2.1 m h0
  by_cases g0 : (f_szGainBarS v.2.1 m) < 0
  · simp only [f_szGainGraph, g0, if_true, if_false]; omega
  simp only [f_szGainGraph, g0, if_false]; omega

theorem sm_szGainGraph (v : T_GainGraph) (m : Int) (h0 : 0 ≤ m) (h1 : m ≤ 1048576) (h : ¬ f_szGainGraph v m < 0) : smS s_GainGraph v := by
  have l0 := le_szGainBarS v.2.1 m (by omega)
  have g0 : ¬ (f_szGainBarS v.2.1 m) < 0 := by
    intro g; apply h; simp only [f_szGainGraph, g, if_true, if_false]; omega
  exact ⟨by simp [smS, smL], sm_szGainBarS v.2.1 m (by omega) g0, True.intro⟩

theorem con_toGainBar (v : T_GainBar) (hs : smS s_GainBar v) : Con Try.prog 82 0 [] [.agg [.p (.int .i64 (v.1)), .p (.int .i64 (v.2.1)), .p (.int .i64 (v.2.2.1)), .p (.int .i64 (v.2.2.2.1))]] [] (.agg [.p (.int .i64 (v.1)), .p (.int .i64 (v.2.1)), .p (.int .i64 (v.2.2.1)), .p (.int .i64 (v.2.2.2.1))]) := by
  refine con_start Try.func82 rfl (by kernel_rfl) rfl (fun c hc => ?_)
  refine path_ok mixed Try.func82 hc (p_toGainBar v) ?_
  simp only [All]
  repeat' (first | exact trivial | with_reducible apply And.intro)
  all_goals (first | omega | rfl | (intros; first | assumption | exact True.intro | rfl | exact absurd (show false = true by assumption) Bool.false_ne_true | ((repeat' (first | assumption | apply anda | apply notf)); done)) | (intro i hi; simp [hi, All]))

theorem con_toGainBarS (v : T_GainBarS) (hs : smS s_GainBarS v) : Con Try.prog 43 0 [] [.p (.seq true 4 (v.1) (fun i => [.int .i64 ((v.2 i).1), .int .i64 ((v.2 i).2.1), .int .i64 ((v.2 i).2.2.1), .int .i64 ((v.2 i).2.2.2.1)]))] [(0, ⟨false, 4, v.1, fun i => [.p (.int .i64 ((v.2 i).1)), .p (.int .i64 ((v.2 i).2.1)), .p (.int .i64 ((v.2 i).2.2.1)), .p (.int .i64 ((v.2 i).2.2.2.1))]⟩)] (.ar 4 0 0 (v.1)) := by
  refine con_start Try.func43 rfl (by kernel_rfl) rfl (fun c hc => ?_)
  have hn := hs.1
  have lp : ∀ m k, k + m = v.1 → Run Try.prog c 43 [.code (cAt (bodyOf Try.f43) [1, 1, 0, 1, 0, 0]), .inLoop (cAt (bodyOf Try.f43) [1, 1, 0, 1, 0, 0]), .inBlock 0, .code (cAt (bodyOf Try.f43) [1, 1, 1])] (S_toGainBarS v k) (Post c [(0, ⟨false, 4, v.1, fun i => [.p (.int .i64 ((v.2 i).1)), .p (.int .i64 ((v.2 i).2.1)), .p (.int .i64 ((v.2 i).2.2.1)), .p (.int .i64 ((v.2 i).2.2.2.1))]⟩)] (.ar 4 0 0 (v.1))) := by
    intro m
    induction m with
    | zero =>
      intro k hk
      refine path_ok mixed Try.func43 hc (p_toGainBarS_c v k) ?_
      simp only [All]
      repeat' (first | exact trivial | with_reducible apply And.intro)
      all_goals (first | omega | rfl | (intros; first | assumption | exact True.intro | rfl | exact absurd (show false = true by assumption) Bool.false_ne_true | ((repeat' (first | assumption | apply anda | apply notf)); done)) | (intro i hi; (have hik : i < k := by omega); simp [hik, All]) | (simp; try omega))
    | succ m ih =>
      intro k hk
      have hlt : decide ((k : Int) < (v.1 : Int)) = true := by simp; omega
      refine piece_ok mixed hc (p_toGainBarS_b v k) ?_ (ih (k + 1) (by omega))
      simp only [All]
      repeat' (first | exact trivial | with_reducible apply And.intro)
      all_goals (first | omega | rfl | (intros; first | assumption | exact True.intro | rfl | exact absurd (show false = true by assumption) Bool.false_ne_true | ((repeat' (first | assumption | apply anda | apply notf)); done)) | (exact con_toGainBar (v.2 k) (hs.2 k (by omega))) | (intro i hi; by_cases h : i = k <;> simp [h, Nat.lt_succ_iff_lt_or_eq, cvtL, cvt, tg, tru, All]))
  refine piece_ok mixed hc (p_toGainBarS_a v) ?_ (lp v.1 0 (by omega))
  simp only [All]
  repeat' (first | exact trivial | with_reducible apply And.intro)
  all_goals (first | omega | rfl | (intros; first | assumption | exact True.intro | rfl | exact absurd (show false = true by assumption) Bool.false_ne_true | ((repeat' (first | assumption | apply anda | apply notf)); done)) | (intro i hi; simp [All]))

theorem con_toGainGraph (v : T_GainGraph) (hs : smS s_GainGraph v) : Con Try.prog 11 0 [] [.agg [.p (.int .i64 (v.1)), .p (.seq true 4 (v.2.1.1) (fun i => [.int .i64 ((v.2.1.2 i).1), .int .i64 ((v.2.1.2 i).2.1), .int .i64 ((v.2.1.2 i).2.2.1), .int .i64 ((v.2.1.2 i).2.2.2.1)]))]] [(0, ⟨false, 4, v.2.1.1, fun i => [.p (.int .i64 ((v.2.1.2 i).1)), .p (.int .i64 ((v.2.1.2 i).2.1)), .p (.int .i64 ((v.2.1.2 i).2.2.1)), .p (.int .i64 ((v.2.1.2 i).2.2.2.1))]⟩)] (.agg [.p (.int .i64 (v.1)), .ar 4 0 0 (v.2.1.1)]) := by
  refine con_start Try.func11 rfl (by kernel_rfl) rfl (fun c hc => ?_)
  refine path_ok mixed Try.func11 hc (p_toGainGraph v) ?_
  simp only [All]
  repeat' (first | exact trivial | with_reducible apply And.intro)
  all_goals (first | omega | rfl | (intros; first | assumption | exact True.intro | rfl | exact absurd (show false = true by assumption) Bool.false_ne_true | ((repeat' (first | assumption | apply anda | apply notf)); done)) | (exact con_toGainBarS v.2.1 hs.2.1) | (intro i hi; simp [hi, All]))

theorem con_toIntS (v : T_IntS) (hs : smS s_IntS v) : Con Try.prog 12 0 [] [.p (.seq true 1 (v.1) (fun i => [.int .i64 ((v.2 i))]))] [(0, ⟨false, 1, v.1, fun i => [.p (.int .i64 ((v.2 i)))]⟩)] (.ar 1 0 0 (v.1)) := by
  refine con_start Try.func12 rfl (by kernel_rfl) rfl (fun c hc => ?_)
  have hn := hs.1
  have lp : ∀ m k, k + m = v.1 → Run Try.prog c 12 [.code (cAt (bodyOf Try.f12) [1, 1, 0, 1, 0, 0]), .inLoop (cAt (bodyOf Try.f12) [1, 1, 0, 1, 0, 0]), .inBlock 0, .code (cAt (bodyOf Try.f12) [1, 1, 1])] (S_toIntS v k) (Post c [(0, ⟨false, 1, v.1, fun i => [.p (.int .i64 ((v.2 i)))]⟩)] (.ar 1 0 0 (v.1))) := by
    intro m
    induction m with
    | zero =>
      intro k hk
      refine path_ok mixed Try.func12 hc (p_toIntS_c v k) ?_
      simp only [All]
      repeat' (first | exact trivial | with_reducible apply And.intro)
      all_goals (first | omega | rfl | (intros; first | assumption | exact True.intro | rfl | exact absurd (show false = true by assumption) Bool.false_ne_true | ((repeat' (first | assumption | apply anda | apply notf)); done)) | (intro i hi; (have hik : i < k := by omega); simp [hik, All]) | (simp; try omega))
    | succ m ih =>
      intro k hk
      have hlt : decide ((k : Int) < (v.1 : Int)) = true := by simp; omega
      refine piece_ok mixed hc (p_toIntS_b v k) ?_ (ih (k + 1) (by omega))
      simp only [All]
      repeat' (first | exact trivial | with_reducible apply And.intro)
      all_goals (first | omega | rfl | (intros; first | assumption | exact True.intro | rfl | exact absurd (show false = true by assumption) Bool.false_ne_true | ((repeat' (first | assumption | apply anda | apply notf)); done)) | (intro i hi; by_cases h : i = k <;> simp [h, Nat.lt_succ_iff_lt_or_eq, cvtL, cvt, tg, tru, All]))
  refine piece_ok mixed hc (p_toIntS_a v) ?_ (lp v.1 0 (by omega))
  simp only [All]
  repeat' (first | exact trivial | with_reducible apply And.intro)
  all_goals (first | omega | rfl | (intros; first | assumption | exact True.intro | rfl | exact absurd (show false = true by assumption) Bool.false_ne_true | ((repeat' (first | assumption | apply anda | apply notf)); done)) | (intro i hi; simp [All]))

theorem con_eqGainBar (v : T_GainBar) (hs : smS s_GainBar v) : Con Try.prog 83 0 [] [.agg [.p (.int .i64 (v.1)), .p (.int .i64 (v.2.1)), .p (.int .i64 (v.2.2.1)), .p (.int .i64 (v.2.2.2.1))], .agg [.p (.int .i64 (v.1)), .p (.int .i64 (v.2.1)), .p (.int .i64 (v.2.2.1)), .p (.int .i64 (v.2.2.2.1))]] [] (.p (.bool true)) := by
  refine con_start Try.func83 rfl (by kernel_rfl) rfl (fun c hc => ?_)
  refine path_ok mixed Try.func83 hc (p_eqGainBar v) ?_
  simp only [All]
  repeat' (first | exact trivial | with_reducible apply And.intro)
  all_goals (first | omega | rfl | (intros; first | assumption | exact True.intro | rfl | exact absurd (show false = true by assumption) Bool.false_ne_true | ((repeat' (first | assumption | apply anda | apply notf)); done)) | simp)

theorem con_eqGainBarS (v : T_GainBarS) (hs : smS s_GainBarS v) : Con Try.prog 47 0 [] [.p (.seq true 4 (v.1) (fun i => [.int .i64 ((v.2 i).1), .int .i64 ((v.2 i).2.1), .int .i64 ((v.2 i).2.2.1), .int .i64 ((v.2 i).2.2.2.1)])), .p (.seq true 4 (v.1) (fun i => [.int .i64 ((v.2 i).1), .int .i64 ((v.2 i).2.1), .int .i64 ((v.2 i).2.2.1), .int .i64 ((v.2 i).2.2.2.1)]))] [] (.p (.bool true)) := by
  refine con_start Try.func47 rfl (by kernel_rfl) rfl (fun c hc => ?_)
  have hn := hs.1
  have lp : ∀ m k, k + m = v.1 → Run Try.prog c 47 [.code (cAt (bodyOf Try.f47) [1, 1, 0, 1, 0, 0]), .inLoop (cAt (bodyOf Try.f47) [1, 1, 0, 1, 0, 0]), .inBlock 0, .code (cAt (bodyOf Try.f47) [1, 1, 1])] (S_eqGainBarS v k) (Post c [] (.p (.bool true))) := by
    intro m
    induction m with
    | zero =>
      intro k hk
      refine path_ok mixed Try.func47 hc (p_eqGainBarS_c v k) ?_
      simp only [All]
      repeat' (first | exact trivial | with_reducible apply And.intro)
      all_goals (first | omega | rfl | (intros; first | assumption | exact True.intro | rfl | exact absurd (show false = true by assumption) Bool.false_ne_true | ((repeat' (first | assumption | apply anda | apply notf)); done)) | (simp; try omega))
    | succ m ih =>
      intro k hk
      have hlt : decide ((k : Int) < (v.1 : Int)) = true := by simp; omega
      refine piece_ok mixed hc (p_eqGainBarS_b v k) ?_ (ih (k + 1) (by omega))
      simp only [All]
      repeat' (first | exact trivial | with_reducible apply And.intro)
      all_goals (first | omega | rfl | (intros; first | assumption | exact True.intro | rfl | exact absurd (show false = true by assumption) Bool.false_ne_true | ((repeat' (first | assumption | apply anda | apply notf)); done)) | (exact con_eqGainBar (v.2 k) (hs.2 k (by omega))) | simp)
  refine piece_ok mixed hc (p_eqGainBarS_a v) ?_ (lp v.1 0 (by omega))
  simp only [All]
  repeat' (first | exact trivial | with_reducible apply And.intro)
  all_goals (first | omega | rfl | (intros; first | assumption | exact True.intro | rfl | exact absurd (show false = true by assumption) Bool.false_ne_true | ((repeat' (first | assumption | apply anda | apply notf)); done)) | simp)

theorem con_eqGainGraph (v : T_GainGraph) (hs : smS s_GainGraph v) : Con Try.prog 14 0 [] [.agg [.p (.int .i64 (v.1)), .p (.seq true 4 (v.2.1.1) (fun i => [.int .i64 ((v.2.1.2 i).1), .int .i64 ((v.2.1.2 i).2.1), .int .i64 ((v.2.1.2 i).2.2.1), .int .i64 ((v.2.1.2 i).2.2.2.1)]))], .agg [.p (.int .i64 (v.1)), .p (.seq true 4 (v.2.1.1) (fun i => [.int .i64 ((v.2.1.2 i).1), .int .i64 ((v.2.1.2 i).2.1), .int .i64 ((v.2.1.2 i).2.2.1), .int .i64 ((v.2.1.2 i).2.2.2.1)]))]] [] (.p (.bool true)) := by
  refine con_start Try.func14 rfl (by kernel_rfl) rfl (fun c hc => ?_)
  refine path_ok mixed Try.func14 hc (p_eqGainGraph v) ?_
  simp only [All]
  repeat' (first | exact trivial | with_reducible apply And.intro)
  all_goals (first | omega | rfl | (intros; first | assumption | exact True.intro | rfl | exact absurd (show false = true by assumption) Bool.false_ne_true | ((repeat' (first | assumption | apply anda | apply notf)); done)) | (exact con_eqGainBarS v.2.1 hs.2.1) | simp)

theorem con_eqIntS (v : T_IntS) (hs : smS s_IntS v) : Con Try.prog 15 0 [] [.p (.seq true 1 (v.1) (fun i => [.int .i64 ((v.2 i))])), .p (.seq true 1 (v.1) (fun i => [.int .i64 ((v.2 i))]))] [] (.p (.bool true)) := by
  refine con_start Try.func15 rfl (by kernel_rfl) rfl (fun c hc => ?_)
  have hn := hs.1
  have lp : ∀ m k, k + m = v.1 → Run Try.prog c 15 [.code (cAt (bodyOf Try.f15) [1, 1, 0, 1, 0, 0]), .inLoop (cAt (bodyOf Try.f15) [1, 1, 0, 1, 0, 0]), .inBlock 0, .code (cAt (bodyOf Try.f15) [1, 1, 1])] (S_eqIntS v k) (Post c [] (.p (.bool true))) := by
    intro m
    induction m with
    | zero =>
      intro k hk
      refine path_ok mixed Try.func15 hc (p_eqIntS_c v k) ?_
      simp only [All]
      repeat' (first | exact trivial | with_reducible apply And.intro)
      all_goals (first | omega | rfl | (intros; first | assumption | exact True.intro | rfl | exact absurd (show false = true by assumption) Bool.false_ne_true | ((repeat' (first | assumption | apply anda | apply notf)); done)) | (simp; try omega))
    | succ m ih =>
      intro k hk
      have hlt : decide ((k : Int) < (v.1 : Int)) = true := by simp; omega
      refine piece_ok mixed hc (p_eqIntS_b v k) ?_ (ih (k + 1) (by omega))
      simp only [All]
      repeat' (first | exact trivial | with_reducible apply And.intro)
      all_goals (first | omega | rfl | (intros; first | assumption | exact True.intro | rfl | exact absurd (show false = true by assumption) Bool.false_ne_true | ((repeat' (first | assumption | apply anda | apply notf)); done)) | simp)
  refine piece_ok mixed hc (p_eqIntS_a v) ?_ (lp v.1 0 (by omega))
  simp only [All]
  repeat' (first | exact trivial | with_reducible apply And.intro)
  all_goals (first | omega | rfl | (intros; first | assumption | exact True.intro | rfl | exact absurd (show false = true by assumption) Bool.false_ne_true | ((repeat' (first | assumption | apply anda | apply notf)); done)) | simp)

end Go.Proofs.Ytgddbgmnehkblab.Mach
